/- Short words for the chains of lifted proofs; checks done by themselves. Its conditions: none. -/
import Derived.Test.YtljbmnknmhogaaaMapT
import Derived.Test.YtljbmnknmhogaaaTreeOT
import Derived.Test.YtljbmnknmhogaaaAnyLT
import Derived.Test.YtljbmnknmhogaaaLocalT
namespace Go.Proofs.Ytljbmnknmhogaaa
set_option linter.unusedVariables false
set_option linter.unusedSimpArgs false
section
variable {α:Type _} {l m:List α}
theorem kp0:List.Sublist ([] : List α) l:=List.nil_sublist _
theorem kpr:List.Sublist l l:=List.Sublist.refl _
theorem kp1 {x0:α} (h:l.Sublist m) : (x0::l).Sublist (x0::m):=h.cons_cons _
theorem kp2 {x0 x1:α} (h:l.Sublist m) : (x0::x1::l).Sublist (x0::x1::m):=(kp1 h).cons_cons _
theorem kp3 {x0 x1 x2:α} (h:l.Sublist m) : (x0::x1::x2::l).Sublist (x0::x1::x2::m):=(kp2 h).cons_cons _
theorem kp4 {x0 x1 x2 x3:α} (h:l.Sublist m) : (x0::x1::x2::x3::l).Sublist (x0::x1::x2::x3::m):=(kp3 h).cons_cons _
theorem kp5 {x0 x1 x2 x3 x4:α} (h:l.Sublist m) : (x0::x1::x2::x3::x4::l).Sublist (x0::x1::x2::x3::x4::m):=(kp4 h).cons_cons _
theorem kp6 {x0 x1 x2 x3 x4 x5:α} (h:l.Sublist m) : (x0::x1::x2::x3::x4::x5::l).Sublist (x0::x1::x2::x3::x4::x5::m):=(kp5 h).cons_cons _
theorem kp7 {x0 x1 x2 x3 x4 x5 x6:α} (h:l.Sublist m) : (x0::x1::x2::x3::x4::x5::x6::l).Sublist (x0::x1::x2::x3::x4::x5::x6::m):=(kp6 h).cons_cons _
theorem kp8 {x0 x1 x2 x3 x4 x5 x6 x7:α} (h:l.Sublist m) : (x0::x1::x2::x3::x4::x5::x6::x7::l).Sublist (x0::x1::x2::x3::x4::x5::x6::x7::m):=(kp7 h).cons_cons _
theorem dr1 {x0:α} (h:l.Sublist m) : l.Sublist (x0::m):=h.cons _
theorem dr2 {x0 x1:α} (h:l.Sublist m) : l.Sublist (x0::x1::m):=(dr1 h).cons _
theorem dr3 {x0 x1 x2:α} (h:l.Sublist m) : l.Sublist (x0::x1::x2::m):=(dr2 h).cons _
theorem dr4 {x0 x1 x2 x3:α} (h:l.Sublist m) : l.Sublist (x0::x1::x2::x3::m):=(dr3 h).cons _
theorem dr5 {x0 x1 x2 x3 x4:α} (h:l.Sublist m) : l.Sublist (x0::x1::x2::x3::x4::m):=(dr4 h).cons _
theorem dr6 {x0 x1 x2 x3 x4 x5:α} (h:l.Sublist m) : l.Sublist (x0::x1::x2::x3::x4::x5::m):=(dr5 h).cons _
theorem dr7 {x0 x1 x2 x3 x4 x5 x6:α} (h:l.Sublist m) : l.Sublist (x0::x1::x2::x3::x4::x5::x6::m):=(dr6 h).cons _
theorem dr8 {x0 x1 x2 x3 x4 x5 x6 x7:α} (h:l.Sublist m) : l.Sublist (x0::x1::x2::x3::x4::x5::x6::x7::m):=(dr7 h).cons _
theorem dr9 {x0 x1 x2 x3 x4 x5 x6 x7 x8:α} (h:l.Sublist m) : l.Sublist (x0::x1::x2::x3::x4::x5::x6::x7::x8::m):=(dr8 h).cons _
end
class Steady {α:Type} (E:Enc α) : Prop where
 st : ∀ V V' cs x,E.rep V cs x→E.rep V' cs x
instance :Steady (eK .i64):=⟨fun _ _ _ _ h=>h⟩
instance :Steady eBool:=⟨fun _ _ _ _ h=>h⟩
instance :Steady eSpot:=⟨fun _ _ _ _ h=>h⟩
instance :Steady eElem:=⟨fun _ _ _ _ h=>h⟩
instance :Steady eHdr:=⟨fun _ _ _ _ h=>h⟩
instance :Steady ebuild_low:=⟨fun _ _ _ _ h=>h⟩
theorem ol0:OldAll []:=OldAll.nil
theorem oB1 {b0:Nat} {t0:TypeId} {d0:List Value} {H:List HObj} (h:OldAll H) : OldAll (box b0 t0 d0::H):=OldAll.box h
theorem oB2 {b0:Nat} {t0:TypeId} {d0:List Value} {b1:Nat} {t1:TypeId} {d1:List Value} {H:List HObj} (h:OldAll H) : OldAll (box b0 t0 d0::box b1 t1 d1::H):=OldAll.box (oB1 h)
theorem oB3 {b0:Nat} {t0:TypeId} {d0:List Value} {b1:Nat} {t1:TypeId} {d1:List Value} {b2:Nat} {t2:TypeId} {d2:List Value} {H:List HObj} (h:OldAll H) : OldAll (box b0 t0 d0::box b1 t1 d1::box b2 t2 d2::H):=OldAll.box (oB2 h)
theorem oB4 {b0:Nat} {t0:TypeId} {d0:List Value} {b1:Nat} {t1:TypeId} {d1:List Value} {b2:Nat} {t2:TypeId} {d2:List Value} {b3:Nat} {t3:TypeId} {d3:List Value} {H:List HObj} (h:OldAll H) : OldAll (box b0 t0 d0::box b1 t1 d1::box b2 t2 d2::box b3 t3 d3::H):=OldAll.box (oB3 h)
theorem oB5 {b0:Nat} {t0:TypeId} {d0:List Value} {b1:Nat} {t1:TypeId} {d1:List Value} {b2:Nat} {t2:TypeId} {d2:List Value} {b3:Nat} {t3:TypeId} {d3:List Value} {b4:Nat} {t4:TypeId} {d4:List Value} {H:List HObj} (h:OldAll H) : OldAll (box b0 t0 d0::box b1 t1 d1::box b2 t2 d2::box b3 t3 d3::box b4 t4 d4::H):=OldAll.box (oB4 h)
section
variable {α:Type _} {l m n:List α}
theorem pz:l.Perm l:=List.Perm.refl _
theorem pt (h:l.Perm m) (k:m.Perm n) : l.Perm n:=List.Perm.trans h k
theorem sw0 {a b:α} : (b::a::l).Perm (a::b::l):=List.Perm.swap _ _ _
theorem sw1 {x0 a b:α} : (x0::b::a::l).Perm (x0::a::b::l):=(sw0).cons _
theorem sw2 {x0 x1 a b:α} : (x0::x1::b::a::l).Perm (x0::x1::a::b::l):=(sw1).cons _
theorem sw3 {x0 x1 x2 a b:α} : (x0::x1::x2::b::a::l).Perm (x0::x1::x2::a::b::l):=(sw2).cons _
theorem sw4 {x0 x1 x2 x3 a b:α} : (x0::x1::x2::x3::b::a::l).Perm (x0::x1::x2::x3::a::b::l):=(sw3).cons _
theorem sw5 {x0 x1 x2 x3 x4 a b:α} : (x0::x1::x2::x3::x4::b::a::l).Perm (x0::x1::x2::x3::x4::a::b::l):=(sw4).cons _
theorem sw6 {x0 x1 x2 x3 x4 x5 a b:α} : (x0::x1::x2::x3::x4::x5::b::a::l).Perm (x0::x1::x2::x3::x4::x5::a::b::l):=(sw5).cons _
theorem sw7 {x0 x1 x2 x3 x4 x5 x6 a b:α} : (x0::x1::x2::x3::x4::x5::x6::b::a::l).Perm (x0::x1::x2::x3::x4::x5::x6::a::b::l):=(sw6).cons _
theorem sw8 {x0 x1 x2 x3 x4 x5 x6 x7 a b:α} : (x0::x1::x2::x3::x4::x5::x6::x7::b::a::l).Perm (x0::x1::x2::x3::x4::x5::x6::x7::a::b::l):=(sw7).cons _
theorem sw9 {x0 x1 x2 x3 x4 x5 x6 x7 x8 a b:α} : (x0::x1::x2::x3::x4::x5::x6::x7::x8::b::a::l).Perm (x0::x1::x2::x3::x4::x5::x6::x7::x8::a::b::l):=(sw8).cons _
theorem qp {x0 x1 x2 x3 x4 x5 x6 x7 x8 x9 a b:α} : (x0::x1::x2::x3::x4::x5::x6::x7::x8::x9::b::a::l).Perm (x0::x1::x2::x3::x4::x5::x6::x7::x8::x9::a::b::l):=(sw9).cons _
theorem rh {x0 x1 x2 x3 x4 x5 x6 x7 x8 x9 x10 a b:α} : (x0::x1::x2::x3::x4::x5::x6::x7::x8::x9::x10::b::a::l).Perm (x0::x1::x2::x3::x4::x5::x6::x7::x8::x9::x10::a::b::l):=(qp).cons _
theorem rt {x0 x1 x2 x3 x4 x5 x6 x7 x8 x9 x10 x11 a b:α} : (x0::x1::x2::x3::x4::x5::x6::x7::x8::x9::x10::x11::b::a::l).Perm (x0::x1::x2::x3::x4::x5::x6::x7::x8::x9::x10::x11::a::b::l):=(rh).cons _
theorem rB {x0 x1 x2 x3 x4 x5 x6 x7 x8 x9 x10 x11 x12 a b:α} : (x0::x1::x2::x3::x4::x5::x6::x7::x8::x9::x10::x11::x12::b::a::l).Perm (x0::x1::x2::x3::x4::x5::x6::x7::x8::x9::x10::x11::x12::a::b::l):=(rt).cons _
theorem rC {x0 x1 x2 x3 x4 x5 x6 x7 x8 x9 x10 x11 x12 x13 a b:α} : (x0::x1::x2::x3::x4::x5::x6::x7::x8::x9::x10::x11::x12::x13::b::a::l).Perm (x0::x1::x2::x3::x4::x5::x6::x7::x8::x9::x10::x11::x12::x13::a::b::l):=(rB).cons _
theorem rL {x0 x1 x2 x3 x4 x5 x6 x7 x8 x9 x10 x11 x12 x13 x14 a b:α} : (x0::x1::x2::x3::x4::x5::x6::x7::x8::x9::x10::x11::x12::x13::x14::b::a::l).Perm (x0::x1::x2::x3::x4::x5::x6::x7::x8::x9::x10::x11::x12::x13::x14::a::b::l):=(rC).cons _
theorem pc1 {x0:α} (h:l.Perm m) : (x0::l).Perm (x0::m):=h.cons _
theorem pc2 {x0 x1:α} (h:l.Perm m) : (x0::x1::l).Perm (x0::x1::m):=(pc1 h).cons _
theorem pc3 {x0 x1 x2:α} (h:l.Perm m) : (x0::x1::x2::l).Perm (x0::x1::x2::m):=(pc2 h).cons _
theorem pc4 {x0 x1 x2 x3:α} (h:l.Perm m) : (x0::x1::x2::x3::l).Perm (x0::x1::x2::x3::m):=(pc3 h).cons _
end
theorem vr {V:View} : View.le V V:=View.le_refl _
theorem vt {V V' V'' : View} (h:View.le V V') (k:View.le V' V'') : View.le V V'':=View.le_trans h k
section
variable {P:Program} {N:Sz} {w0:World} {V V0:View} {H H0:List HObj} {M:List (Nat × Value)} {ops:Array Oper} {Q:Exit→Act→World→Prop} {o:Oper} {fuel:Nat} {listed:Array Bool} {j0:Nat}
theorem TA.tk (i:Nat) (v:Value) (hi:ops[i]? = some o) (hS : ∀ w,Hp w0 V H w→Hp w0 V0 H0 w) (hv : ∀ w,Hp w0 V0 H0 w→(execOp (evM M) o).run P w = .ok (.value v) w) (h:T N w0 V H (iq o.dst v M) (wpAnyH P .any ops Q (Hp w0 V0 H0) fuel (listed.setIfInBounds i true))) (hb:(Region.noSelect ops && Region.free .any ops listed i && (Region.ready .any ops listed).contains i && okO N ops M o)=true:=by first|as_aux_lemma=>kernel_rfl|kernel_rfl) (hQ : ∀ c a w,Q (.panic c) (a.put o.dst v) w→Q (.panic c) a w:=by exact fun _ _ _ h=>h) :
 T N w0 V H M (wpAnyH P .any ops Q (Hp w0 V0 H0) (fuel + 1) listed):=by
 simp only [Bool.and_eq_true] at hb
 exact TA.qQ i v hi hb.1.1.1 hb.1.1.2 hb.1.2 hQ hS hb.2 hv h
theorem TL.tk (i:Nat) (v:Value) (c:List Nat) (hi:ops[i]? = some o) (hS : ∀ w,Hp w0 V H w→Hp w0 V0 H0 w) (hv : ∀ w,Hp w0 V0 H0 w→(execOp (evM M) o).run P w = .ok (.value v) w) (h:T N w0 V H (iq o.dst v M) (jz P .any ops Q j0 (Hp w0 V0 H0) fuel (listed.setIfInBounds i true))) (hb:(Region.noSelect ops && Region.free .any ops listed i && (Region.ready .any ops listed).contains i && !(i == j0) && og .any ops j0 c i && oR .any ops listed && okO N ops M o)=true:=by first|as_aux_lemma=>kernel_rfl|kernel_rfl) (hQ : ∀ c a w,Q (.panic c) (a.put o.dst v) w→Q (.panic c) a w:=by exact fun _ _ _ h=>h) :
 T N w0 V H M (jz P .any ops Q j0 (Hp w0 V0 H0) (fuel + 1) listed):=by
 simp only [Bool.and_eq_true,Bool.not_eq_true'] at hb
 exact TL.qT i v c hi hb.1.1.1.1.1.1 hb.1.1.1.1.1.2 hb.1.1.1.1.2 hQ hb.1.1.1.2 hb.1.1.2 hb.1.2 hS hb.2 hv h
theorem TL.tp (i:Nat) (v:Value) (hi:ops[i]? = some o) (hb:(Region.noSelect ops && Region.free .any ops listed i && (Region.ready .any ops listed).contains i && !(i == j0) && okO N ops M o)=true) (hQ : ∀ c a w,Q (.panic c) (a.put o.dst v) w→Q (.panic c) a w)
 (hS : ∀ w,Hp w0 V H w→Hp w0 V0 H0 w) (hv : ∀ w,(execOp (evM M) o).run P w = .ok (.value v) w) (h:T N w0 V H (iq o.dst v M) (jz P .any ops Q j0 (Hp w0 V0 H0) fuel (listed.setIfInBounds i true))) :
 T N w0 V H M (jz P .any ops Q j0 (Hp w0 V0 H0) (fuel + 1) listed):=by
 simp only [Bool.and_eq_true,Bool.not_eq_true'] at hb
 exact TL.qz i v hi hb.1.1.1.1 hb.1.1.1.2 hb.1.1.2 hQ hb.1.2 hS hb.2 hv h
theorem TA.tp (i:Nat) (v:Value) (hi:ops[i]? = some o) (hS : ∀ w,Hp w0 V H w→Hp w0 V0 H0 w) (h:T N w0 V H (iq o.dst v M) (wpAnyH P .any ops Q (Hp w0 V0 H0) fuel (listed.setIfInBounds i true))) (hb : ∀ w,((Region.noSelect ops && Region.free .any ops listed i && (Region.ready .any ops listed).contains i && okO N ops M o),(execOp (evM M) o).run P w)=(true,.ok (.value v) w):=by first|as_aux_lemma=>(intro _;kernel_rfl)|(intro _;kernel_rfl)) (hQ : ∀ c a w,Q (.panic c) (a.put o.dst v) w→Q (.panic c) a w:=by exact fun _ _ _ h=>h) :
 T N w0 V H M (wpAnyH P .any ops Q (Hp w0 V0 H0) (fuel + 1) listed):=TA.tk i v hi hS (fun w _=>congrArg Prod.snd (hb w)) h (congrArg Prod.fst (hb w0)) hQ
theorem TL.tv (i:Nat) (v:Value) (hi:ops[i]? = some o) (hS : ∀ w,Hp w0 V H w→Hp w0 V0 H0 w) (h:T N w0 V H (iq o.dst v M) (jz P .any ops Q j0 (Hp w0 V0 H0) fuel (listed.setIfInBounds i true))) (hb : ∀ w,((Region.noSelect ops && Region.free .any ops listed i && (Region.ready .any ops listed).contains i && !(i == j0) && okO N ops M o),(execOp (evM M) o).run P w)=(true,.ok (.value v) w):=by first|as_aux_lemma=>(intro _;kernel_rfl)|(intro _;kernel_rfl)) (hQ : ∀ c a w,Q (.panic c) (a.put o.dst v) w→Q (.panic c) a w:=by exact fun _ _ _ h=>h) :
 T N w0 V H M (jz P .any ops Q j0 (Hp w0 V0 H0) (fuel + 1) listed):=TL.tp i v hi (congrArg Prod.fst (hb w0)) hQ hS (fun w=>congrArg Prod.snd (hb w)) h
theorem TA.iX (hS : ∀ w,Hp w0 V H w→Hp w0 V0 H0 w) (h:(∀ w,Hp w0 V H w→Hp w0 V0 H0 w)→T N w0 V H M (wpAnyH P .any ops Q (Hp w0 V0 H0) fuel listed)) : T N w0 V H M (wpAnyH P .any ops Q (Hp w0 V0 H0) fuel listed):=h hS
theorem TL.jF (hS : ∀ w,Hp w0 V H w→Hp w0 V0 H0 w) (h:(∀ w,Hp w0 V H w→Hp w0 V0 H0 w)→T N w0 V H M (jz P .any ops Q j0 (Hp w0 V0 H0) fuel listed)) : T N w0 V H M (jz P .any ops Q j0 (Hp w0 V0 H0) fuel listed):=h hS
theorem TA.iJ {ψ:Act→World→Prop} (hS : ∀ w,Hp w0 V H w→Hp w0 V0 H0 w) (h:(∀ w,Hp w0 V H w→Hp w0 V0 H0 w)→T N w0 V H M ψ) : T N w0 V H M (fun a w=>Hp w0 V0 H0 w∧ψ a w):=TA.on hS (h hS)
theorem TL.jQ {b:Bool} {ψ:Act→World→Prop} (hS : ∀ w,Hp w0 V H w→Hp w0 V0 H0 w) (h:(∀ w,Hp w0 V H w→Hp w0 V0 H0 w)→T N w0 V H M ψ) : T N w0 V H M (fun a w=>(b=false→Hp w0 V0 H0 w)∧ψ a w):=TL.on hS (h hS)
end
section
variable {rl:Option Nat} {P:Program} {N:Sz} {w0:World} {V:View} {H:List HObj} {M:List (Nat × Value)} {ops:Array Oper} {Q:Exit→Act→World→Prop} {rest:List Oper} {o:Oper}
theorem T.pk (v:Value) (hb : ∀ w,((okO N ops M o && iQ o.op),(execOp (evM M) o).run P w)=(true,.ok (.value v) w)) (h:T N w0 V H (iq o.dst v M) (wpListIn (RF rl) 0 P ops Q rest)) :
 T N w0 V H M (wpListIn (RF rl) 0 P ops Q (o::rest)):=by
 have h1:=congrArg Prod.fst (hb w0)
 simp only [Bool.and_eq_true] at h1
 exact T.rp v h1.1 (fun w=>congrArg Prod.snd (hb w)) h h1.2
end
section
variable {P:Program} {N:Sz} {w0:World} {V:View} {H:List HObj} {M:List (Nat × Value)} {ops:Array Oper} {Q:Exit→Act→World→Prop} {o:Oper} {K:Act→World→Prop}
theorem W1.st (i:Nat) {b:Nat} {t t2:TypeId} {cs:List Value} {x y:Operand} {off:Nat} {v:Value} (cs' : List Value) (H' : List HObj) (vs:List Value) (h:T N w0 V H' (iq o.dst undef M) K) (hi:nth H i=some (box b t cs):=by rfl) (hH:H.set i (box b t cs')=H':=by exact rfl) (ho:o.op = .store t2 x y:=by exact rfl) (hx:evM M x = .pointer (some ⟨b,off,none⟩):=by exact rfl) (hy:evM M y=v:=by exact rfl) (hvs:v.cells=vs.toArray:=by exact rfl) (hcs:cs.take off ++ vs ++ cs.drop (off + vs.length)=cs':=by exact rfl) (hb : ∀ w,(okO N ops M o,vs.all Value.oneCell',Nat.ble (off + vs.length) cs.length,(sizeOf t2).run P w)=(true,true,true,.ok vs.length w):=by first|as_aux_lemma=>(intro _;kernel_rfl)|(intro _;kernel_rfl)) : W1 P Q ops o N w0 V H M K:=by
 have h1 : ∀ u∈vs,u.oneCell' = true:=List.all_eq_true.1 (congrArg (fun q=>q.2.1) (hb w0))
 have h2:off + vs.length≤cs.length:=Nat.le_of_ble_eq_true (congrArg (fun q=>q.2.2.1) (hb w0))
 exact W1.qA i cs' H' hi hH (congrArg Prod.fst (hb w0)) (fun w hw=>pH ho hx hy hvs (congrArg (fun q=>q.2.2.2) (hb w)) h1 h2 hcs hw) h
theorem ld1 (i:Nat) {b j:Nat} {t t2:TypeId} {cs:List Value} {x:Operand} {v:Value} (ho:o.op = .load t2 x:=by exact rfl) (hx:evM M x = .pointer (some ⟨b,j,none⟩):=by exact rfl) (ht : ∀ w,(isAgg t2).run P w = .ok false w:=by first|as_aux_lemma=>(intro _;kernel_rfl)|(intro _;kernel_rfl)) (hi:nth H i=some (box b t cs):=by rfl) (hc:cs[j]? = some v:=by exact rfl) :
 ∀ w,Hp w0 V H w→(execOp (evM M) o).run P w = .ok (.value v) w:=fun w hh=>iG ho hx (ht w) ((hh.cellBox hi j).trans hc)
theorem W1.np (t:TypeId) (cs:List Value) (h : ∀ b,T N w0 V (box b t cs::H) (iq o.dst (.pointer (some ⟨b,0,none⟩)) M) K) (hb : ∀ w:World,(okO N ops M o,(execOp (evM M) o).run P w)=(true,.ok (.value (.pointer (some ⟨w.heap.size,0,none⟩))) { w with heap:=w.heap.push (.cells cs.toArray t) }):=by first|as_aux_lemma=>(intro _;kernel_rfl)|(intro _;kernel_rfl)) : W1 P Q ops o N w0 V H M K :=
 W1.pE t cs (fun b=>.pointer (some ⟨b,0,none⟩)) (congrArg Prod.fst (hb w0)) (fun w=>congrArg Prod.snd (hb w)) h
end
section
def pk (H:List HObj) (k:Nat) : List Nat→List HObj
 | []=>H.drop k
 | i::is=>match nth H i with
  | some x=>x::pk H k is
  | none=>pk H k is
def rd (k:Nat) : List Nat→Bool
 | []=>true
 | i::is=>Nat.blt i k && is.all (fun j=>!Nat.beq i j) && rd k is
theorem pM {H:List HObj} {k:Nat} {y:HObj} : ∀ {is:List Nat},y∈pk H k is→∃ j,H[j]? = some y∧(j∈is∨k≤j)
 | [],h=>by
  obtain⟨i,hi⟩:=List.mem_iff_getElem?.1 (show y∈H.drop k from h)
  rw [List.getElem?_drop] at hi
  exact⟨_,hi,.inr (Nat.le_add_right _ _)⟩
 | i::is,h=>by
  have go:y∈pk H k is→∃ j,H[j]? = some y∧(j∈i::is∨k≤j):=fun h=>by
   obtain⟨j,h1,h2⟩:=pM h
   exact⟨j,h1,h2.imp (List.mem_cons_of_mem _) id⟩
  unfold pk at h
  cases hn:nth H i with
  | none=>rw [hn] at h;exact go h
  | some x =>
   rw [hn] at h
   rcases List.mem_cons.1 h with rfl | h
   · exact⟨i,by rw [← jC,hn],.inl (List.mem_cons_self ..)⟩
   · exact go h
theorem rn {H:List HObj} {R:HObj→HObj→Prop} {k:Nat} (hs : ∀ x y,R x y→R y x) (hp:H.Pairwise R) : ∀ {is:List Nat},rd k is=true→(pk H k is).Pairwise R
 | [],_=>hp.sublist (List.drop_sublist _ _)
 | i::is,h=>by
  unfold rd at h
  simp only [Bool.and_eq_true] at h
  have ih:=rn hs hp h.2
  unfold pk
  cases hn:nth H i with
  | none=>exact ih
  | some x =>
   refine List.pairwise_cons.2 ⟨fun y hy=>?_,ih⟩
   obtain⟨j,hj,hd⟩:=pM hy
   have hi:H[i]? = some x:=by rw [← jC,hn]
   have hlt:i < k:=Nat.le_of_ble_eq_true h.1.1
   have hne:i≠j:=by
    rcases hd with hd | hd
    · have:=List.all_eq_true.1 h.1.2 j hd
      intro e
      rw [e,Nat.beq_refl] at this
      cases this
    · omega
   obtain⟨a1,e1⟩:=List.getElem?_eq_some_iff.1 hi
   obtain⟨a2,e2⟩:=List.getElem?_eq_some_iff.1 hj
   rw [List.pairwise_iff_getElem] at hp
   rw [← e1,← e2]
   rcases Nat.lt_or_gt_of_ne hne with hl | hl
   · exact hp i j a1 a2 hl
   · exact hs _ _ (hp j i a2 a1 hl)
theorem Hp.ix {w0 w:World} {V:View} {H H' : List HObj} (h:Hp w0 V H w) (k:Nat) (is:List Nat) (hd:rd k is=true:=by first|as_aux_lemma=>kernel_rfl|kernel_rfl) (he:H' = pk H k is:=by rfl) : Hp w0 V H' w:=by
 subst he
 have hm : ∀ x∈pk H k is,x∈H:=fun x hx=>by
  obtain⟨j,hj,_⟩:=pM hx
  exact List.mem_of_getElem? hj
 exact⟨h.os,h.tape,h.output,h.size,h.view,h.base,fun x hx=>h.objs x (hm x hx),fun x hx=>h.apart x (hm x hx),rn (fun x y hxy b hy hx=>hxy b hx hy) h.sep hd⟩
end
section
variable {rl:Option Nat} {P:Program} {N:Sz} {w0:World} {V:View} {H:List HObj} {M:List (Nat × Value)} {ops:Array Oper} {Q:Exit→Act→World→Prop} {rest:List Oper}
theorem T.k2 {o1 o2:Oper} (v1 v2:Value) (h:T N w0 V H (iq o2.dst v2 (iq o1.dst v1 (M))) (wpListIn (RF rl) 0 P ops Q rest)) (hb : ∀ w,((okO N ops (M) o1 && iQ o1.op),(execOp (evM (M)) o1).run P w,(okO N ops (iq o1.dst v1 (M)) o2 && iQ o2.op),(execOp (evM (iq o1.dst v1 (M))) o2).run P w)=(true,.ok (.value v1) w,true,.ok (.value v2) w):=by first|as_aux_lemma=>(intro _;kernel_rfl)|(intro _;kernel_rfl)) :
 T N w0 V H M (wpListIn (RF rl) 0 P ops Q (o1::o2::rest)) :=
 T.pk v1 (fun w=>Prod.ext (congrArg (fun q=>q.1) (hb w)) (congrArg (fun q=>q.2.1) (hb w))) (T.pk v2 (fun w=>Prod.ext (congrArg (fun q=>q.2.2.1) (hb w)) (congrArg (fun q=>q.2.2.2) (hb w))) (h))
theorem T.k3 {o1 o2 o3:Oper} (v1 v2 v3:Value) (h:T N w0 V H (iq o3.dst v3 (iq o2.dst v2 (iq o1.dst v1 (M)))) (wpListIn (RF rl) 0 P ops Q rest)) (hb : ∀ w,((okO N ops (M) o1 && iQ o1.op),(execOp (evM (M)) o1).run P w,(okO N ops (iq o1.dst v1 (M)) o2 && iQ o2.op),(execOp (evM (iq o1.dst v1 (M))) o2).run P w,(okO N ops (iq o2.dst v2 (iq o1.dst v1 (M))) o3 && iQ o3.op),(execOp (evM (iq o2.dst v2 (iq o1.dst v1 (M)))) o3).run P w)=(true,.ok (.value v1) w,true,.ok (.value v2) w,true,.ok (.value v3) w):=by first|as_aux_lemma=>(intro _;kernel_rfl)|(intro _;kernel_rfl)) :
 T N w0 V H M (wpListIn (RF rl) 0 P ops Q (o1::o2::o3::rest)) :=
 T.pk v1 (fun w=>Prod.ext (congrArg (fun q=>q.1) (hb w)) (congrArg (fun q=>q.2.1) (hb w))) (T.pk v2 (fun w=>Prod.ext (congrArg (fun q=>q.2.2.1) (hb w)) (congrArg (fun q=>q.2.2.2.1) (hb w))) (T.pk v3 (fun w=>Prod.ext (congrArg (fun q=>q.2.2.2.2.1) (hb w)) (congrArg (fun q=>q.2.2.2.2.2) (hb w))) (h)))
theorem T.k4 {o1 o2 o3 o4:Oper} (v1 v2 v3 v4:Value) (h:T N w0 V H (iq o4.dst v4 (iq o3.dst v3 (iq o2.dst v2 (iq o1.dst v1 (M))))) (wpListIn (RF rl) 0 P ops Q rest)) (hb : ∀ w,((okO N ops (M) o1 && iQ o1.op),(execOp (evM (M)) o1).run P w,(okO N ops (iq o1.dst v1 (M)) o2 && iQ o2.op),(execOp (evM (iq o1.dst v1 (M))) o2).run P w,(okO N ops (iq o2.dst v2 (iq o1.dst v1 (M))) o3 && iQ o3.op),(execOp (evM (iq o2.dst v2 (iq o1.dst v1 (M)))) o3).run P w,(okO N ops (iq o3.dst v3 (iq o2.dst v2 (iq o1.dst v1 (M)))) o4 && iQ o4.op),(execOp (evM (iq o3.dst v3 (iq o2.dst v2 (iq o1.dst v1 (M))))) o4).run P w)=(true,.ok (.value v1) w,true,.ok (.value v2) w,true,.ok (.value v3) w,true,.ok (.value v4) w):=by first|as_aux_lemma=>(intro _;kernel_rfl)|(intro _;kernel_rfl)) :
 T N w0 V H M (wpListIn (RF rl) 0 P ops Q (o1::o2::o3::o4::rest)) :=
 T.pk v1 (fun w=>Prod.ext (congrArg (fun q=>q.1) (hb w)) (congrArg (fun q=>q.2.1) (hb w))) (T.pk v2 (fun w=>Prod.ext (congrArg (fun q=>q.2.2.1) (hb w)) (congrArg (fun q=>q.2.2.2.1) (hb w))) (T.pk v3 (fun w=>Prod.ext (congrArg (fun q=>q.2.2.2.2.1) (hb w)) (congrArg (fun q=>q.2.2.2.2.2.1) (hb w))) (T.pk v4 (fun w=>Prod.ext (congrArg (fun q=>q.2.2.2.2.2.2.1) (hb w)) (congrArg (fun q=>q.2.2.2.2.2.2.2) (hb w))) (h))))
theorem T.k5 {o1 o2 o3 o4 o5:Oper} (v1 v2 v3 v4 v5:Value) (h:T N w0 V H (iq o5.dst v5 (iq o4.dst v4 (iq o3.dst v3 (iq o2.dst v2 (iq o1.dst v1 (M)))))) (wpListIn (RF rl) 0 P ops Q rest)) (hb : ∀ w,((okO N ops (M) o1 && iQ o1.op),(execOp (evM (M)) o1).run P w,(okO N ops (iq o1.dst v1 (M)) o2 && iQ o2.op),(execOp (evM (iq o1.dst v1 (M))) o2).run P w,(okO N ops (iq o2.dst v2 (iq o1.dst v1 (M))) o3 && iQ o3.op),(execOp (evM (iq o2.dst v2 (iq o1.dst v1 (M)))) o3).run P w,(okO N ops (iq o3.dst v3 (iq o2.dst v2 (iq o1.dst v1 (M)))) o4 && iQ o4.op),(execOp (evM (iq o3.dst v3 (iq o2.dst v2 (iq o1.dst v1 (M))))) o4).run P w,(okO N ops (iq o4.dst v4 (iq o3.dst v3 (iq o2.dst v2 (iq o1.dst v1 (M))))) o5 && iQ o5.op),(execOp (evM (iq o4.dst v4 (iq o3.dst v3 (iq o2.dst v2 (iq o1.dst v1 (M)))))) o5).run P w)=(true,.ok (.value v1) w,true,.ok (.value v2) w,true,.ok (.value v3) w,true,.ok (.value v4) w,true,.ok (.value v5) w):=by first|as_aux_lemma=>(intro _;kernel_rfl)|(intro _;kernel_rfl)) :
 T N w0 V H M (wpListIn (RF rl) 0 P ops Q (o1::o2::o3::o4::o5::rest)) :=
 T.pk v1 (fun w=>Prod.ext (congrArg (fun q=>q.1) (hb w)) (congrArg (fun q=>q.2.1) (hb w))) (T.pk v2 (fun w=>Prod.ext (congrArg (fun q=>q.2.2.1) (hb w)) (congrArg (fun q=>q.2.2.2.1) (hb w))) (T.pk v3 (fun w=>Prod.ext (congrArg (fun q=>q.2.2.2.2.1) (hb w)) (congrArg (fun q=>q.2.2.2.2.2.1) (hb w))) (T.pk v4 (fun w=>Prod.ext (congrArg (fun q=>q.2.2.2.2.2.2.1) (hb w)) (congrArg (fun q=>q.2.2.2.2.2.2.2.1) (hb w))) (T.pk v5 (fun w=>Prod.ext (congrArg (fun q=>q.2.2.2.2.2.2.2.2.1) (hb w)) (congrArg (fun q=>q.2.2.2.2.2.2.2.2.2) (hb w))) (h)))))
theorem T.k6 {o1 o2 o3 o4 o5 o6:Oper} (v1 v2 v3 v4 v5 v6:Value) (h:T N w0 V H (iq o6.dst v6 (iq o5.dst v5 (iq o4.dst v4 (iq o3.dst v3 (iq o2.dst v2 (iq o1.dst v1 (M))))))) (wpListIn (RF rl) 0 P ops Q rest)) (hb : ∀ w,((okO N ops (M) o1 && iQ o1.op),(execOp (evM (M)) o1).run P w,(okO N ops (iq o1.dst v1 (M)) o2 && iQ o2.op),(execOp (evM (iq o1.dst v1 (M))) o2).run P w,(okO N ops (iq o2.dst v2 (iq o1.dst v1 (M))) o3 && iQ o3.op),(execOp (evM (iq o2.dst v2 (iq o1.dst v1 (M)))) o3).run P w,(okO N ops (iq o3.dst v3 (iq o2.dst v2 (iq o1.dst v1 (M)))) o4 && iQ o4.op),(execOp (evM (iq o3.dst v3 (iq o2.dst v2 (iq o1.dst v1 (M))))) o4).run P w,(okO N ops (iq o4.dst v4 (iq o3.dst v3 (iq o2.dst v2 (iq o1.dst v1 (M))))) o5 && iQ o5.op),(execOp (evM (iq o4.dst v4 (iq o3.dst v3 (iq o2.dst v2 (iq o1.dst v1 (M)))))) o5).run P w,(okO N ops (iq o5.dst v5 (iq o4.dst v4 (iq o3.dst v3 (iq o2.dst v2 (iq o1.dst v1 (M)))))) o6 && iQ o6.op),(execOp (evM (iq o5.dst v5 (iq o4.dst v4 (iq o3.dst v3 (iq o2.dst v2 (iq o1.dst v1 (M))))))) o6).run P w)=(true,.ok (.value v1) w,true,.ok (.value v2) w,true,.ok (.value v3) w,true,.ok (.value v4) w,true,.ok (.value v5) w,true,.ok (.value v6) w):=by first|as_aux_lemma=>(intro _;kernel_rfl)|(intro _;kernel_rfl)) :
 T N w0 V H M (wpListIn (RF rl) 0 P ops Q (o1::o2::o3::o4::o5::o6::rest)) :=
 T.pk v1 (fun w=>Prod.ext (congrArg (fun q=>q.1) (hb w)) (congrArg (fun q=>q.2.1) (hb w))) (T.pk v2 (fun w=>Prod.ext (congrArg (fun q=>q.2.2.1) (hb w)) (congrArg (fun q=>q.2.2.2.1) (hb w))) (T.pk v3 (fun w=>Prod.ext (congrArg (fun q=>q.2.2.2.2.1) (hb w)) (congrArg (fun q=>q.2.2.2.2.2.1) (hb w))) (T.pk v4 (fun w=>Prod.ext (congrArg (fun q=>q.2.2.2.2.2.2.1) (hb w)) (congrArg (fun q=>q.2.2.2.2.2.2.2.1) (hb w))) (T.pk v5 (fun w=>Prod.ext (congrArg (fun q=>q.2.2.2.2.2.2.2.2.1) (hb w)) (congrArg (fun q=>q.2.2.2.2.2.2.2.2.2.1) (hb w))) (T.pk v6 (fun w=>Prod.ext (congrArg (fun q=>q.2.2.2.2.2.2.2.2.2.2.1) (hb w)) (congrArg (fun q=>q.2.2.2.2.2.2.2.2.2.2.2) (hb w))) (h))))))
theorem T.k7 {o1 o2 o3 o4 o5 o6 o7:Oper} (v1 v2 v3 v4 v5 v6 v7:Value) (h:T N w0 V H (iq o7.dst v7 (iq o6.dst v6 (iq o5.dst v5 (iq o4.dst v4 (iq o3.dst v3 (iq o2.dst v2 (iq o1.dst v1 (M)))))))) (wpListIn (RF rl) 0 P ops Q rest)) (hb : ∀ w,((okO N ops (M) o1 && iQ o1.op),(execOp (evM (M)) o1).run P w,(okO N ops (iq o1.dst v1 (M)) o2 && iQ o2.op),(execOp (evM (iq o1.dst v1 (M))) o2).run P w,(okO N ops (iq o2.dst v2 (iq o1.dst v1 (M))) o3 && iQ o3.op),(execOp (evM (iq o2.dst v2 (iq o1.dst v1 (M)))) o3).run P w,(okO N ops (iq o3.dst v3 (iq o2.dst v2 (iq o1.dst v1 (M)))) o4 && iQ o4.op),(execOp (evM (iq o3.dst v3 (iq o2.dst v2 (iq o1.dst v1 (M))))) o4).run P w,(okO N ops (iq o4.dst v4 (iq o3.dst v3 (iq o2.dst v2 (iq o1.dst v1 (M))))) o5 && iQ o5.op),(execOp (evM (iq o4.dst v4 (iq o3.dst v3 (iq o2.dst v2 (iq o1.dst v1 (M)))))) o5).run P w,(okO N ops (iq o5.dst v5 (iq o4.dst v4 (iq o3.dst v3 (iq o2.dst v2 (iq o1.dst v1 (M)))))) o6 && iQ o6.op),(execOp (evM (iq o5.dst v5 (iq o4.dst v4 (iq o3.dst v3 (iq o2.dst v2 (iq o1.dst v1 (M))))))) o6).run P w,(okO N ops (iq o6.dst v6 (iq o5.dst v5 (iq o4.dst v4 (iq o3.dst v3 (iq o2.dst v2 (iq o1.dst v1 (M))))))) o7 && iQ o7.op),(execOp (evM (iq o6.dst v6 (iq o5.dst v5 (iq o4.dst v4 (iq o3.dst v3 (iq o2.dst v2 (iq o1.dst v1 (M)))))))) o7).run P w)=(true,.ok (.value v1) w,true,.ok (.value v2) w,true,.ok (.value v3) w,true,.ok (.value v4) w,true,.ok (.value v5) w,true,.ok (.value v6) w,true,.ok (.value v7) w):=by first|as_aux_lemma=>(intro _;kernel_rfl)|(intro _;kernel_rfl)) :
 T N w0 V H M (wpListIn (RF rl) 0 P ops Q (o1::o2::o3::o4::o5::o6::o7::rest)) :=
 T.pk v1 (fun w=>Prod.ext (congrArg (fun q=>q.1) (hb w)) (congrArg (fun q=>q.2.1) (hb w))) (T.pk v2 (fun w=>Prod.ext (congrArg (fun q=>q.2.2.1) (hb w)) (congrArg (fun q=>q.2.2.2.1) (hb w))) (T.pk v3 (fun w=>Prod.ext (congrArg (fun q=>q.2.2.2.2.1) (hb w)) (congrArg (fun q=>q.2.2.2.2.2.1) (hb w))) (T.pk v4 (fun w=>Prod.ext (congrArg (fun q=>q.2.2.2.2.2.2.1) (hb w)) (congrArg (fun q=>q.2.2.2.2.2.2.2.1) (hb w))) (T.pk v5 (fun w=>Prod.ext (congrArg (fun q=>q.2.2.2.2.2.2.2.2.1) (hb w)) (congrArg (fun q=>q.2.2.2.2.2.2.2.2.2.1) (hb w))) (T.pk v6 (fun w=>Prod.ext (congrArg (fun q=>q.2.2.2.2.2.2.2.2.2.2.1) (hb w)) (congrArg (fun q=>q.2.2.2.2.2.2.2.2.2.2.2.1) (hb w))) (T.pk v7 (fun w=>Prod.ext (congrArg (fun q=>q.2.2.2.2.2.2.2.2.2.2.2.2.1) (hb w)) (congrArg (fun q=>q.2.2.2.2.2.2.2.2.2.2.2.2.2) (hb w))) (h)))))))
theorem T.k8 {o1 o2 o3 o4 o5 o6 o7 o8:Oper} (v1 v2 v3 v4 v5 v6 v7 v8:Value) (h:T N w0 V H (iq o8.dst v8 (iq o7.dst v7 (iq o6.dst v6 (iq o5.dst v5 (iq o4.dst v4 (iq o3.dst v3 (iq o2.dst v2 (iq o1.dst v1 (M))))))))) (wpListIn (RF rl) 0 P ops Q rest)) (hb : ∀ w,((okO N ops (M) o1 && iQ o1.op),(execOp (evM (M)) o1).run P w,(okO N ops (iq o1.dst v1 (M)) o2 && iQ o2.op),(execOp (evM (iq o1.dst v1 (M))) o2).run P w,(okO N ops (iq o2.dst v2 (iq o1.dst v1 (M))) o3 && iQ o3.op),(execOp (evM (iq o2.dst v2 (iq o1.dst v1 (M)))) o3).run P w,(okO N ops (iq o3.dst v3 (iq o2.dst v2 (iq o1.dst v1 (M)))) o4 && iQ o4.op),(execOp (evM (iq o3.dst v3 (iq o2.dst v2 (iq o1.dst v1 (M))))) o4).run P w,(okO N ops (iq o4.dst v4 (iq o3.dst v3 (iq o2.dst v2 (iq o1.dst v1 (M))))) o5 && iQ o5.op),(execOp (evM (iq o4.dst v4 (iq o3.dst v3 (iq o2.dst v2 (iq o1.dst v1 (M)))))) o5).run P w,(okO N ops (iq o5.dst v5 (iq o4.dst v4 (iq o3.dst v3 (iq o2.dst v2 (iq o1.dst v1 (M)))))) o6 && iQ o6.op),(execOp (evM (iq o5.dst v5 (iq o4.dst v4 (iq o3.dst v3 (iq o2.dst v2 (iq o1.dst v1 (M))))))) o6).run P w,(okO N ops (iq o6.dst v6 (iq o5.dst v5 (iq o4.dst v4 (iq o3.dst v3 (iq o2.dst v2 (iq o1.dst v1 (M))))))) o7 && iQ o7.op),(execOp (evM (iq o6.dst v6 (iq o5.dst v5 (iq o4.dst v4 (iq o3.dst v3 (iq o2.dst v2 (iq o1.dst v1 (M)))))))) o7).run P w,(okO N ops (iq o7.dst v7 (iq o6.dst v6 (iq o5.dst v5 (iq o4.dst v4 (iq o3.dst v3 (iq o2.dst v2 (iq o1.dst v1 (M)))))))) o8 && iQ o8.op),(execOp (evM (iq o7.dst v7 (iq o6.dst v6 (iq o5.dst v5 (iq o4.dst v4 (iq o3.dst v3 (iq o2.dst v2 (iq o1.dst v1 (M))))))))) o8).run P w)=(true,.ok (.value v1) w,true,.ok (.value v2) w,true,.ok (.value v3) w,true,.ok (.value v4) w,true,.ok (.value v5) w,true,.ok (.value v6) w,true,.ok (.value v7) w,true,.ok (.value v8) w):=by first|as_aux_lemma=>(intro _;kernel_rfl)|(intro _;kernel_rfl)) :
 T N w0 V H M (wpListIn (RF rl) 0 P ops Q (o1::o2::o3::o4::o5::o6::o7::o8::rest)) :=
 T.pk v1 (fun w=>Prod.ext (congrArg (fun q=>q.1) (hb w)) (congrArg (fun q=>q.2.1) (hb w))) (T.pk v2 (fun w=>Prod.ext (congrArg (fun q=>q.2.2.1) (hb w)) (congrArg (fun q=>q.2.2.2.1) (hb w))) (T.pk v3 (fun w=>Prod.ext (congrArg (fun q=>q.2.2.2.2.1) (hb w)) (congrArg (fun q=>q.2.2.2.2.2.1) (hb w))) (T.pk v4 (fun w=>Prod.ext (congrArg (fun q=>q.2.2.2.2.2.2.1) (hb w)) (congrArg (fun q=>q.2.2.2.2.2.2.2.1) (hb w))) (T.pk v5 (fun w=>Prod.ext (congrArg (fun q=>q.2.2.2.2.2.2.2.2.1) (hb w)) (congrArg (fun q=>q.2.2.2.2.2.2.2.2.2.1) (hb w))) (T.pk v6 (fun w=>Prod.ext (congrArg (fun q=>q.2.2.2.2.2.2.2.2.2.2.1) (hb w)) (congrArg (fun q=>q.2.2.2.2.2.2.2.2.2.2.2.1) (hb w))) (T.pk v7 (fun w=>Prod.ext (congrArg (fun q=>q.2.2.2.2.2.2.2.2.2.2.2.2.1) (hb w)) (congrArg (fun q=>q.2.2.2.2.2.2.2.2.2.2.2.2.2.1) (hb w))) (T.pk v8 (fun w=>Prod.ext (congrArg (fun q=>q.2.2.2.2.2.2.2.2.2.2.2.2.2.2.1) (hb w)) (congrArg (fun q=>q.2.2.2.2.2.2.2.2.2.2.2.2.2.2.2) (hb w))) (h))))))))
end
abbrev vi (x:Int) : Value:=.int .i64 x
abbrev pB (b i:Nat) : Value:=.pointer (some ⟨b,i,none⟩)
abbrev sN:Value:=.slice none 0 0
theorem ob {α β:Type _} {x:Option α} {f:α→Option β} {b:β} (h:x.bind f=some b) : ∃ a,x=some a∧f a=some b:=Option.bind_eq_some_iff.1 h
section
variable {P:Program} {w0:World} {V:View} {H:List HObj} {M:List (Nat × Value)} {o:Oper}
theorem ldN (i:Nat) {b off:Nat} {t t2:TypeId} {C S:List Value} {x:Operand} (ho:o.op = .load t2 x:=by exact rfl) (hx:evM M x = .pointer (some ⟨b,off,none⟩):=by exact rfl) (ht : ∀ w,((isAgg t2).run P w,(sizeOf t2).run P w)=(.ok true w,.ok S.length w):=by first|as_aux_lemma=>(intro _;kernel_rfl)|(intro _;kernel_rfl)) (hi:nth H i=some (box b t C):=by rfl) (hc:(C.drop off).take S.length=S:=by exact rfl) :
 ∀ w,Hp w0 V H w→(execOp (evM M) o).run P w = .ok (.value (.agg S.toArray)) w:=fun w hh=>lK ho hx (congrArg Prod.fst (ht w)) (congrArg Prod.snd (ht w)) fun j u hj=>(hh.box_at hi off j).trans (qJ hc hj)
theorem ixR (i:Nat) {t e t' : TypeId} {x y:Operand} {A:Option Addr} {n c s k:Nat} {kk:IntKind} {iv:Int} {α:Type} {p:Bool} {E:Enc α} {l:List α} {z:α} (ho:o.op = .indexAddr t x y) (hx:evM M x = .slice A n c) (hi:evM M y = .int kk iv)
 (hb : ∀ w,(P.underlying t,(sizeOf e).run P w)=(some (.slice e),.ok s w)) (h0:0≤iv) (hn:iv < n) (hr:nth H i=some (kb p t' E A c l)) (hk:l[k]? = some z) (hz:0 < E.size) :
 ∀ w,Hp w0 V H w→(execOp (evM M) o).run P w = .ok (.value (.pointer (some ((iI A).add (iv.toNat * s))))) w:=fun w hh=>ig ho hx hi (congrArg Prod.fst (hb w)) (congrArg Prod.snd (hb w)) h0 hn ((hh.row_slOk hr).some_ hk hz)
theorem sl0 (i:Nat) {t e t' : TypeId} {x y:Operand} {A:Option Addr} {c s:Nat} {hi:Int} {α:Type} {p:Bool} {E:Enc α} {l r:List α} (ho:o.op = .slice t x none (some y) none) (hx:evM M x = .slice A l.length c)
 (hb : ∀ w,(P.underlying t,(sizeOf e).run P w)=(some (.slice e),.ok s w)) (hr:nth H i=some (kb p t' E A c l)) (hy:evM M y = .int .i64 hi) (hl:je l 0 hi=some r) :
 ∀ w,Hp w0 V H w→(execOp (evM M) o).run P w = .ok (.value (.slice A r.length c)) w:=fun w hh=>kU (lx:=none) (hx:=some y) (k:=.i64) (k':=.i64) ho hx (congrArg Prod.fst (hb w)) (congrArg Prod.snd (hb w)) (hh.row_slOk hr).1 rfl hy hl
end
section
variable {P:Program} {N:Sz} {w0:World} {V:View} {H:List HObj} {M:List (Nat × Value)} {ops:Array Oper} {Q:Exit→Act→World→Prop} {o:Oper} {K:Act→World→Prop}
theorem W1.lY {α:Type} {E:Enc α} {t:TypeId} {r:List α} (f:FuncId) (l:List Value) (hb : ∀ w,(okO N ops M o,(execOp (evM M) o).run P w)=(true,.ok (.enter f l.toArray) w))
 (hf : ∀ w',Hp w0 V H w'→Calls P f l.toArray w' (fun e w2=>∃ A' c',e = .returned (.slice A' r.length c')∧Hp w0 V (row t E A' c' r::H) w2)) (h : ∀ A c,T N w0 V (row t E A c r::H) (iq o.dst (.slice A r.length c) M) K) : W1 P Q ops o N w0 V H M K :=
 W1.n9 f l (fun v w'=>∃ A c,v = .slice A r.length c∧Hp w0 V (row t E A c r::H) w') (congrArg Prod.fst (hb w0)) (fun w=>congrArg Prod.snd (hb w)) (fun w hh=>(hf w hh).mono (by rintro e_ w_ ⟨A_,c_,rfl,h_⟩;exact⟨_,rfl,A_,c_,rfl,h_⟩))
  (by rintro v w' ⟨A,c,rfl,hh⟩;exact⟨V,_,hh,h A c⟩)
theorem W1.ns (t:TypeId) (cs:List Value) (h : ∀ b,T N w0 V (box b t cs::H) (iq o.dst (.slice (some ⟨b,0,none⟩) 1 1) M) K) (hb : ∀ w:World,(okO N ops M o,(execOp (evM M) o).run P w)=(true,.ok (.value (.slice (some ⟨w.heap.size,0,none⟩) 1 1)) { w with heap:=w.heap.push (.cells cs.toArray t) }):=by first|as_aux_lemma=>(intro _;kernel_rfl)|(intro _;kernel_rfl)) : W1 P Q ops o N w0 V H M K :=
 W1.pE t cs (fun b=>.slice (some ⟨b,0,none⟩) 1 1) (congrArg Prod.fst (hb w0)) (fun w=>congrArg Prod.snd (hb w)) h
theorem Fr.sel {M' : List (Nat × Value)} {a:Act} (hf:Fr N M a) (h:M'.map (fun p=>lk M p.1)=M'.map (fun p=>some p.2)) : Fr N M' a:=by
 refine⟨hf.defers,hf.size,fun t v hv=>hf.get t v ?_⟩
 induction M' with
 | nil=>cases hv
 | cons p M' ih =>
  obtain⟨s,u⟩:=p
  simp only [List.map_cons,List.cons.injEq] at h
  simp only [lk] at hv
  cases hb:s.beq t with
  | true =>
   rw [hb,cond_true] at hv
   cases hv
   rw [← Nat.eq_of_beq_eq_true hb];exact h.1
  | false =>
   rw [hb,cond_false] at hv
   exact ih h.2 hv
end
abbrev npQ (Q:Exit→Act→World→Prop) : Exit→Act→World→Prop:=fun e a w=>match e with | .panic _=>False | e=>Q e a w
section
variable {P:Program} {N:Sz} {w0:World} {V:View} {H:List HObj} {M:List (Nat × Value)} {Q:Exit→Act→World→Prop}
theorem T.qO {id:Nat} {l:List Oper} (H0:List HObj) (hm:P.follows .mixedOrders=true)
 (h:T N w0 V H M (wpAnyH P .any l.toArray (npQ Q) (Hp w0 V H0) l.length (Array.replicate l.length false))) : T N w0 V H M ((Code.region id l.toArray true).wpIn (RF none) 0 P Q) :=
 fun a w hf hh=>Code.wpIn_mono (fun e a w hq=>by cases e <;> first | exact hq | exact hq.elim) (T.jB H0 hm h a w hf hh)
end
section
variable {rl:Option Nat} {P:Program} {N:Sz} {w0:World} {V V0:View} {H H0:List HObj} {M:List (Nat × Value)} {ops:Array Oper} {Q:Exit→Act→World→Prop} {rest:List Oper} {o:Oper} {fuel:Nat} {listed:Array Bool} {j0:Nat} {K:Act→World→Prop} {φ:Act→Prop}
theorem T.k (v:Value) (h:T N w0 V H (iq o.dst v M) (wpListIn (RF rl) 0 P ops Q rest)) (hb : ∀ w,((okO N ops M o && iQ o.op),(execOp (evM M) o).run P w)=(true,.ok (.value v) w):=by first|as_aux_lemma=>(intro _;kernel_rfl)|(intro _;kernel_rfl)) : T N w0 V H M (wpListIn (RF rl) 0 P ops Q (o::rest)):=T.pk v hb h
theorem T.l (v:Value) (hv : ∀ w,Hp w0 V H w→(execOp (evM M) o).run P w = .ok (.value v) w) (h:T N w0 V H (iq o.dst v M) (wpListIn (RF rl) 0 P ops Q rest)) (hc:(okO N ops M o && iQ o.op)=true:=by first|as_aux_lemma=>kernel_rfl|kernel_rfl) : T N w0 V H M (wpListIn (RF rl) 0 P ops Q (o::rest)):=by
 simp only [Bool.and_eq_true] at hc
 exact T.gZ (W1.nT v hc.1 hv h) hc.2
theorem W1.l (v:Value) (hv : ∀ w,Hp w0 V H w→(execOp (evM M) o).run P w = .ok (.value v) w) (h:T N w0 V H (iq o.dst v M) K) (hc:okO N ops M o=true:=by first|as_aux_lemma=>kernel_rfl|kernel_rfl) : W1 P Q ops o N w0 V H M K:=W1.nT v hc hv h
theorem TQ.l (v:Value) (hv : ∀ w,Hp w0 V H w→(execOp (evM M) o).run P w = .ok (.value v) w) (h:TQ N (iq o.dst v M) (wpQuiet P ops (Hp w0 V H) φ rest)) (hc:okO N ops M o=true:=by first|as_aux_lemma=>kernel_rfl|kernel_rfl) : TQ N M (wpQuiet P ops (Hp w0 V H) φ (o::rest)):=TQ.pX v hc hv h
theorem TQ.k (v:Value) (h:TQ N (iq o.dst v M) (wpQuiet P ops (Hp w0 V H) φ rest)) (hb : ∀ w,(okO N ops M o,(execOp (evM M) o).run P w)=(true,.ok (.value v) w):=by first|as_aux_lemma=>(intro _;kernel_rfl)|(intro _;kernel_rfl)) : TQ N M (wpQuiet P ops (Hp w0 V H) φ (o::rest)):=TQ.qV v (congrArg Prod.fst (hb w0)) (fun w=>congrArg Prod.snd (hb w)) h
theorem TQ.z (h:TQ N (iq o.dst undef M) (wpQuiet P ops (Hp w0 V H) φ rest)) (hg:(gd ops M o.guard,mO N o.dst)=(some false,true):=by first|as_aux_lemma=>kernel_rfl|kernel_rfl) : TQ N M (wpQuiet P ops (Hp w0 V H) φ (o::rest)):=TQ.qU (congrArg Prod.fst hg) (congrArg Prod.snd hg) h
theorem T.z (h:T N w0 V H (iq o.dst undef M) (wpListIn (RF rl) 0 P ops Q rest)) (hg:(gd ops M o.guard,mO N o.dst)=(some false,true):=by first|as_aux_lemma=>kernel_rfl|kernel_rfl) : T N w0 V H M (wpListIn (RF rl) 0 P ops Q (o::rest)):=T.ro (congrArg Prod.fst hg) (congrArg Prod.snd hg) h
theorem TI.n {i:Nat} (h:T N w0 V H (iq o.dst undef M) (wpAnyIn (RF rl) 0 P .any ops Q fuel (listed.setIfInBounds i true))) (ho:ops[i]? = some o:=by exact rfl) (hg:(gd ops M o.guard,mO N o.dst)=(some false,true):=by first|as_aux_lemma=>kernel_rfl|kernel_rfl) : TBI rl P Q ops N w0 V H M fuel listed i:=TI.no ho (congrArg Prod.fst hg) (congrArg Prod.snd hg) h
theorem T.c {c:Operand} {x y:Code} {b:Bool} {α:Type _} {f g:Option α} {r:α} (ht:b=true→f=some r→T N w0 V H M (x.wpIn (RF rl) 0 P Q)) (hf:b=false→g=some r→T N w0 V H M (y.wpIn (RF rl) 0 P Q)) (hk:nJ M c=true:=by first|as_aux_lemma=>kernel_rfl|kernel_rfl) (hc:evM M c = .bool b:=by first|as_aux_lemma=>kernel_rfl|kernel_rfl) :
 (bif b then f else g)=some r→T N w0 V H M ((Code.cond c x y).wpIn (RF rl) 0 P Q):=fun hF=>T.qr b hk hc (fun h=>ht h (by rw [h] at hF;exact hF)) (fun h=>hf h (by rw [h] at hF;exact hF))
theorem T.cb {c:Operand} {x y:Code} (b:Bool) (ht:b=true→T N w0 V H M (x.wpIn (RF rl) 0 P Q)) (hf:b=false→T N w0 V H M (y.wpIn (RF rl) 0 P Q)) (hk:nJ M c=true:=by first|as_aux_lemma=>kernel_rfl|kernel_rfl) (hc:evM M c = .bool b:=by first|as_aux_lemma=>kernel_rfl|kernel_rfl) :
 T N w0 V H M ((Code.cond c x y).wpIn (RF rl) 0 P Q):=T.qr b hk hc ht hf
theorem TA.a (rs:List Nat) (h:TBs (TB P Q ops N w0 V V0 H H0 M fuel listed) rs) (hr:Region.ready .any ops listed=rs:=by first|as_aux_lemma=>kernel_rfl|kernel_rfl) (hne:rs.isEmpty=false:=by exact rfl) : T N w0 V H M (wpAnyH P .any ops Q (Hp w0 V0 H0) (fuel + 1) listed):=TA.qv rs hr hne h
theorem TL.a (rs:List Nat) (h:TBs (TBL P Q ops N w0 V V0 H H0 M j0 fuel listed) rs) (hr:Region.ready .any ops listed=rs:=by first|as_aux_lemma=>kernel_rfl|kernel_rfl) (hne:rs.isEmpty=false:=by exact rfl) : T N w0 V H M (jz P .any ops Q j0 (Hp w0 V0 H0) (fuel + 1) listed):=TL.qx rs hr hne h
theorem TI.a (rs:List Nat) (h:TBs (TBI rl P Q ops N w0 V H M fuel listed) rs) (hr:Region.ready .any ops listed=rs:=by first|as_aux_lemma=>kernel_rfl|kernel_rfl) (hne:rs.isEmpty=false:=by exact rfl) : T N w0 V H M (wpAnyIn (RF rl) 0 P .any ops Q (fuel + 1) listed):=TI.qw rs hr hne h
theorem TA.d (h:T N w0 V H M (Q .normal)) (hr:Region.ready .any ops listed=[]:=by first|as_aux_lemma=>kernel_rfl|kernel_rfl) : T N w0 V H M (wpAnyH P .any ops Q (Hp w0 V0 H0) fuel listed):=TA.qP hr h
theorem TL.d (h:T N w0 V H M (Q .normal)) (hr:Region.ready .any ops listed=[]:=by first|as_aux_lemma=>kernel_rfl|kernel_rfl) : T N w0 V H M (jz P .any ops Q j0 (Hp w0 V0 H0) fuel listed):=TL.qS hr h
theorem TI.d (h:T N w0 V H M (Q .normal)) (hr:Region.ready .any ops listed=[]:=by first|as_aux_lemma=>kernel_rfl|kernel_rfl) : T N w0 V H M (wpAnyIn (RF rl) 0 P .any ops Q fuel listed):=TI.qR hr h
theorem T.i {φ:Act→World→Prop} {a:Act} {w:World} (h:T N w0 V H M φ) : Fr N M a→Hp w0 V H w→φ a w:=h a w
theorem W1.w1 {ρ:Type} (E:VEnc ρ) (r:ρ) (f:FuncId) (vs:Array Value) (hf : ∀ w,Hp w0 V H w→Calls P f vs w (jZ E r w)) (h : ∀ v V',View.le V V'→E.rep (made w0 V') v r→T N w0 V' H (iq o.dst v M) K)
 (hb : ∀ w,(okO N ops M o,(execOp (evM M) o).run P w)=(true,.ok (.enter f vs) w):=by first|as_aux_lemma=>(intro _;kernel_rfl)|(intro _;kernel_rfl)) : W1 P Q ops o N w0 V H M K:=W1.qW E r f vs (congrArg Prod.fst (hb w0)) (fun w=>congrArg Prod.snd (hb w)) hf h
theorem W1.ci (f:FuncId) (l:List Value) (I:Value→World→Prop) (hf : ∀ w,Hp w0 V H w→Calls P f l.toArray w (fun e w'=>∃ v,e = .returned v∧I v w')) (k : ∀ v w',I v w'→∃ V' H',Hp w0 V' H' w'∧T N w0 V' H' (iq o.dst v M) K)
 (hb : ∀ w,(okO N ops M o,(execOp (evM M) o).run P w)=(true,.ok (.enter f l.toArray) w):=by first|as_aux_lemma=>(intro _;kernel_rfl)|(intro _;kernel_rfl)) : W1 P Q ops o N w0 V H M K:=W1.n9 f l I (congrArg Prod.fst (hb w0)) (fun w=>congrArg Prod.snd (hb w)) hf k
theorem W1.nw (t:TypeId) (cs:List Value) (f:Nat→Value) (h : ∀ b,T N w0 V (box b t cs::H) (iq o.dst (f b) M) K) (hc:okO N ops M o=true:=by first|as_aux_lemma=>kernel_rfl|kernel_rfl)
 (hv : ∀ w:World,(execOp (evM M) o).run P w = .ok (.value (f w.heap.size)) { w with heap:=w.heap.push (.cells cs.toArray t) }:=by first|as_aux_lemma=>(intro _;kernel_rfl)|(intro _;kernel_rfl)) : W1 P Q ops o N w0 V H M K:=W1.pE t cs f hc hv h
theorem rN {t:Nat} {ty ty' : TypeId} {b:Nat} {cs:List Value} (i:Nat) (hv:lk M t=some (.pointer (some ⟨b,0,none⟩)):=by exact rfl) (hi:nth H i=some (box b ty' cs):=by rfl)
 (hs : ∀ w,((isAgg ty).run P w,(sizeOf ty).run P w)=(.ok true w,.ok cs.length w):=by first|as_aux_lemma=>(intro _;kernel_rfl)|(intro _;kernel_rfl)) : kF P N w0 V H M (.cell t ty) (.agg cs.toArray):=kF.cellN i hv hi (fun w=>congrArg Prod.fst (hs w)) (fun w=>congrArg Prod.snd (hs w))
theorem rT {t:Nat} {v:Value} (hv:lk M t=some v) : kF P N w0 V H M (.tmp t) v:=kF.tmp hv
theorem T.sr {id:Nat} {l:List Oper} {y:Code} (h:T N w0 V H M (wpListIn (RF rl) 0 P l.toArray (Exit.then (y.wpIn (RF rl) 0 P Q) Q) l)) : T N w0 V H M ((Code.seq (Code.region id l.toArray false) y).wpIn (RF rl) 0 P Q):=T.ie (T.ia h)
theorem TA.j (i:Nat) (ho:ops[i]? = some o) (h:W1 P Q ops o N w0 V H M (fun a' w'=>Hp w0 V0 H0 w'∧wpAnyH P .any ops Q (Hp w0 V0 H0) fuel (listed.setIfInBounds i true) a' w')) (hr:Region.ready .any ops listed=[i]:=by first|as_aux_lemma=>kernel_rfl|kernel_rfl) : T N w0 V H M (wpAnyH P .any ops Q (Hp w0 V0 H0) (fuel + 1) listed):=TA.qv [i] hr rfl ⟨TA.br ho h,trivial⟩
theorem TL.j (i:Nat) (ho:ops[i]? = some o) (h:W1 P Q ops o N w0 V H M (fun a' w'=>((listed.setIfInBounds i true).getD j0 true=false→Hp w0 V0 H0 w')∧jz P .any ops Q j0 (Hp w0 V0 H0) fuel (listed.setIfInBounds i true) a' w')) (hr:Region.ready .any ops listed=[i]:=by first|as_aux_lemma=>kernel_rfl|kernel_rfl) : T N w0 V H M (jz P .any ops Q j0 (Hp w0 V0 H0) (fuel + 1) listed):=TL.qx [i] hr rfl ⟨TL.br ho h,trivial⟩
theorem TI.j (i:Nat) (ho:ops[i]? = some o) (h:W1R rl P Q ops o N w0 V H M (wpAnyIn (RF rl) 0 P .any ops Q fuel (listed.setIfInBounds i true))) (hr:Region.ready .any ops listed=[i]:=by first|as_aux_lemma=>kernel_rfl|kernel_rfl) : T N w0 V H M (wpAnyIn (RF rl) 0 P .any ops Q (fuel + 1) listed):=TI.qw [i] hr rfl ⟨TI.br ho h,trivial⟩
theorem T.r {ψ:Act→World→Prop} (h:T N w0 V H M ψ) (hq:Q .ret=ψ:=by exact rfl) : T N w0 V H M (Code.ret.wpIn (RF rl) 0 P Q):=T.ik hq h
theorem Fr.s {M' : List (Nat × Value)} {a:Act} (hf:Fr N M a) (h:M'.map (fun p=>lk M p.1)=M'.map (fun p=>some p.2):=by exact rfl) : Fr N M' a:=Fr.sel hf h
end
section
variable {P:Program} {α:Type} {N:Sz} {w0:World} {V:View} {H:List HObj} {M:List (Nat × Value)} {ops:Array Oper} {Q:Exit→Act→World→Prop} {o:Oper} {K:Act→World→Prop} {E:Enc α} {p:Bool} {t e:TypeId} {A:Option Addr} {c:Nat} {l:List α}
abbrev sl (A:Option Addr) (l:List α) (c:Nat) : Value:=.slice A l.length c
theorem W1.a (i:Nat) {m:List α} {A2:Option Addr} {c2:Nat} {s x:Operand} (bytes:Nat) {z:Value} {k:Nat} (ip : ∃ ti,P.info? e=some ti∧ti.zero=some z∧ti.size=k∧ti.bytes=bytes)
 (hsrc : ∀ w,Hp w0 V H w→∃ news,iN V E news m∧ms (vw w) A2 news) (hroom:m4 (l.length + m.length) bytes=true) (hmax:l.length + m.length≤maxLen)
 (h : ∀ A' c',T N w0 V (H.set i (row e E A' c' (l ++ m))) (iq o.dst (.slice A' (l ++ m).length c') M) K)
 (hi:nth H i=some (row e E A c l):=by rfl) (hc:okO N ops M o=true:=by first|as_aux_lemma=>kernel_rfl|kernel_rfl) (ho:o.op = .call { callee:=.builtin .append,args:=#[s,x],argTypes:=#[t,t] }:=by exact rfl)
 (ht:P.underlying t=some (.slice e):=by first|as_aux_lemma=>kernel_rfl|kernel_rfl) (hk:k=E.size:=by exact rfl) (hzs:z.cells.size=E.size:=by exact rfl) (hsz:0 < E.size:=by decide) (hs:evM M s = .slice A l.length c:=by exact rfl) (hx:evM M x = .slice A2 m.length c2:=by exact rfl) : W1 P Q ops o N w0 V H M K:=by
 obtain⟨ti,h1,h2,h3,h4⟩:=ip
 exact W1.j5 i s x bytes ti z hi hc ho ht h1 h2 (h3.trans hk) h4 hzs hsz hs hx hsrc hroom hmax h
theorem ib.sF {V' : View} (h:ib V' E A c l) (hE : ∀ V V' cs x,E.rep V cs x→E.rep V' cs x:=by exact fun _ _ _ _ h=>h) : ∃ news,iN V E news l∧ms V' A news:=ib.srcF h hE
theorem W1.cj {P:Program} {N:Sz} {w0:World} {V:View} {H:List HObj} {M:List (Nat × Value)} {ops:Array Oper} {Q:Exit→Act→World→Prop} {o:Oper} {K:Act→World→Prop} {f:FuncId} {l:List Value} {I:Value→World→Prop} (hf : ∀ w,Hp w0 V H w→Calls P f l.toArray w (fun e w'=>∃ v,e = .returned v∧I v w')) (k : ∀ v w',I v w'→∃ V' H',Hp w0 V' H' w'∧T N w0 V' H' (iq o.dst v M) K)
 (hb : ∀ w,(okO N ops M o,(execOp (evM M) o).run P w)=(true,.ok (.enter f l.toArray) w):=by first|as_aux_lemma=>(intro _;kernel_rfl)|(intro _;kernel_rfl)) : W1 P Q ops o N w0 V H M K:=W1.n9 f l I (congrArg Prod.fst (hb w0)) (fun w=>congrArg Prod.snd (hb w)) hf k
theorem Hp.q {w0:World} {V V0:View} {H H0:List HObj} (hv:View.le V0 V) (hb:View.le (vw w0) V0) (hs:H0.Sublist H:=by repeat (first | with_reducible exact List.Sublist.refl _ | refine List.Sublist.cons_cons _ ?_ | exact List.nil_sublist _ | refine List.Sublist.cons _ ?_)) (ho:OldAll H0:=by repeat (first | exact .nil | refine .box ?_ | refine .row (fun _ _ _ _ h=>h) ?_)) : ∀ w,Hp w0 V H w→Hp w0 V0 H0 w:=Hp.old hv hb hs ho
theorem Hp.u {w0:World} {V:View} {H H' : List HObj} {w:World} (h:Hp w0 V H w) (hs:H'.Sublist H:=by repeat (first | with_reducible exact List.Sublist.refl _ | refine List.Sublist.cons_cons _ ?_ | exact List.nil_sublist _ | refine List.Sublist.cons _ ?_)) : Hp w0 V H' w:=h.sub hs
section
variable {P:Program} {w0:World} {V:View} {H:List HObj} {M:List (Nat × Value)} {o:Oper}
theorem iR (i:Nat) {t e t' : TypeId} {x y:Operand} {A:Option Addr} {n c s k:Nat} {kk:IntKind} {iv:Int} {α:Type} {p:Bool} {E:Enc α} {l:List α} {z:α} (h0:0≤iv) (hn:iv < n) (hk:l[k]? = some z) (ho:o.op = .indexAddr t x y:=by exact rfl) (hx:evM M x = .slice A n c:=by exact rfl) (hi:evM M y = .int kk iv:=by exact rfl)
 (hb : ∀ w,(P.underlying t,(sizeOf e).run P w)=(some (.slice e),.ok s w):=by first|as_aux_lemma=>(intro _;kernel_rfl)|(intro _;kernel_rfl)) (hr:nth H i=some (kb p t' E A c l):=by rfl) (hz:0 < E.size:=by decide) :
 ∀ w,Hp w0 V H w→(execOp (evM M) o).run P w = .ok (.value (.pointer (some ((iI A).add (iv.toNat * s))))) w:=ixR i ho hx hi hb h0 hn hr hk hz
theorem s0 (i:Nat) {t e t' : TypeId} {x y:Operand} {A:Option Addr} {c s:Nat} {hi:Int} {α:Type} {p:Bool} {E:Enc α} {l r:List α} (hl:je l 0 hi=some r) (ho:o.op = .slice t x none (some y) none:=by exact rfl) (hx:evM M x = .slice A l.length c:=by exact rfl)
 (hb : ∀ w,(P.underlying t,(sizeOf e).run P w)=(some (.slice e),.ok s w):=by first|as_aux_lemma=>(intro _;kernel_rfl)|(intro _;kernel_rfl)) (hr:nth H i=some (kb p t' E A c l):=by rfl) (hy:evM M y = .int .i64 hi:=by exact rfl) :
 ∀ w,Hp w0 V H w→(execOp (evM M) o).run P w = .ok (.value (.slice A r.length c)) w:=sl0 i ho hx hb hr hy hl
theorem lN {t:TypeId} {x:Operand} {a:Addr} {cs:List Value} {w:World} (hc : ∀ j v,cs[j]? = some v→w.cell? (a.add j)=some v) (ho:o.op = .load t x:=by exact rfl) (hx:evM M x = .pointer (some a):=by exact rfl)
 (ht:(isAgg t).run P w = .ok true w:=by first|as_aux_lemma=>kernel_rfl|kernel_rfl) (hs:(sizeOf t).run P w = .ok cs.length w:=by first|as_aux_lemma=>kernel_rfl|kernel_rfl) : (execOp (evM M) o).run P w = .ok (.value (.agg cs.toArray)) w:=lK ho hx ht hs hc
end
end
end Go.Proofs.Ytljbmnknmhogaaa
