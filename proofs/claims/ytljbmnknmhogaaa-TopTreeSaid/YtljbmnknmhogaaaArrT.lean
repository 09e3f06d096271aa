/- The program logic's rules for arrays at an index that is not known. Its conditions: none. -/
import Derived.Test.YtljbmnknmhogaaaDataT
import Derived.Test.YtljbmnknmhogaaaOpsT
namespace Go.Proofs.Ytljbmnknmhogaaa
open Go.RowKit
set_option linter.unusedVariables false
section
variable {P:Program} {M:List (Nat × Value)} {o:Oper} {N:Sz} {w0 w:World} {V:View} {H:List HObj}
end
section
variable {P:Program} {M:List (Nat × Value)} {o:Oper} {N:Sz} {w0 w:World} {V:View} {H:List HObj} {α:Type} {E:Enc α} {φ:Act→World→Prop}
theorem W1.oO {ops:Array Oper} {Q:Exit→Act→World→Prop} {K:Act→World→Prop} (h:T N w0 V H M (fun a w=>Region.wanted o (yielded ops a.tmps)=true∧o.wp P a w K Q)) : W1 P Q ops o N w0 V H M K:=h
theorem W1.oP {ops:Array Oper} {Q:Exit→Act→World→Prop} {K:Act→World→Prop} (h:W1 P Q ops o N w0 V H M K) : T N w0 V H M (fun a w=>Region.wanted o (yielded ops a.tmps)=true∧o.wp P a w K Q):=h
end
def eAt {α:Type} (w0:World) (E:Enc α) : Enc α where
 size:=E.size
 rep:=fun V cs x=>E.rep (made w0 V) cs x
 mono:=fun hv h=>E.mono (iK hv) h
 len:=fun h=>E.len h
 one:=fun h=>E.one h
section
variable {N:Sz} {M:List (Nat × Value)} {w0 w:World} {V:View} {H H' : List HObj} {α:Type} {E:Enc α} {φ:Act→World→Prop} {p:Bool} {e:TypeId} {A:Option Addr} {c:Nat} {l:List α}
theorem nY {x:α} {b:Nat} {t:TypeId} {cs:List Value} (hh:Hp w0 V H w) {i:Nat} (hi:nth H i=some (box b t cs)) (hr:E.rep V cs x) : ∃ news,iN V E news [x]∧ms (vw w) (some ⟨b,0,none⟩) news:=by
 refine⟨cs,⟨?_,fun k y hk=>?_⟩,pn fun j=>?_⟩
 · rw [E.len hr];simp
 · cases k with
   | zero =>
    obtain rfl:x=y:=by simpa using hk
    rw [Nat.zero_mul,List.drop_zero,List.take_of_length_le (by rw [E.len hr];exact Nat.le_refl _)]
    exact hr
   | succ k=>simp at hk
 · rw [jC] at hi
   exact hh.cell_box hi j
theorem Hp.row_elem {i k:Nat} {x:α} (h:Hp w0 V H w) (hi:nth H i=some (kb p e (eAt w0 E) A c l)) (hk:l[k]? = some x) :
 ∃ cs,E.rep (made w0 V) cs x∧∀ j u,cs[j]? = some u→w.cell? (((iI A).add (k * E.size)).add j)=some u:=by
 rw [jC] at hi
 obtain⟨h1,h2,h3⟩:=h.objs _ (List.mem_of_getElem? hi)
 rcases h3 with h3 | ⟨g,cur,fz,xs,h3⟩
 · have hl:l=[]:=List.eq_nil_of_length_eq_zero (by omega)
   subst hl
   simp at hk
 · have hs:iN V (eAt w0 E) xs l:=h3.rep
   refine⟨_,hs.2 k x hk,fun j u hu=>?_⟩
   rw [List.getElem?_take] at hu
   split at hu
   · rw [List.getElem?_drop] at hu
     obtain⟨a,rfl,hc⟩:=h3.cells _ u hu
     rw [lH]
     exact hc
   · cases hu
theorem W1.od {P:Program} {o:Oper} {ops:Array Oper} {Q:Exit→Act→World→Prop} {K:Act→World→Prop} (Ψ:Value→Prop) (hc:okO N ops M o=true)
 (hv : ∀ w,Hp w0 V H w→∃ v,(execOp (evM M) o).run P w = .ok (.value v) w∧Ψ v) (h : ∀ v,Ψ v→T N w0 V H (iq o.dst v M) K) : W1 P Q ops o N w0 V H M K:=fun a w hf hh=>by
 obtain⟨h1,_,_,h4⟩:=jd hc
 refine⟨i8 hf h1,?_⟩
 obtain⟨v,hrun,hp⟩:=hv w hh
 unfold Oper.wp
 rw [jr hc hf,hrun]
 exact h v hp _ _ (hf.put h4 v) hh
theorem T.qb {b t:Nat} {x:α} {cs:List Value} (i:Nat) (H' : List HObj) (hi:nth H i=some (box b t cs)) (hr:E.rep V cs x) (hs:0 < 1) (hH:H.set i (row t E (some ⟨b,0,none⟩) 1 [x])=H')
 (h:T N w0 V H' M φ) : T N w0 V H M φ:=fun a w hf hh=>by
 rw [jC] at hi
 have hbox:w.heap[b]? = some (.cells cs.toArray t (0,0)):=hh.objs _ (List.mem_of_getElem? hi)
 have hlen:=E.len hr
 refine h a w hf (hH ▸ hh.turn (o:=none) hi ⟨rfl,rfl,rfl,Nat.le_refl _,fun _ _ _=>rfl⟩ ?_ (fun b' hb'=>.inl ?_))
 · refine⟨Nat.le_refl _,by decide,.inr ⟨b,_,_,cs,⟨rfl,hbox,fun _=>rfl,fun i _ h=>by simp at h,by simp [hlen],by simp [← hlen],?_⟩⟩⟩
   refine⟨by rw [hlen];simp,fun k y hk=>?_⟩
   cases k with
   | zero =>
    obtain rfl:x=y:=by simpa using hk
    rw [Nat.zero_mul,List.drop_zero,List.take_of_length_le (by rw [hlen];exact Nat.le_refl _)]
    exact hr
   | succ k=>simp at hk
 · have e:jc (some (⟨b,0,none⟩ : Addr)) 1=some b:=rfl
   exact e.symm.trans hb'
theorem Hp.freezeM (h:Hp w0 V H w) (i:Nat) (hi:nth H i=some (kb p e (eAt w0 E) A c l)) (hH:H.eraseIdx i=H') : ∃ V',View.le V V'∧Hp w0 V' H' w∧ib (made w0 V') E A c l:=by
 obtain⟨V',h1,h2,h3,_⟩:=h.freeze i hi hH
 refine⟨V',h1,h2,?_⟩
 obtain⟨k1,k2,xs,hr,hl⟩:=h3
 refine⟨k1,k2,xs,⟨hr.1,hr.2⟩,fun j u hu=>?_⟩
 obtain⟨a,ha,hc⟩:=hl j u hu
 refine⟨a,ha,?_⟩
 rw [jC] at hi
 obtain⟨g1,g2,g3⟩:=h.objs _ (List.mem_of_getElem? hi)
 rcases g3 with g3 | ⟨g,cur,fz,ys,hrow⟩
 · exfalso
   have hl0:l=[]:=List.eq_nil_of_length_eq_zero (by omega)
   subst hl0
   have:=hr.1
   rw [List.length_nil,Nat.zero_mul] at this
   rw [List.eq_nil_of_length_eq_zero this] at hu
   simp at hu
 · have hag:a=⟨g,0,none⟩:=Option.some.inj (ha.symm.trans hrow.adr)
   subst hag
   have hnew : ¬ g < w0.heap.size:=fun hlt=>by
    have hw:(vw w0) g=some w0.heap[g]:=Array.getElem?_eq_getElem hlt
    have hc0:c≠0:=fun hc0=>by
     have hl0:l=[]:=List.eq_nil_of_length_eq_zero (by omega)
     subst hl0
     have:=hr.1
     rw [List.length_nil,Nat.zero_mul] at this
     rw [List.eq_nil_of_length_eq_zero this] at hu
     simp at hu
    have:=h.apart _ (List.mem_of_getElem? hi) g (by show jc A c=some g;unfold jc;rw [if_neg hc0,hrow.adr];rfl)
    rw [h.base g _ hw] at this
    cases this
   have e1:((⟨g,0,none⟩ : Addr).add j).block=g:=lm _ _
   unfold View.cell at hc ⊢
   rw [e1] at hc ⊢
   unfold made
   rw [if_neg hnew]
   exact hc
theorem T.oI (i:Nat) (hi:nth H i=some (kb p e (eAt w0 E) A c l)) (hH:H.eraseIdx i=H') (h : ∀ V',View.le V V'→ib (made w0 V') E A c l→T N w0 V' H' M φ) : T N w0 V H M φ:=fun a w hf hh=>by
 obtain⟨V',h1,h2,h4⟩:=hh.freezeM i hi hH
 exact h V' h1 h4 a w hf h2
end
theorem T.jT {P:Program} {fn:Func} {R:Ending→World→Prop} {N:Sz} {M:List (Nat × Value)} {w0:World} {V:View} {H:List HObj} (hr:fn.results = #[]) (h : ∀ w,Hp w0 V H w→R (.returned (.tuple #[])) w) (hN:N.ds=[]:=by rfl) : T N w0 V H M (bodyPost P fn R .normal) :=
 fun a w hf hh=>⟨by rw [hf.defers,hN];rfl,_,by simp [results,hr],h w hh⟩
end Go.Proofs.Ytljbmnknmhogaaa
