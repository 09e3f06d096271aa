/- The program logic's rules for arrays at an index that is not known. Its conditions: none. -/
import Derived.Test.YtaoocidchclpnaaGreatDataY
import Derived.Test.YtaoocidchclpnaaGreatOpsY
open List renaming length_replicate→a_, replicate→d_, mem_of_getElem?→g_, eq_nil_of_length_eq_zero→i_, take_of_length_le→o_, mem_cons_of_mem→q_
open Nat renaming le_refl→f_, mul_one→j_, zero_mul→l_
open Option renaming some→p_
namespace Go.Proofs.YtaoocidchclpnaaGreat
open Go.RowKit
set_option linter.unusedVariables false
section
variable {P:Program} {M:List (Nat × Value)} {o:Oper} {N:Sz} {w0 w:World} {V:View} {H:List HObj}
end
section
variable {P:Program} {M:List (Nat × Value)} {o:Oper} {N:Sz} {w0 w:World} {V:View} {H:List HObj} {α:Type} {E:Enc α} {φ:Act→World→Prop}
theorem T.sO {b t n:Nat} {x:α} {v:Value} (hE : ∀ V,E.rep V [v] x) (hs:E.size=1) (h0:0 < n) (hn:n≤maxLen)
 (h:T N w0 V (row t E (some ⟨b,0,none⟩) n (d_ n x)::H) M φ) : T N w0 V (box b t (d_ n v)::H) M φ:=fun a w hf hh=>by
 refine h a w hf ?_
 have hbox:w.heap[b]? = some (.cells (d_ n v).toArray t (0,0)):=hh.objs _ (List.mem_cons_self ..)
 have hblk:i8 (some (⟨b,0,none⟩ : Addr)) n=some b:=by unfold i8;rw [if_neg (by omega)];rfl
 refine { os:=hh.os,tape:=hh.tape,output:=hh.output,size:=hh.size,view:=hh.view,base:=hh.base,objs:=fun y hy=>?_,apart:=fun y hy b' hb'=>?_,sep:=?_ }
 · rcases List.mem_cons.1 hy with rfl | hy
   · refine⟨by rw [a_];exact f_ _,hn,.inr ⟨b,_,_,_,⟨rfl,hbox,fun _=>rfl,fun i _ h=>by simp at h,?_,rfl,?_⟩⟩⟩
     · rw [List.size_toArray,a_,hs,j_]
     · rw [a_,hs,j_]
       show iE V E ((d_ n v).take n) (d_ n x)
       rw [o_ (by rw [a_];exact f_ _)]
       refine⟨by rw [a_,a_,hs,j_],fun k y hk=>?_⟩
       have hkn:k < n:=by
        have:=(List.getElem?_eq_some_iff.1 hk).1
        rwa [a_] at this
       have hyx:y=x:=List.eq_of_mem_replicate (g_ hk)
       subst hyx
       rw [hs,j_]
       have:((d_ n v).drop k).take 1=[v]:=by
        rw [List.drop_replicate,List.take_replicate,Nat.min_eq_left (by omega)];rfl
       rw [this];exact hE V
   · exact hh.objs y (q_ _ hy)
 · rcases List.mem_cons.1 hy with rfl | hy
   · have e:b=b':=p_.inj (hblk.symm.trans hb')
     subst e
     exact hh.apart _ (List.mem_cons_self ..) b rfl
   · exact hh.apart y (q_ _ hy) b' hb'
 · have hs:=hh.sep
   rw [List.pairwise_cons] at hs ⊢
   refine⟨fun y hy b' hb'=>?_,hs.2⟩
   have e:b=b':=p_.inj (hblk.symm.trans hb')
   subst e
   exact hs.1 y hy b rfl
theorem W1.qq {ops:Array Oper} {Q:Exit→Act→World→Prop} {K:Act→World→Prop} (h:T N w0 V H M (fun a w=>Region.wanted o (yielded ops a.tmps)=true∧o.wp P a w K Q)) : W1 P Q ops o N w0 V H M K:=h
theorem W1.qr {ops:Array Oper} {Q:Exit→Act→World→Prop} {K:Act→World→Prop} (h:W1 P Q ops o N w0 V H M K) : T N w0 V H M (fun a w=>Region.wanted o (yielded ops a.tmps)=true∧o.wp P a w K Q):=h
theorem Hp.row_len {p:Bool} {t:TypeId} {A:Option Addr} {c:Nat} {l:List α} (h:Hp w0 V H w) {i:Nat} (hi:nth H i=some (kj p t E A c l)) : l.length≤c:=by
 rw [ju] at hi
 exact(h.objs _ (g_ hi)).1
theorem oZ {t e:TypeId} {x i:Operand} {b s n:Nat} {k:IntKind} {iv:Int} {l:List α} (ho:o.op = .indexAddr t x i) (hx:evM M x = .pointer (some ⟨b,0,none⟩)) (hi:evM M i = .int k iv)
 (ht:P.underlying t=some (.array n e)) (hs:(sizeOf e).run P w = .ok s w) (h0:0≤iv) (h1:iv < (l.length:Int)) (hl:l.length≤n) :
 (execOp (evM M) o).run P w = .ok (.value (.pointer (some ((iy (some ⟨b,0,none⟩)).add (iv.toNat * s))))) w:=by
 have h2:iv < (n:Int):=by omega
 simp [execOp,ho,hx,hi,Instr.indexAt,asIntOf,run_underlying ht,hs,h0,h2,Instr.sureAddr,iy]
end
def eAt {α:Type} (w0:World) (E:Enc α) : Enc α where
 size:=E.size
 rep:=fun V cs x=>E.rep (made w0 V) cs x
 mono:=fun hv h=>E.mono (jD hv) h
 len:=fun h=>E.len h
 one:=fun h=>E.one h
theorem hJ.ofAt {α:Type} {E:Enc α} {w0:World} {V:View} {A:Option Addr} {c:Nat} {l:List α} (h:hJ V (eAt w0 E) A c l) : hJ V E A c l:=by
 obtain⟨h1,h2,xs,⟨h3,h4⟩,h5⟩:=h
 exact⟨h1,h2,xs,⟨h3,fun k x hx=>E.mono (io _ _) (h4 k x hx)⟩,h5⟩
section
variable {N:Sz} {M:List (Nat × Value)} {w0 w:World} {V:View} {H H' : List HObj} {α:Type} {E:Enc α} {φ:Act→World→Prop} {p:Bool} {e:TypeId} {A:Option Addr} {c:Nat} {l:List α}
theorem jx {x:α} {b:Nat} {t:TypeId} {cs:List Value} (hh:Hp w0 V H w) {i:Nat} (hi:nth H i=some (box b t cs)) (hr:E.rep V cs x) : ∃ news,iE V E news [x]∧mY (vw w) (some ⟨b,0,none⟩) news:=by
 refine⟨cs,⟨?_,fun k y hk=>?_⟩,qU fun j=>?_⟩
 · rw [E.len hr];simp
 · cases k with
   | zero =>
    obtain rfl:x=y:=by simpa using hk
    rw [l_,List.drop_zero,o_ (by rw [E.len hr];exact f_ _)]
    exact hr
   | succ k=>simp at hk
 · rw [ju] at hi
   exact hh.cell_box hi j
theorem Hp.row_elem {i k:Nat} {x:α} (h:Hp w0 V H w) (hi:nth H i=some (kj p e (eAt w0 E) A c l)) (hk:l[k]? = some x) :
 ∃ cs,E.rep (made w0 V) cs x∧∀ j u,cs[j]? = some u→w.cell? (((iy A).add (k * E.size)).add j)=some u:=by
 rw [ju] at hi
 obtain⟨h1,h2,h3⟩:=h.objs _ (g_ hi)
 rcases h3 with h3 | ⟨g,cur,fz,xs,h3⟩
 · have hl:l=[]:=i_ (by omega)
   subst hl
   simp at hk
 · have hs:iE V (eAt w0 E) xs l:=h3.rep
   refine⟨_,hs.2 k x hk,fun j u hu=>?_⟩
   rw [List.getElem?_take] at hu
   split at hu
   · rw [List.getElem?_drop] at hu
     obtain⟨a,rfl,hc⟩:=h3.cells _ u hu
     rw [lU]
     exact hc
   · cases hu
theorem W1.pI {P:Program} {o:Oper} {ops:Array Oper} {Q:Exit→Act→World→Prop} {K:Act→World→Prop} (Ψ:Value→Prop) (hc:okO N ops M o=true)
 (hv : ∀ w,Hp w0 V H w→∃ v,(execOp (evM M) o).run P w = .ok (.value v) w∧Ψ v) (h : ∀ v,Ψ v→T N w0 V H (jh o.dst v M) K) : W1 P Q ops o N w0 V H M K:=fun a w hf hh=>by
 obtain⟨h1,_,_,h4⟩:=i9 hc
 refine⟨iY hf h1,?_⟩
 obtain⟨v,hrun,hp⟩:=hv w hh
 unfold Oper.wp
 rw [jq hc hf,hrun]
 exact h v hp _ _ (hf.put h4 v) hh
theorem T.sc {b t:Nat} {x:α} {cs:List Value} (i:Nat) (H' : List HObj) (hi:nth H i=some (box b t cs)) (hr:E.rep V cs x) (hs:0 < 1) (hH:H.set i (row t E (some ⟨b,0,none⟩) 1 [x])=H')
 (h:T N w0 V H' M φ) : T N w0 V H M φ:=fun a w hf hh=>by
 rw [ju] at hi
 have hbox:w.heap[b]? = some (.cells cs.toArray t (0,0)):=hh.objs _ (g_ hi)
 have hlen:=E.len hr
 refine h a w hf (hH ▸ hh.turn (o:=none) hi ⟨rfl,rfl,rfl,f_ _,fun _ _ _=>rfl⟩ ?_ (fun b' hb'=>.inl ?_))
 · refine⟨f_ _,by decide,.inr ⟨b,_,_,cs,⟨rfl,hbox,fun _=>rfl,fun i _ h=>by simp at h,by simp [hlen],by simp [← hlen],?_⟩⟩⟩
   refine⟨by rw [hlen];simp,fun k y hk=>?_⟩
   cases k with
   | zero =>
    obtain rfl:x=y:=by simpa using hk
    rw [l_,List.drop_zero,o_ (by rw [hlen];exact f_ _)]
    exact hr
   | succ k=>simp at hk
 · have e:i8 (some (⟨b,0,none⟩ : Addr)) 1=some b:=rfl
   exact e.symm.trans hb'
theorem Hp.freezeM (h:Hp w0 V H w) (i:Nat) (hi:nth H i=some (kj p e (eAt w0 E) A c l)) (hH:H.eraseIdx i=H') : ∃ V',View.le V V'∧Hp w0 V' H' w∧hJ (made w0 V') E A c l:=by
 obtain⟨V',h1,h2,h3,_⟩:=h.freeze i hi hH
 refine⟨V',h1,h2,?_⟩
 obtain⟨k1,k2,xs,hr,hl⟩:=h3
 refine⟨k1,k2,xs,⟨hr.1,hr.2⟩,fun j u hu=>?_⟩
 obtain⟨a,ha,hc⟩:=hl j u hu
 refine⟨a,ha,?_⟩
 rw [ju] at hi
 obtain⟨g1,g2,g3⟩:=h.objs _ (g_ hi)
 rcases g3 with g3 | ⟨g,cur,fz,ys,hrow⟩
 · exfalso
   have hl0:l=[]:=i_ (by omega)
   subst hl0
   have:=hr.1
   rw [List.length_nil,l_] at this
   rw [i_ this] at hu
   simp at hu
 · have hag:a=⟨g,0,none⟩:=p_.inj (ha.symm.trans hrow.adr)
   subst hag
   have hnew : ¬ g < w0.heap.size:=fun hlt=>by
    have hw:(vw w0) g=some w0.heap[g]:=Array.getElem?_eq_getElem hlt
    have hc0:c≠0:=fun hc0=>by
     have hl0:l=[]:=i_ (by omega)
     subst hl0
     have:=hr.1
     rw [List.length_nil,l_] at this
     rw [i_ this] at hu
     simp at hu
    have:=h.apart _ (g_ hi) g (by show i8 A c=some g;unfold i8;rw [if_neg hc0,hrow.adr];rfl)
    rw [h.base g _ hw] at this
    cases this
   have e1:((⟨g,0,none⟩ : Addr).add j).block=g:=lG _ _
   unfold View.cell at hc ⊢
   rw [e1] at hc ⊢
   unfold made
   rw [if_neg hnew]
   exact hc
theorem T.li (i:Nat) (hi:nth H i=some (kj p e (eAt w0 E) A c l)) (hH:H.eraseIdx i=H') (h : ∀ V',View.le V V'→hJ (made w0 V') E A c l→T N w0 V' H' M φ) : T N w0 V H M φ:=fun a w hf hh=>by
 obtain⟨V',h1,h2,h4⟩:=hh.freezeM i hi hH
 exact h V' h1 h4 a w hf h2
end
theorem T.mZ {P:Program} {fn:Func} {R:Ending→World→Prop} {N:Sz} {M:List (Nat × Value)} {w0:World} {V:View} {H:List HObj} (hr:fn.results = #[]) (h : ∀ w,Hp w0 V H w→R (.returned (.tuple #[])) w) (hN:N.ds=[]:=by rfl) : T N w0 V H M (bodyPost P fn R .normal) :=
 fun a w hf hh=>⟨by rw [hf.defers,hN];rfl,_,by simp [results,hr],h w hh⟩
end Go.Proofs.YtaoocidchclpnaaGreat
