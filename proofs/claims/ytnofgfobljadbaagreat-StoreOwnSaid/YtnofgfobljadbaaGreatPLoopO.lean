/- A part of a row turned to nought: Go's clear. Its conditions: none. -/
import Derived.Test.YtnofgfobljadbaaGreatRecO
import Derived.Lib.AppendZeros
import Derived.Lib.AppendZerosOnto
import Derived.Lib.Overlaps
open List renaming replicate→a_, length_append→f_, length_take→g_, mem_of_getElem?→j_, getElem?_eq_some_iff→l_, size_toArray→q_, getElem?_eq_getElem→u_, getElem?_take→v_, length_drop→x_, map_toArray→y_, map_cons→z_, map_nil→B_, ext_getElem?→D_, toList_toArray→E_, length_replicate→F_, take_of_length_le→I_, findSome?_cons→J_, mem_zipIdx_iff_getElem?→K_, getElem?_toArray→M_, getElem?_cons_zero→N_, drop_replicate→Q_
open Nat renaming mul_le_mul_right→d_, add_mul→i_, min_eq_left→t_, mul_pos→H_
open Array renaming length_toList→p_, getElem?_toList→L_, getElem?_push→O_, toList_append→P_
open Option renaming some→C_, map_some→G_
namespace Go.Proofs.YtnofgfobljadbaaGreat
set_option linter.unusedSimpArgs false
set_option linter.unusedVariables false
section
open Go.RowKit
section
variable {P:Program} {α:Type} {N:Sz} {w0:World} {V:View} {H:List HObj} {M:List (Nat×Value)} {ops:Array Oper} {Q:Exit->Act->World->Prop} {o:Oper} {K:Act->World->Prop} {E:Enc α} {p:Bool} {t e:TypeId} {A:Option Addr} {c:Nat} {l:List α}
theorem T.ir {k:Act->World->Prop} {Q:Exit->Act->World->Prop} (h:T N w0 V H M (Q .ret)):T N w0 V H M (Exit.then k Q .ret):=λa w hf hh=>h a w hf hh
theorem T.ik {id:Nat} {Q:Exit->Act->World->Prop} (h:T N w0 V H M (Q .ret)):T N w0 V H M (Exit.inBlock id Q .ret):=λa w hf hh=>h a w hf hh
theorem rF {z:Array Value} {x:α} (hrep:∀V,E.rep V z.toList x) (hzs:z.size=E.size) (n:Nat):io V E (Builtin.zeroCells z n).toList (a_ n x):=by
 refine⟨by simp[Builtin.zeroCells,hzs],λk y hk=>?_⟩;have hkn:k<n:=by have:=(l_.1 hk).1;simpa using this
 have hyx:y=x:=List.eq_of_mem_replicate (j_ hk);subst hyx;refine(congrArg (λq=>E.rep V q y) ?_).mpr (hrep V);apply D_;intro j;rw[v_];have hkk:k * E.size + E.size<=n * E.size:=by have:=d_ E.size (show k + 1<=n from hkn);rw[i_,Nat.one_mul] at this;exact this
 split
 . rename_i hj;have hjz:j<z.size:=o_;have hlt:k * E.size + j<n * E.size:=o_;have hmod:(k * E.size + j) % E.size=j:=by rw[Nat.mul_comm,Nat.mul_add_mod,Nat.mod_eq_of_lt hj]
   rw[List.getElem?_drop,L_,L_];have he:z[j]? = some z[j]!:=(by rw[Array.getElem?_eq_getElem hjz,getElem!_pos z j hjz]);simp[Builtin.zeroCells,hzs,hmod,hlt,he]
 . rename_i hj;rw[List.getElem?_eq_none];simp;omega
theorem W1.pP (i lo dn:Nat) {x:α} {z:Value} {dc:Nat} (d:Operand) (hi:nth H i=some (jQ p e E A c l))
 (hc:okO N ops M o=true) (ho:o.op=.call { callee:=.builtin .clear,args:=#[d],argTypes:=#[t] })
 (ht:P.underlying t=some (.slice e)) (hzv:∀w,(zeroValue e).run P w=.ok z w) (hrep:∀V,E.rep V z.cells.toList x) (hzs:z.cells.size=E.size) (hs0:0<E.size)
 (hd:evM M d=.slice (iN A c lo E.size) dn dc) (hdn:lo + dn<=l.length)
 (h:T N w0 V (H.set i (jQ p e E A c (over l lo (a_ dn x)))) (ic o.dst (.tuple #[]) M) K):W1 P Q ops o N w0 V H M K:=λa w hf hh=>by
 obtain⟨g1,_,_,h4⟩:=iP hc;rw[i9] at hi;refine⟨iM hf g1,?_⟩;obtain⟨hlc,hcm,hrow⟩:=hh.objs _ (j_ hi)
 have key:∃w',(Builtin.clear_ #[t] o.type #[.slice (iN A c lo E.size) dn dc]).run P w=.ok (.tuple #[]) w'/\(jQ p e E A c (over l lo (a_ dn x))).ok V w'/\w.grownBy w' (iJ A c):=by
  rcases Nat.eq_zero_or_pos dn with h0|h0
  . subst h0;have hov:over l lo (a_ 0 x)=l:=by simp[over]
    refine⟨w,?_,by rw[hov];exact⟨hlc,hcm,hrow⟩,rfl,rfl,rfl,Nat.le_refl _,λ_ _ _=>rfl⟩;cases hca:iN A c lo E.size <;> simp[Builtin.clear_,run_underlying ht]
  . have hc0:c≠0:=o_;rcases hrow with hz|⟨g,cur,fz,xs,hrow⟩
    . exact absurd hz hc0
    have hT:io V E (Builtin.zeroCells z.cells dn).toList (a_ dn x):=rF hrep hzs dn;have hTl:(Builtin.zeroCells z.cells dn).toList.length=dn * E.size:=(by rw[hT.1,F_]);have hcut:iN A c lo E.size=some ⟨g,lo * E.size,none⟩:=(by have:(⟨g,0,none⟩:Addr).add (lo * E.size)=⟨g,lo * E.size,none⟩:=(by unfold Addr.add;split <;> simp_all);unfold iN;rw[if_neg o_,hrow.adr,G_,this]);have hfl:lo * E.size + (Builtin.zeroCells z.cells dn).toList.length<=l.length * E.size:=(by rw[hTl,<-i_];exact d_ _ o_);have hlcs:=d_ E.size hlc;have hfit:lo * E.size + 0 + (Builtin.zeroCells z.cells dn).toList.length<=cur.size:=(by rw[hrow.size];omega);have hst:=jI (P:=P) g (lo * E.size) e fz (Builtin.zeroCells z.cells dn).toList 0 cur w hrow.heap hrow.unfrz hfit (λu hu=>hT.one u hu);simp only[Nat.add_zero] at hst;refine⟨w.setRow g (cur.toList.take (lo * E.size)++(Builtin.zeroCells z.cells dn).toList++cur.toList.drop (lo * E.size + (Builtin.zeroCells z.cells dn).toList.length)).toArray,?_,?_,?_⟩
    . obtain⟨k,rfl⟩:∃k,dn=k + 1:=⟨dn - 1,by omega⟩;rw[hcut];simp only[Builtin.clear_,Sem.run_bind,Sem.run_pure,Result.andThen_ok,run_underlying ht,hzv,hst,M_,N_]
    . generalize hns:(Builtin.zeroCells z.cells dn).toList=ns at *
      have hlen:(cur.toList.take (lo * E.size)++ns++cur.toList.drop (lo * E.size + ns.length)).length=cur.size:=(by simp only[f_,g_ (l:=cur.toList),x_,p_];omega);have hol:(over l lo (a_ dn x)).length=l.length:=jW _ _ _ (by rw[F_];omega);refine⟨by rw[hol];exact hlc,hcm,.inr ⟨g,_,fz,_,⟨hrow.adr,setRow_heap w g cur _ e _ hrow.heap,hrow.plain,?_,?_,rfl,?_⟩⟩⟩
      . rw[q_,hlen];exact hrow.unfrz
      . rw[q_,hlen];exact hrow.size
      . have hset:=hrow.rep.over hT lo;refine(congrArg (λq=>io V E q _) ?_).mp hset;have hxl:xs.length=l.length * E.size:=hrow.rep.1;rw[hol];apply D_;intro j;have hfit2:lo * E.size + ns.length<=cur.toList.length:=(by rw[p_];omega);rw[jO xs ns (lo * E.size) j (by rw[hxl];omega),v_];simp only[E_];rw[jO cur.toList ns (lo * E.size) j hfit2,<-hrow.take,v_];by_cases hj:j<l.length * E.size
        . rw[if_pos hj,if_pos hj]
        . rw[if_neg hj,if_neg hj,if_neg o_]
    . have:iJ A c=some g:=(by unfold iJ;rw[if_neg hc0,hrow.adr];rfl);rw[this];exact⟨rfl,rfl,rfl,by simp,λb _ hb=>setRow_other w g b _ (λe=>hb (by rw[e]))⟩
 obtain⟨w',hr,hok,hg⟩:=key;unfold Oper.wp;rw[ja hc hf];have hrun:(execOp (evM M) o).run P w=.ok (.value (.tuple #[])) w':=by simp only[execOp,ho,resolve,invoke,builtin,Sem.run_bind,Sem.run_pure,Result.andThen_ok,y_,z_,B_,hd,hr]
 rw[hrun];exact h _ _ (hf.put h4 _) (hh.turn hi hg hok (λb hb=>.inl hb))
end
def vN (bytes:Nat) (n:Int):Option Unit:=if 0<n/\n.toNat * bytes<=140737488355328/\n.toNat<=maxLen then some () else none
section
variable {P:Program} {α:Type} {N:Sz} {w0:World} {V:View} {H:List HObj} {M:List (Nat×Value)} {ops:Array Oper} {Q:Exit->Act->World->Prop} {o:Oper} {K:Act->World->Prop} {E:Enc α} {p:Bool} {t e:TypeId} {A:Option Addr} {c:Nat} {l:List α}
theorem sj {w:World} (o:Obj):w.grownBy (w.drew.alloc o) none:=by
 refine⟨rfl,rfl,rfl,?_,λk hk _=>?_⟩
 . show w.heap.size<=(w.heap.push o).size;rw[Array.size_push];omega
 . show (w.heap.push o)[k]? = _;rw[O_,if_neg (Nat.ne_of_lt hk)]
end
end
section
open Go.RowKit
section
variable {P:Program} {Q:Exit->Act->World->Prop} {M:List (Nat×Value)} {ops:Array Oper} {o:Oper} {N:Sz} {w0 w:World} {V:View} {H:List HObj} {K:Act->World->Prop}
variable {α:Type} {E:Enc α} {p:Bool} {t e:TypeId} {A:Option Addr} {c:Nat} {l:List α}
theorem hJ {x:Operand} {lx hx:Option Operand} {n s:Nat} {lo hi:Int} {k k':IntKind} (ho:o.op=.slice t x lx hx none)
 (hxv:evM M x=.slice A n c) (ht:P.underlying t=some (.slice e)) (hs:(sizeOf e).run P w=.ok s w)
 (hlo:match lx with|some y=>evM M y=.int k lo|none=>lo=0) (hhi:match hx with|some y=>evM M y=.int k' hi|none=>hi=n) (h0:0<=lo) (h1:lo<=hi) (h2:hi<=c) :
 (execOp (evM M) o).run P w=.ok (.value (.slice (iN A c lo.toNat s) (hi.toNat - lo.toNat) (c - lo.toNat))) w:=by
 have e1:=@jj P w k' hi c .sliceAcap o_ o_;have e2:=@jj P w k lo hi.toNat .sliceB h0 o_
 cases lx with
 |none =>
  dsimp only at hlo;subst hlo
  cases hx with
  |none=>dsimp only at hhi;subst hhi;simp[execOp,ho,hxv,Instr.sliceAt,run_underlying ht,Instr.slice,Instr.sliceBounds,hs,iN]
  |some y=>dsimp only at hhi;simp[execOp,ho,hxv,hhi,Instr.sliceAt,run_underlying ht,Instr.slice,Instr.sliceBounds,hs,iN,e1]
 |some z =>
  dsimp only at hlo
  cases hx with
  |none=>dsimp only at hhi;subst hhi;rw[show ((n:Int)).toNat=n from Int.toNat_natCast _] at e2;simp[execOp,ho,hxv,hlo,Instr.sliceAt,run_underlying ht,Instr.slice,Instr.sliceBounds,hs,iN,e2]
  |some y=>dsimp only at hhi;simp[execOp,ho,hxv,hlo,hhi,Instr.sliceAt,run_underlying ht,Instr.slice,Instr.sliceBounds,hs,iN,e1,e2]
theorem po {x lx hx mx:Operand} {n s:Nat} {lo hi mi:Int} {k k' k'':IntKind} (ho:o.op=.slice t x (some lx) (some hx) (some mx))
 (hxv:evM M x=.slice A n c) (ht:P.underlying t=some (.slice e)) (hs:(sizeOf e).run P w=.ok s w)
 (hlo:evM M lx=.int k lo) (hhi:evM M hx=.int k' hi) (hmi:evM M mx=.int k'' mi) (h0:0<=lo) (h1:lo<=hi) (h2:hi<=mi) (h3:mi<=c) :
 ∃v,(execOp (evM M) o).run P w=.ok (.value v) w:=by
 have e0:=@jj P w k'' mi c .slice3Acap o_ o_;have e1:=@jj P w k' hi mi.toNat .slice3B o_ o_;have e2:=@jj P w k lo hi.toNat .slice3C h0 o_;simp[execOp,ho,hxv,hlo,hhi,hmi,Instr.sliceAt,run_underlying ht,Instr.slice,Instr.sliceBounds,hs,e0,e1,e2]
theorem W1.pQ (hc:okO N ops M o=true) (hv:∀w,Hp w0 V H w->∃v,(execOp (evM M) o).run P w=.ok (.value v) w) (h:∀v,T N w0 V H (ic o.dst v M) K):W1 P Q ops o N w0 V H M K:=λa w hf hh=>by obtain⟨h1,_,_,h4⟩:=iP hc;refine⟨iM hf h1,?_⟩;obtain⟨v,hrun⟩:=hv w hh;unfold Oper.wp;rw[ja hc hf,hrun];exact h v _ _ (hf.put h4 v) hh
theorem sB {g:Nat} {cur:Array Value} {fz:Nat×Nat} {xs ys:List Value} {m:List α} {lo:Nat} (hrow:RowAt p e E A c l V w g cur fz xs) (hcm:c<=maxLen) (hy:io V E ys m) (hlo:lo<=l.length) (hlc:l.length<=c) (hfit:lo + m.length<=c) (hlong:l.length<=lo + m.length) :
 (jQ p e E A c (l.take lo++m)).ok V (w.setRow g (cur.toList.take (lo * E.size)++ys++cur.toList.drop (lo * E.size + ys.length)).toArray):=by
 have hyl:ys.length=m.length * E.size:=hy.1;have hls:=d_ E.size hlo;have hcs:=d_ E.size hlc;have hfs:lo * E.size + m.length * E.size<=c * E.size:=by rw[<-i_];exact d_ _ hfit
 have hlen:(cur.toList.take (lo * E.size)++ys++cur.toList.drop (lo * E.size + ys.length)).length=cur.size:=by simp only[f_,g_ (l:=cur.toList),x_,p_];rw[hrow.size];omega
 have hl2:(l.take lo++m).length=lo + m.length:=by rw[f_,g_,t_ hlo]
 have hT:=(hrow.rep.takeN lo).append hy;refine⟨by rw[hl2];exact hfit,hcm,.inr ⟨g,_,fz,_,⟨hrow.adr,setRow_heap w g cur _ e _ hrow.heap,hrow.plain,?_,?_,rfl,?_⟩⟩⟩
 . rw[q_,hlen];exact hrow.unfrz
 . rw[q_,hlen];exact hrow.size
 . refine(congrArg (λq=>io V E q (l.take lo++m)) ?_).mp hT;have htk:xs.take (lo * E.size)=cur.toList.take (lo * E.size):=by rw[<-hrow.take,List.take_take,t_ hls]
   rw[htk,hl2,E_,i_,<-hyl];have hln:(cur.toList.take (lo * E.size)++ys).length=lo * E.size + ys.length:=(by have hct:cur.toList.length=cur.size:=p_;rw[f_,g_,t_ (by rw[hct,hrow.size];omega)]);rw[List.take_left' hln]
theorem uk {g:Nat} {cur:Array Value} {fz:Nat×Nat} {xs ys:List Value} {m:List α} {lo:Nat} (hrow:RowAt p e E A c l V w g cur fz xs) (hcm:c<=maxLen) (hlc:l.length<=c) (hy:io V E ys m) (hfit:lo + m.length<=l.length) :
 (jQ p e E A c (over l lo m)).ok V (w.setRow g (cur.toList.take (lo * E.size)++ys++cur.toList.drop (lo * E.size + ys.length)).toArray):=by
 have hyl:ys.length=m.length * E.size:=hy.1;have hcs:=d_ E.size hlc;have hfs:lo * E.size + ys.length<=l.length * E.size:=by rw[hyl,<-i_];exact d_ _ hfit
 have hlen:(cur.toList.take (lo * E.size)++ys++cur.toList.drop (lo * E.size + ys.length)).length=cur.size:=by simp only[f_,g_ (l:=cur.toList),x_,p_];rw[hrow.size];omega
 have hol:(over l lo m).length=l.length:=jW _ _ _ hfit;refine⟨by rw[hol];exact hlc,hcm,.inr ⟨g,_,fz,_,⟨hrow.adr,setRow_heap w g cur _ e _ hrow.heap,hrow.plain,?_,?_,rfl,?_⟩⟩⟩
 . rw[q_,hlen];exact hrow.unfrz
 . rw[q_,hlen];exact hrow.size
 . have hset:=hrow.rep.over hy lo;refine(congrArg (λq=>io V E q _) ?_).mp hset;have hxl:xs.length=l.length * E.size:=hrow.rep.1;rw[hol];apply D_;intro j;have hct:cur.toList.length=cur.size:=p_;have hfit2:lo * E.size + ys.length<=cur.toList.length:=by rw[hct,hrow.size];omega
   rw[jO xs ys (lo * E.size) j (by rw[hxl];omega),v_];simp only[E_];rw[jO cur.toList ys (lo * E.size) j hfit2,<-hrow.take,v_];by_cases hj:j<l.length * E.size
   . rw[if_pos hj,if_pos hj]
   . rw[if_neg hj,if_neg hj,if_neg o_]
theorem W1.oS (i lo dn sn:Nat) {m:List α} {A2:Option Addr} {c2 dc:Nat} {t':TypeId} (d x:Operand) (hi:nth H i=some (jQ p e E A c l))
 (hc:okO N ops M o=true) (ho:o.op=.call { callee:=.builtin .copy,args:=#[d,x],argTypes:=#[t,t'] })
 (ht:P.underlying t=some (.slice e)) (hsz:∀w,(sizeOf e).run P w=.ok E.size w) (hs0:0<E.size)
 (hd:evM M d=.slice (iN A c lo E.size) dn dc) (hx:evM M x=.slice A2 sn c2) (hmin:min sn dn=m.length) (h0:0<m.length) (hlo:lo<=l.length) (hfit:lo + m.length<=c) (hlong:l.length<=lo + m.length)
 (hsrc:∀w,Hp w0 V H w->∃news,io V E news m/\m5 (vw w) A2 news)
 (h:T N w0 V (H.set i (jQ p e E A c (l.take lo++m))) (ic o.dst (.int .i64 (m.length:Int)) M) K):W1 P Q ops o N w0 V H M K:=λa w hf hh=>by
 obtain⟨g1,_,_,h4⟩:=iP hc;rw[i9] at hi;refine⟨iM hf g1,?_⟩;obtain⟨hlc,hcm,hrow⟩:=hh.objs _ (j_ hi);obtain⟨news,hnr,hnl⟩:=hsrc w hh;have hc0:c≠0:=o_;rcases hrow with hz|⟨g,cur,fz,xs,hrow⟩
 . exact absurd hz hc0
 obtain⟨ad,rfl⟩:∃ad,A2=some ad:=by
  have hp:0<news.length:=by rw[hnr.1];exact H_ h0 hs0
  obtain⟨ad,h2,_⟩:=hnl 0 _ (u_ hp);exact⟨ad,h2⟩
 have hload:=run_loadCells_list (P:=P) w ad news (λj u hu=>by
  obtain⟨a',ha,hcell⟩:=hnl j u hu
  injection ha with ha;subst ha;exact hcell)
 rw[hnr.1] at hload
 have hcut:iN A c lo E.size=some ⟨g,lo * E.size,none⟩\/lo=0/\iN A c lo E.size=some ⟨g,lo * E.size,none⟩:=by
  have:(⟨g,0,none⟩:Addr).add (lo * E.size)=⟨g,lo * E.size,none⟩:=by unfold Addr.add;split <;> simp_all
  left;unfold iN;rw[if_neg o_,hrow.adr,G_,this]
 have hcut:iN A c lo E.size=some ⟨g,lo * E.size,none⟩:=by rcases hcut with h|h;exact h;exact h.2
 have hfs:lo * E.size + m.length * E.size<=c * E.size:=by rw[<-i_];exact d_ _ hfit
 have hst:=jI (P:=P) g (lo * E.size) e fz news 0 cur w hrow.heap hrow.unfrz (by rw[hrow.size,hnr.1];omega) (λu hu=>hnr.one u hu);simp only[Nat.add_zero] at hst;have hr:(Builtin.copy_ #[t,t'] o.type #[.slice (iN A c lo E.size) dn dc,.slice (some ad) sn c2]).run P w=.ok (.int .i64 (m.length:Int)) (w.setRow g (cur.toList.take (lo * E.size)++news++cur.toList.drop (lo * E.size + news.length)).toArray):=by rw[hcut];have hmin':Nat.min sn dn=m.length:=hmin;generalize m.length=kk at hmin hmin' hload;simp only[Builtin.copy_,Sem.run_bind,Sem.run_pure,Result.andThen_ok,run_underlying ht,Builtin.lenOf,Builtin.firstCells,hsz,hmin,hload,hst,goInt,M_,N_,List.getElem?_cons_succ]
 unfold Oper.wp;rw[ja hc hf];have hrun:(execOp (evM M) o).run P w=.ok (.value (.int .i64 (m.length:Int))) (w.setRow g (cur.toList.take (lo * E.size)++news++cur.toList.drop (lo * E.size + news.length)).toArray):=by simp only[execOp,ho,resolve,invoke,builtin,Sem.run_bind,Sem.run_pure,Result.andThen_ok,y_,z_,B_,hd,hx,hr]
 rw[hrun];have hblk:iJ A c=some g:=by unfold iJ;rw[if_neg hc0,hrow.adr];rfl
 exact h _ _ (hf.put h4 _) (hh.turn (o:=some g) hi ⟨rfl,rfl,rfl,by simp,λb _ hb=>setRow_other w g b _ (λe=>hb (by rw[e]))⟩ (sB hrow hcm hnr hlo hlc hfit hlong) (λb hb=>.inl hb) (λb hb=>by rw[<-C_.inj hb];exact hblk))
theorem W1.pl (i k:Nat) {m:List α} {A2:Option Addr} {c2:Nat} (s x:Operand) (ti:TypeInfo) (hi:nth H i=some (row e E A c l)) (hk:k + m.length<=l.length)
 (hc:okO N ops M o=true) (ho:o.op=.call { callee:=.builtin .append,args:=#[s,x],argTypes:=#[t,t] })
 (ht:P.underlying t=some (.slice e)) (hti:P.info? e=some ti) (hsize:ti.size=E.size) (hs0:0<E.size)
 (hs:evM M s=.slice A k c) (hx:evM M x=.slice A2 m.length c2) (hsrc:∀w,Hp w0 V H w->∃news,io V E news m/\m5 (vw w) A2 news)
 (h:T N w0 V (H.set i (row e E A c (over l k m))) (ic o.dst (.slice A (k + m.length) c) M) K):W1 P Q ops o N w0 V H M K:=λa w hf hh=>by
 obtain⟨g1,_,_,h4⟩:=iP hc;rw[i9] at hi;refine⟨iM hf g1,?_⟩;obtain⟨hlc,hcm,hrow⟩:=hh.objs _ (j_ hi);obtain⟨news,hnr,hnl⟩:=hsrc w hh;unfold Oper.wp;rw[ja hc hf];rcases Nat.eq_zero_or_pos m.length with hm0|hm0
 . have hm:m=[]:=List.eq_nil_of_length_eq_zero hm0;subst hm;have hr:=mH (P:=P) w t o.type e ti ht hti A A2 k c (by simp at hk;omega) c2;have hrun:(execOp (evM M) o).run P w=.ok (.value (.slice A k c)) w:=by simp only[execOp,ho,resolve,invoke,builtin,Sem.run_bind,Sem.run_pure,Result.andThen_ok,y_,z_,B_,hs,hx,List.length_nil,hr]
   rw[hrun];have hov:over l k ([]:List α)=l:=(by simp[over]);rw[hov] at h
   have hsame:H.set i (row e E A c l)=H:=D_ λj=>by
    rw[List.getElem?_set];split
    . rename_i ej;subst ej;rw[if_pos (l_.1 hi).1,hi]
    . rfl
   rw[hsame] at h;exact h _ _ (hf.put h4 _) hh
 have hc0:c≠0:=o_;rcases hrow with hz|⟨g,cur,fz,xs,hrow⟩
 . exact absurd hz hc0
 obtain⟨ad,rfl⟩:∃ad,A2=some ad:=by
  have hp:0<news.length:=by rw[hnr.1];exact H_ hm0 hs0
  obtain⟨ad,h2,_⟩:=hnl 0 _ (u_ hp);exact⟨ad,h2⟩
 obtain rfl:fz=(0,0):=hrow.plain rfl;have hfs:k * E.size + m.length * E.size<=l.length * E.size:=by rw[<-i_];exact d_ _ hk
 have hcs:=d_ E.size hlc
 have hr:=run_append_room (P:=P) w t o.type e ti ht hti g k c cur hrow.heap ad m.length c2 news (by rw[hsize];exact hnr.1) (λj u hu=>by
  obtain⟨a',ha,hcell⟩:=hnl j u hu
  injection ha with ha;subst ha;exact hcell) (λu hu=>hnr.one u hu) o_ (by rw[hsize,hnr.1,hrow.size];omega)
 rw[hsize] at hr;have hrun:(execOp (evM M) o).run P w=.ok (.value (.slice A (k + m.length) c)) (w.setRow g (cur.toList.take (k * E.size)++news++cur.toList.drop (k * E.size + news.length)).toArray):=by simp only[execOp,ho,resolve,invoke,builtin,Sem.run_bind,Sem.run_pure,Result.andThen_ok,y_,z_,B_,hs,hx,hrow.adr,hr]
 rw[hrun];have hblk:iJ A c=some g:=by unfold iJ;rw[if_neg hc0,hrow.adr];rfl
 exact h _ _ (hf.put h4 _) (hh.turn (o:=some g) hi ⟨rfl,rfl,rfl,by simp,λb _ hb=>setRow_other w g b _ (λe=>hb (by rw[e]))⟩ (uk hrow hcm hlc hnr hk) (λb hb=>.inl hb) (λb hb=>by rw[<-C_.inj hb];exact hblk))
theorem W1.nW (i k n:Nat) {x:α} {z:Value} {tn:TypeId} {kq kn:IntKind} (s y:Operand) (bytes:Nat) (ti:TypeInfo) (hi:nth H i=some (jQ p e E A c l)) (hk:k<=l.length) (hcp:0<c) (h0:0<n) (hg:c<k + n)
 (hc:okO N ops M o=true) (ho:o.op=.call { callee:=.builtin .append,args:=#[s,y],argTypes:=#[t,tn] })
 (ht:P.underlying t=some (.slice e)) (htn:P.underlying tn=some (.int kn)) (hti:P.info? e=some ti) (hz:ti.zero=some z) (hsize:ti.size=E.size) (hby:ti.bytes=bytes) (hrep:∀V,E.rep V z.cells.toList x) (hzs:z.cells.size=E.size) (hs0:0<E.size)
 (hs:evM M s=.slice A k c) (hy:evM M y=.int kq (n:Int)) (hroom:mY (k + n) bytes=true) (hmax:k + n<=maxLen)
 (h:∀A' c',T N w0 V (row e E A' c' (l.take k++a_ n x)::H) (ic o.dst (.slice A' (l.take k++a_ n x).length c') M) K):W1 P Q ops o N w0 V H M K:=λa w hf hh=>by
 obtain⟨g1,_,_,h4⟩:=iP hc;rw[i9] at hi;refine⟨iM hf g1,?_⟩;obtain⟨hlc,hcm,hrow⟩:=hh.objs _ (j_ hi);rcases hrow with hz'|⟨g,cur,fz,xs,hrow⟩
 . omega
 have hbytes:(k + n) * bytes<=140737488355328:=of_decide_eq_true hroom;have hnb:n * bytes<=(k + n) * bytes:=d_ _ o_;have hT:=hrow.rep.takeN k;have hkl:(l.take k).length=k:=by rw[g_,t_ hk]
 have hold:(Builtin.firstCells ti.size k (.slice A k c)).run P w.drew=.ok (xs.take (k * E.size)).toArray w.drew:=by
  rw[hrow.adr,hsize];refine run_firstCells_some (P:=P) w.drew E.size k ⟨g,0,none⟩ k c _ (by rw[hT.1,hkl]) (λj v hj=>?_);rw[v_] at hj;split at hj
  . obtain⟨a',ha,hcell⟩:=hrow.cells j v hj;rw[hrow.adr] at ha;injection ha with ha;subst ha;exact hcell
  . cases hj
 have hr:=Lib.run_append_grow_zeros (P:=P) w t tn o.type e ti z kq kn ht htn hti hz A k c _ hold n h0 (by rw[hsize];exact hs0) hg (by unfold maxLen at hmax;omega) (by rw[hby];omega) (by rw[hby];exact growslice_fits hg hbytes);have hge:=grownCap_ge w (k + n) c e;have hcm':=grownCap_le_maxLen w (k + n) c e hmax;have hlen:(l.take k++a_ n x).length=k + n:=by rw[f_,hkl,F_]
 unfold Oper.wp;rw[ja hc hf];have hrun:(execOp (evM M) o).run P w=.ok (.value (.slice (some ⟨w.heap.size,0,none⟩) (l.take k++a_ n x).length (grownCap w (k + n) c e))) (w.drew.alloc (.cells ((xs.take (k * E.size)).toArray++Builtin.zeroCells z.cells n++Builtin.zeroCells z.cells (grownCap w (k + n) c e - (k + n))) e)):=by simp only[execOp,ho,resolve,invoke,builtin,Sem.run_bind,Sem.run_pure,Result.andThen_ok,y_,z_,B_,hs,hy,hr,hlen]
 rw[hrun];have hzn:∀m,(Builtin.zeroCells z.cells m).size=m * E.size:=λm=>by simp[Builtin.zeroCells,hzs]
 have hxt:(xs.take (k * E.size)).length=k * E.size:=by rw[hT.1,hkl]
 refine h _ _ _ _ (hf.put h4 _) (hh.fresh_obj _ (sj _) ?_ (λb hb=>?_))
 . refine⟨by rw[hlen];exact hge,hcm',.inr ⟨w.heap.size,_,(0,0),xs.take (k * E.size)++(Builtin.zeroCells z.cells n).toList,⟨rfl,(by show (w.heap.push _)[w.heap.size]? = _;rw[O_,if_pos rfl]),λ_=>rfl,λi _ hj=>(by have:=hj.2;simp at this),?_,?_,hT.append (rF hrep hzs n)⟩⟩⟩
   . rw[Array.size_append,Array.size_append,hzn,hzn,q_,hxt,<-i_,<-i_];congr 1;omega
   . rw[hlen,P_,P_,E_,List.take_left'];have hz1:(Builtin.zeroCells z.cells n).toList.length=n * E.size:=(by rw[p_,hzn]);rw[f_,hz1,hxt,i_]
 . have hb':iJ (some ⟨w.heap.size,0,none⟩) (grownCap w (k + n) c e)=some b:=hb;unfold iJ at hb';split at hb'
   . cases hb'
   . injection hb' with hb';exact Nat.le_of_eq hb'
theorem my {f:FuncId} {fn:Func} {x y:Operand} {ts:Array TypeId} {tR tb:TypeId} {s:Nat} {b i j la ca ln cn off:Nat} {vs:List Value} {A':Option Addr} (ho:o.op=.call { callee:=.value (.func f),args:=#[x,y],argTypes:=ts })
 (hx:evM M x=.slice (some ⟨b,0,none⟩) la ca) (hy:evM M y=.slice A' ln cn)
 (hf:P.funcs[f]? = some fn) (hname:(fn.name== "runtime.NumGoroutine")=false) (hb:fn.body.isNone=true) (hn:Extern.findNext fn=none) (he:Extern.find fn=some (Extern.SlicesOverlaps.overlaps #[t,t] #[tR]))
 (ht:P.underlying t=some (.slice e)) (hz:∀w,(Go.sizeOf e).run P w=.ok s w)
 (hh:Hp w0 V H w) (hi:nth H i=some (box b tb vs)) (hj:nth H j=some (jQ p e E A c l)) (hij:i≠j) (hA:∀g,A=some ⟨g,0,none⟩->A'=some ⟨g,off,none⟩) (hc0:0<c) (hs0:0<E.size) :
 (execOp (evM M) o).run P w=.ok (.value (.bool false)) w:=by
 rw[i9] at hi hj
 obtain⟨hlc,hcm,hrow⟩:=hh.objs _ (j_ hj)
 rcases hrow with hz'|⟨g,cur,fz,xs,hrow⟩
 . omega
 have hbox:w.heap[b]? = some (.cells vs.toArray tb (0,0)):=hh.objs _ (j_ hi)
 have hblk:iJ A c=some g:=by unfold iJ;rw[if_neg o_,hrow.adr];rfl
 have hne:b≠g:=by
  intro hbg
  subst hbg
  have hsep:=hh.sep
  have hil:=(l_.1 hi).1
  have hjl:=(l_.1 hj).1
  rw[List.pairwise_iff_getElem] at hsep
  have ei:=(l_.1 hi).2
  have ej:=(l_.1 hj).2
  rcases Nat.lt_or_gt_of_ne hij with hlt|hlt
  . have:=hsep i j hil hjl hlt
    rw[ei,ej] at this
    exact this b rfl hblk
  . have:=hsep j i hjl hil hlt
    rw[ei,ej] at this
    exact this b hblk rfl
 have hA2:=hA g hrow.adr
 subst hA2
 have hsa:w.shape? b=some (tb,vs.length):=by simp[World.shape?,hbox]
 have hsb:w.shape? g=some (e,cur.size):=by simp[World.shape?,hrow.heap]
 have hr:=run_callFunc_extern hf hname hb hn he #[.slice (some ⟨b,0,none⟩) la ca,.slice (some ⟨g,off,none⟩) ln cn] w
 rw[Lib.run_overlaps_apart w t tR e ht s hz ⟨b,0,none⟩ ⟨g,off,none⟩ la ca ln cn hne tb e vs.length cur.size hsa hsb (by rw[hrow.size];exact Nat.ne_of_gt (H_ hc0 hs0)) (by simp[World.frozen?,hbox]) (by simp[World.frozen?,hbox]),Result.andThen_ok] at hr
 obtain⟨d,op,ty,ps,af,gd⟩:=o
 subst ho
 have e1:evM M (.func f)=.func (.func f) #[] #[]:=rfl
 simp[execOp,resolve,e1,Deferred.ofValue,invoke,hx,hy,hr]
def jo (l:List α) (k:Nat) (x:α):List α:=l.take k++x::l.drop k
def jR (l:List α) (i j:Nat):List α:=l.take i++l.drop j
theorem kG {l:List α} {k:Nat} (x:α) (hk:k<=l.length):(jo l k x).length=l.length + 1:=by simp only[jo,f_,g_,List.length_cons,x_];omega
theorem lS (l:List α) (x:α):jo l l.length x=l++[x]:=by simp[jo]
theorem qx {l m:List α} {k:Nat} (h:l.length=k):(l++m).take k=l:=by subst h;simp
theorem p9 {l m:List α} {k:Nat} (h:l.length=k):(l++m).drop k=m:=by subst h;simp
theorem oY {l:List α} {k n:Nat} (x:α) (hk:k<l.length) (hn:0<n):over (l.take (k + 1)++l.drop k) k ([x].take n)=jo l k x:=by
 have hx:[x].take n=[x]:=I_ (show [x].length<=n from hn);rw[hx];unfold over jo;have h1:(l.take (k + 1)).length=k + 1:=by rw[g_];omega
 rw[show k + [x].length=k + 1 from rfl,p9 h1,List.take_append_of_le_length o_,List.take_take,t_ o_];simp
theorem oZ {l:List α} {k n n':Nat} (x z:α) (hk:k<l.length) (hn:0<n) (hn':l.length<=n' + k):over (over (l.take k++a_ (l.length + 1 - k) z) k ([x].take n)) (k + 1) ((l.drop k).take n')=jo l k x:=by
 have h1:(l.take k).length=k:=by rw[g_];omega
 have h2:over (l.take k++a_ (l.length + 1 - k) z) k ([x].take n)=(l.take k++[x])++a_ (l.length - k) z:=by have hx:[x].take n=[x]:=I_ (show [x].length<=n from hn);rw[hx];unfold over;rw[qx h1];congr 1;rw[show k + [x].length=k + 1 from rfl,<-List.drop_drop,p9 h1,Q_];congr 1;omega
 have hd:(l.drop k).take n'=l.drop k:=I_ (by rw[x_];omega);rw[h2,hd];unfold over jo;have h3:(l.take k++[x]).length=k + 1:=by rw[f_,h1];rfl
 rw[qx h3,<-List.drop_drop,p9 h3,Q_,x_,Nat.sub_self];simp
theorem rA {l:List α} {i j:Nat} {m:List α} (hij:i<j) (hj:j<=l.length):jR l i j <+: over (over l i (l.drop j)) (i + (l.drop j).length) m:=by
 have h1:(l.take i++l.drop j).length=i + (l.drop j).length:=by rw[f_,g_,t_ o_]
 unfold over jR;rw[qx h1,List.append_assoc];exact List.prefix_append _ _
theorem oA {l:List α} {i j:Nat} (hij:i<j) (hj:j<=l.length):(jR l i j).length=i + (l.drop j).length:=by unfold jR;rw[f_,g_,t_ o_]
theorem T.kj {φ:Act->World->Prop} (i:Nat) (hi:nth H i=some (jQ p e E A c l)) (q:l.length<=c->c<=maxLen->T N w0 V H M φ):T N w0 V H M φ:=λa w hf hh=>by have h:=hh.objs _ (by rw[i9] at hi;exact j_ hi);exact q h.1 h.2.1 a w hf hh
theorem oU {g lo s c:Nat} (h:A=some ⟨g,0,none⟩) (hlo:lo<c):iN A c lo s=some ⟨g,lo * s,none⟩:=by
 have:(⟨g,0,none⟩:Addr).add (lo * s)=⟨g,lo * s,none⟩:=by unfold Addr.add;split <;> simp_all
 unfold iN;rw[if_neg o_,h,G_,this]
end
def tz {α:Type} (bytes:Nat) (l:List α) (k:Int) (x:α):Option (List α):=if 0<=k/\k<=(l.length:Int)/\(l.length + 1) * bytes<=140737488355328/\l.length + 1<=maxLen then some (jo l k.toNat x) else none
theorem nL {α:Type} {bytes:Nat} {l r:List α} {k:Int} {x:α} (h:tz bytes l k x=some r):((k.toNat:Nat):Int)=k/\k.toNat<=l.length/\mY (l.length + 1) bytes=true/\l.length + 1<=maxLen/\jo l k.toNat x=r:=by
 unfold tz at h;split at h
 . rename_i hc;exact⟨by omega,by omega,decide_eq_true hc.2.2.1,hc.2.2.2,C_.inj h⟩
 . cases h
def t8 {α:Type} (l:List α) (i j:Int):Option (List α):=if 0<=i/\i<j/\j<=(l.length:Int) then some (jR l i.toNat j.toNat) else none
theorem oV {α:Type} {l r:List α} {i j:Int} (h:t8 l i j=some r):((i.toNat:Nat):Int)=i/\((j.toNat:Nat):Int)=j/\i.toNat<j.toNat/\j.toNat<=l.length/\jR l i.toNat j.toNat=r:=by
 unfold t8 at h;split at h
 . rename_i hc;exact⟨by omega,by omega,by omega,by omega,C_.inj h⟩
 . cases h
end
section
theorem obs {α:Type _} {β:Type _} (a:α) (f:α->Option β):(some a).bind f=f a:=rfl
theorem gge {α:Type _} {l:List α} {i:Nat} (h:i<l.length):l[i]? = some l[i]:=u_ h
theorem ggs {α:Type _} {l:List α} {i:Nat} {a:α}:l[i]? = some a↔∃h:i<l.length,l[i]=a:=l_
theorem w64 {n:Int} (h0:-9223372036854775808<=n) (h1:n<=9223372036854775807):IntKind.i64.wrap n=n:=by rw[IntKind.wrap_i64];omega
theorem vD {α:Type} (l:List α) (k:Nat):idx l (k:Int)=l[k]?:=by unfold idx;rw[if_neg o_,Int.toNat_natCast]
theorem vM {α:Type} {b:Nat} {l m:List α} (h:(l.length + m.length) * b<=140737488355328) (hm:l.length + m.length<=9223372036854775807):grow b l m=some (l++m):=by unfold grow;rw[if_pos ⟨h,by unfold maxLen;omega⟩]
theorem qG {α:Type} {l:List α} {lo hi:Int} (h0:0<=lo) (h1:lo<=hi) (h2:hi<=l.length):iT l lo hi=some ((l.take hi.toNat).drop lo.toNat):=by unfold iT;rw[if_pos ⟨h0,h1,h2⟩]
theorem vu {α:Type} {l:List α} {k:Nat} (h:k<=l.length):iT l 0 (k:Int)=some (l.take k):=by rw[qG o_ o_ o_];simp
theorem uT {α:Type} {l:List α} {k:Nat} (h:k<=l.length):iT l (k:Int) (l.length:Int)=some (l.drop k):=by rw[qG o_ o_ o_];simp
theorem vn {c:Int} (h:c≠0):(c !=0)=true:=by simpa using h
theorem vd {c:Int} (h:c=0):(c !=0)=false:=by simp[h]
section loops
variable {σ ρ α τ:Type} {F:Nat}
theorem sW {f:σ->Option (σ⊕ρ)} (g:Nat->σ) {r:ρ}:∀(n:Nat) (N:Nat),(∀k,k<n->f (g k)=some (.inl (g (k + 1))))->f (g n)=some (.inr r)->n<N->iter f N (g 0)=some r
 |0,N,_,he,hN=>by obtain⟨N,rfl⟩:∃M,N=M + 1:=⟨N - 1,by omega⟩;rw[iter,he]
 |n + 1,N,hs,he,hN=>by obtain⟨N,rfl⟩:∃M,N=M + 1:=⟨N - 1,by omega⟩;rw[iter,hs 0 o_];exact sW (λk=>g (k + 1)) n N (λk hk=>hs (k + 1) o_) he o_
theorem sv [h:Big F] {n:Nat} (hn:n<=9223372036854775807):n<F:=by have:=h.le;omega
theorem qi [Big F] {f:σ->Option (σ⊕ρ)} (g:Nat->σ) (n:Nat) {r:ρ} {s:σ} (h0:s=g 0) (hn:n<=9223372036854775807) (hs:∀k,k<n->f (g k)=some (.inl (g (k + 1)))) (he:f (g n)=some (.inr r)):iter f F s=some r:=by rw[h0];exact sW g n F hs he (sv hn)
theorem vE [Big F] {f:σ->Option (σ⊕ρ)} (g:Nat->σ) {r:ρ} (n:Nat) (hs:∀k,k<n->f (g k)=some (.inl (g (k + 1)))) (he:f (g n)=some (.inr r)) (hn:n<=9223372036854775807) {s:σ} (h0:s=g 0):iter f F s=some r :=
 qi g n h0 hn hs he
theorem vh [Big F] {f:σ->Option (σ⊕ρ)} {k:ρ->Option τ} {q:τ} (g:Nat->σ) {r:ρ} (n:Nat) {s:σ} (hn:n<=9223372036854775807) (h0:s=g 0) (hk:k r=some q) (hs:∀k,k<n->f (g k)=some (.inl (g (k + 1)))) (he:f (g n)=some (.inr r)) :
 (iter f F s).bind k=some q:=by
 rw[qi g n h0 hn hs he];exact hk
theorem tD [Big F] {f:Int->Option (Int⊕ρ)} (l:List α) (w:Nat->α->Option ρ) (res:ρ) (hn:l.length<=9223372036854775807) {s:Int} (h0:s=0)
 (hs:∀(k:Nat) (e:α),l[k]? = some e->(∀j x,j<k->l[j]? = some x->w j x=none)->f (k:Int)=some (match w k e with|some r=>.inr r|none=>.inl ((k:Int) + 1)))
 (he:f (l.length:Int)=some (.inr res)):iter f F s=some (((l.zipIdx).findSome? λp=>w p.2 p.1).getD res):=by
 subst h0
 have key:∀(m k N:Nat),k + m=l.length->m<N->(∀j x,j<k->l[j]? = some x->w j x=none)->iter f N (k:Int)=some ((((l.drop k).zipIdx k).findSome? λp=>w p.2 p.1).getD res):=by
  intro m
  induction m with
  |zero=>intro k N hk hN _;obtain⟨N,rfl⟩:∃M,N=M + 1:=⟨N - 1,by omega⟩;rw[iter,show k=l.length by omega,he,List.drop_length];rfl
  |succ m ih =>
   intro k N hk hN hb;obtain⟨N,rfl⟩:∃M,N=M + 1:=⟨N - 1,by omega⟩;have hkl:k<l.length:=o_;rw[iter,hs k l[k] (u_ hkl) hb,List.drop_eq_getElem_cons hkl,List.zipIdx_cons,J_];dsimp only
   cases hw:w k l[k] with
   |some r=>rfl
   |none =>
    refine ih (k + 1) N o_ o_ λj x hj hx=>?_;rcases Nat.lt_or_ge j k with h1|h1
    . exact hb j x h1 hx
    . obtain rfl:j=k:=o_;rw[u_ hkl] at hx;obtain rfl:=C_.inj hx;exact hw
 have:=key l.length 0 F o_ (sv hn) (λj x hj=>by omega);rw[List.drop_zero] at this;exact this
theorem vj [Big F] {f:Int->Option (Int⊕ρ)} (l:List α) (w:α->Option ρ) (res:ρ) (hn:l.length<=9223372036854775807) {s:Int} (h0:s=0)
 (hs:∀(k:Nat) (e:α),l[k]? = some e->f (k:Int)=some (match w e with|some r=>.inr r|none=>.inl ((k:Int) + 1)))
 (he:f (l.length:Int)=some (.inr res)):iter f F s=some ((l.findSome? w).getD res):=by
 rw[tD l (λ_ e=>w e) res hn h0 (λk e hk _=>hs k e hk) he];congr 2
 have:∀(l:List α) (n:Nat),(l.zipIdx n).findSome? (λp=>w p.1)=l.findSome? w:=by
  intro l
  induction l with
  |nil=>intro n;rfl
  |cons a l ih=>intro n;rw[List.zipIdx_cons,J_,J_,ih]
 exact this l 0
theorem vo {l:List α} {w:Nat->α->Option ρ}:(l.zipIdx.findSome? λp=>w p.2 p.1)=none↔∀k e,l[k]? = some e->w k e=none:=by
 rw[List.findSome?_eq_none_iff];constructor
 . intro h k e hk;exact h (e,k) (by rw[K_];exact hk)
 . rintro h ⟨e,k⟩ hp;rw[K_] at hp;exact h k e hp
theorem vp {l:List α} {w:Nat->α->Option ρ} {r:ρ} (h:(l.zipIdx.findSome? λp=>w p.2 p.1)=some r):∃k e,l[k]? = some e/\w k e=some r:=by obtain⟨⟨e,k⟩,hp,hr⟩:=List.exists_of_findSome?_eq_some h;rw[K_] at hp;exact⟨k,e,hp,hr⟩
theorem vq [Big F] {f:τ×Int->Option ((τ×Int)⊕ρ)} (l:List α) (st:τ->α->τ) (a0:τ) {r:ρ} (hn:l.length<=9223372036854775807) {s:τ×Int} (h0:s=(a0,0))
 (hs:∀(k:Nat) (e:α),l[k]? = some e->f ((l.take k).foldl st a0,(k:Int))=some (.inl (st ((l.take k).foldl st a0) e,(k:Int) + 1)))
 (he:f (l.foldl st a0,(l.length:Int))=some (.inr r)):iter f F s=some r:=by
 refine qi (λk=>((l.take k).foldl st a0,(k:Int))) l.length (by rw[h0];rfl) hn (λk hk=>?_) (by rw[List.take_length];exact he);rw[hs k l[k] (u_ hk),List.take_add_one,u_ hk,Option.toList_some,List.foldl_append];simp
theorem vG [Big F] {f:σ->Option (σ⊕ρ)} {K:ρ->Option τ} (R:Nat->σ->τ->Prop)
 (hR:∀m s q,R m s q->(∃r,f s=some (.inr r)/\K r=some q)\/∃m' s',m'<m/\f s=some (.inl s')/\R m' s' q) {m:Nat} {s:σ} {q:τ} (hm:m<=9223372036854775807) (h:R m s q):(iter f F s).bind K=some q:=by
 have key:∀(n N m:Nat) (s:σ),m<=n->n<N->R m s q->(iter f N s).bind K=some q:=by
  intro n
  induction n with
  |zero =>
   intro N m s hmn hN hs;obtain⟨N,rfl⟩:∃M,N=M + 1:=⟨N - 1,by omega⟩;rcases hR m s q hs with ⟨r,h1,h2⟩|⟨m',s',h1,h2,h3⟩
   . rw[iter,h1];exact h2
   . omega
  |succ n ih =>
   intro N m s hmn hN hs;obtain⟨N,rfl⟩:∃M,N=M + 1:=⟨N - 1,by omega⟩;rcases hR m s q hs with ⟨r,h1,h2⟩|⟨m',s',h1,h2,h3⟩
   . rw[iter,h1];exact h2
   . rw[iter,h2];exact ih N m' s' o_ o_ h3
 exact key m F m s (Nat.le_refl _) (sv hm) h
theorem vf {β:Type} (g:α->β) (l:List α):∀a:List β,l.foldl (λa e=>a++[g e]) a=a++l.map g:=by
 induction l with
 |nil=>intro a;simp
 |cons x l ih=>intro a;rw[List.foldl_cons,ih];simp
def uS (p:Nat->Bool):Nat->Nat
 |0=>0
 |n + 1=>if p (uS p n) then uS p n else if p n then n else n + 1
end loops
end
end Go.Proofs.YtnofgfobljadbaaGreat
