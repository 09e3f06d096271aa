/- What is written into a row of the call's own beyond its end, and onto a beginning of it: what slices.Insert and slices.Delete do. Its conditions: none. -/
import Derived.Lib.AppendZerosOnto
import Derived.Lib.Overlaps
import Derived.Test.YtnofgfobljadbaaGreatPackLW
open List renaming length_append→a_, length_take→d_, replicate→i_, mem_of_getElem?→l_, length_drop→p_, size_toArray→t_, getElem?_eq_some_iff→u_, map_toArray→v_, map_cons→x_, map_nil→y_, toList_toArray→B_, getElem?_take→C_, take_of_length_le→E_, getElem?_eq_getElem→F_, drop_replicate→H_
open Nat renaming mul_le_mul_right→f_, add_mul→g_, min_eq_left→j_, mul_pos→D_
open Array renaming length_toList→q_, toList_append→G_
open Option renaming some→z_
namespace Go.Proofs.YtnofgfobljadbaaGreat
set_option linter.unusedSimpArgs false
set_option linter.unusedVariables false
section
open Go.RowKit
section
variable {P:Program} {Q:Exit->Act->World->Prop} {M:List (Nat×Value)} {ops:Array Oper} {o:Oper} {N:Sz} {w0 w:World} {V:View} {H:List HObj} {K:Act->World->Prop}
variable {α:Type} {E:Enc α} {p:Bool} {t e:TypeId} {A:Option Addr} {c:Nat} {l:List α}
theorem ir {x:Operand} {lx hx:Option Operand} {n s:Nat} {lo hi:Int} {k k':IntKind} (ho:o.op=.slice t x lx hx none)
 (hxv:evM M x=.slice A n c) (ht:P.underlying t=some (.slice e)) (hs:(sizeOf e).run P w=.ok s w)
 (hlo:match lx with|some y=>evM M y=.int k lo|none=>lo=0) (hhi:match hx with|some y=>evM M y=.int k' hi|none=>hi=n) (h0:0<=lo) (h1:lo<=hi) (h2:hi<=c) :
 (execOp (evM M) o).run P w=.ok (.value (.slice (jc A c lo.toNat s) (hi.toNat - lo.toNat) (c - lo.toNat))) w:=by
 have e1:=@jK P w k' hi c .sliceAcap o_ o_;have e2:=@jK P w k lo hi.toNat .sliceB h0 o_
 cases lx with
 |none =>
  dsimp only at hlo;subst hlo
  cases hx with
  |none=>dsimp only at hhi;subst hhi;simp[execOp,ho,hxv,Instr.sliceAt,run_underlying ht,Instr.slice,Instr.sliceBounds,hs,jc]
  |some y=>dsimp only at hhi;simp[execOp,ho,hxv,hhi,Instr.sliceAt,run_underlying ht,Instr.slice,Instr.sliceBounds,hs,jc,e1]
 |some z =>
  dsimp only at hlo
  cases hx with
  |none=>dsimp only at hhi;subst hhi;rw[show ((n:Int)).toNat=n from Int.toNat_natCast _] at e2;simp[execOp,ho,hxv,hlo,Instr.sliceAt,run_underlying ht,Instr.slice,Instr.sliceBounds,hs,jc,e2]
  |some y=>dsimp only at hhi;simp[execOp,ho,hxv,hlo,hhi,Instr.sliceAt,run_underlying ht,Instr.slice,Instr.sliceBounds,hs,jc,e1,e2]
theorem pV {x lx hx mx:Operand} {n s:Nat} {lo hi mi:Int} {k k' k'':IntKind} (ho:o.op=.slice t x (some lx) (some hx) (some mx))
 (hxv:evM M x=.slice A n c) (ht:P.underlying t=some (.slice e)) (hs:(sizeOf e).run P w=.ok s w)
 (hlo:evM M lx=.int k lo) (hhi:evM M hx=.int k' hi) (hmi:evM M mx=.int k'' mi) (h0:0<=lo) (h1:lo<=hi) (h2:hi<=mi) (h3:mi<=c) :
 ∃v,(execOp (evM M) o).run P w=.ok (.value v) w:=by
 have e0:=@jK P w k'' mi c .slice3Acap o_ o_;have e1:=@jK P w k' hi mi.toNat .slice3B o_ o_;have e2:=@jK P w k lo hi.toNat .slice3C h0 o_;simp[execOp,ho,hxv,hlo,hhi,hmi,Instr.sliceAt,run_underlying ht,Instr.slice,Instr.sliceBounds,hs,e0,e1,e2]
theorem W1.qq (hc:okO N ops M o=true) (hv:∀w,Hp w0 V H w->∃v,(execOp (evM M) o).run P w=.ok (.value v) w) (h:∀v,T N w0 V H (ju o.dst v M) K):W1 P Q ops o N w0 V H M K:=λa w hf hh=>by obtain⟨h1,_,_,h4⟩:=jk hc;refine⟨jb hf h1,?_⟩;obtain⟨v,hrun⟩:=hv w hh;unfold Oper.wp;rw[jG hc hf,hrun];exact h v _ _ (hf.put h4 v) hh
theorem sX {g:Nat} {cur:Array Value} {fz:Nat×Nat} {xs ys:List Value} {m:List α} {lo:Nat} (hrow:RowAt p e E A c l V w g cur fz xs) (hcm:c<=maxLen) (hy:iH V E ys m) (hlo:lo<=l.length) (hlc:l.length<=c) (hfit:lo + m.length<=c) (hlong:l.length<=lo + m.length) :
 (kJ p e E A c (l.take lo++m)).ok V (w.setRow g (cur.toList.take (lo * E.size)++ys++cur.toList.drop (lo * E.size + ys.length)).toArray):=by
 have hyl:ys.length=m.length * E.size:=hy.1;have hls:=f_ E.size hlo;have hcs:=f_ E.size hlc;have hfs:lo * E.size + m.length * E.size<=c * E.size:=by rw[<-g_];exact f_ _ hfit
 have hlen:(cur.toList.take (lo * E.size)++ys++cur.toList.drop (lo * E.size + ys.length)).length=cur.size:=by simp only[a_,d_ (l:=cur.toList),p_,q_];rw[hrow.size];omega
 have hl2:(l.take lo++m).length=lo + m.length:=by rw[a_,d_,j_ hlo]
 have hT:=(hrow.rep.takeN lo).append hy;refine⟨by rw[hl2];exact hfit,hcm,.inr ⟨g,_,fz,_,⟨hrow.adr,setRow_heap w g cur _ e _ hrow.heap,hrow.plain,?_,?_,rfl,?_⟩⟩⟩
 . rw[t_,hlen];exact hrow.unfrz
 . rw[t_,hlen];exact hrow.size
 . refine(congrArg (λq=>iH V E q (l.take lo++m)) ?_).mp hT;have htk:xs.take (lo * E.size)=cur.toList.take (lo * E.size):=by rw[<-hrow.take,List.take_take,j_ hls]
   rw[htk,hl2,B_,g_,<-hyl];have hln:(cur.toList.take (lo * E.size)++ys).length=lo * E.size + ys.length:=(by have hct:cur.toList.length=cur.size:=q_;rw[a_,d_,j_ (by rw[hct,hrow.size];omega)]);rw[List.take_left' hln]
theorem ux {g:Nat} {cur:Array Value} {fz:Nat×Nat} {xs ys:List Value} {m:List α} {lo:Nat} (hrow:RowAt p e E A c l V w g cur fz xs) (hcm:c<=maxLen) (hlc:l.length<=c) (hy:iH V E ys m) (hfit:lo + m.length<=l.length) :
 (kJ p e E A c (over l lo m)).ok V (w.setRow g (cur.toList.take (lo * E.size)++ys++cur.toList.drop (lo * E.size + ys.length)).toArray):=by
 have hyl:ys.length=m.length * E.size:=hy.1;have hcs:=f_ E.size hlc;have hfs:lo * E.size + ys.length<=l.length * E.size:=by rw[hyl,<-g_];exact f_ _ hfit
 have hlen:(cur.toList.take (lo * E.size)++ys++cur.toList.drop (lo * E.size + ys.length)).length=cur.size:=by simp only[a_,d_ (l:=cur.toList),p_,q_];rw[hrow.size];omega
 have hol:(over l lo m).length=l.length:=kz _ _ _ hfit;refine⟨by rw[hol];exact hlc,hcm,.inr ⟨g,_,fz,_,⟨hrow.adr,setRow_heap w g cur _ e _ hrow.heap,hrow.plain,?_,?_,rfl,?_⟩⟩⟩
 . rw[t_,hlen];exact hrow.unfrz
 . rw[t_,hlen];exact hrow.size
 . have hset:=hrow.rep.over hy lo;refine(congrArg (λq=>iH V E q _) ?_).mp hset;have hxl:xs.length=l.length * E.size:=hrow.rep.1;rw[hol];apply List.ext_getElem?;intro j;have hct:cur.toList.length=cur.size:=q_;have hfit2:lo * E.size + ys.length<=cur.toList.length:=by rw[hct,hrow.size];omega
   rw[kv xs ys (lo * E.size) j (by rw[hxl];omega),C_];simp only[B_];rw[kv cur.toList ys (lo * E.size) j hfit2,<-hrow.take,C_];by_cases hj:j<l.length * E.size
   . rw[if_pos hj,if_pos hj]
   . rw[if_neg hj,if_neg hj,if_neg o_]
theorem W1.pE (i lo dn sn:Nat) {m:List α} {A2:Option Addr} {c2 dc:Nat} {t':TypeId} (d x:Operand) (hi:nth H i=some (kJ p e E A c l))
 (hc:okO N ops M o=true) (ho:o.op=.call { callee:=.builtin .copy,args:=#[d,x],argTypes:=#[t,t'] })
 (ht:P.underlying t=some (.slice e)) (hsz:∀w,(sizeOf e).run P w=.ok E.size w) (hs0:0<E.size)
 (hd:evM M d=.slice (jc A c lo E.size) dn dc) (hx:evM M x=.slice A2 sn c2) (hmin:min sn dn=m.length) (h0:0<m.length) (hlo:lo<=l.length) (hfit:lo + m.length<=c) (hlong:l.length<=lo + m.length)
 (hsrc:∀w,Hp w0 V H w->∃news,iH V E news m/\nF (vw w) A2 news)
 (h:T N w0 V (H.set i (kJ p e E A c (l.take lo++m))) (ju o.dst (.int .i64 (m.length:Int)) M) K):W1 P Q ops o N w0 V H M K:=λa w hf hh=>by
 obtain⟨g1,_,_,h4⟩:=jk hc;rw[jJ] at hi;refine⟨jb hf g1,?_⟩;obtain⟨hlc,hcm,hrow⟩:=hh.objs _ (l_ hi);obtain⟨news,hnr,hnl⟩:=hsrc w hh;have hc0:c≠0:=o_;rcases hrow with hz|⟨g,cur,fz,xs,hrow⟩
 . exact absurd hz hc0
 obtain⟨ad,rfl⟩:∃ad,A2=some ad:=by
  have hp:0<news.length:=by rw[hnr.1];exact D_ h0 hs0
  obtain⟨ad,h2,_⟩:=hnl 0 _ (F_ hp);exact⟨ad,h2⟩
 have hload:=run_loadCells_list (P:=P) w ad news (λj u hu=>by
  obtain⟨a',ha,hcell⟩:=hnl j u hu
  injection ha with ha;subst ha;exact hcell)
 rw[hnr.1] at hload
 have hcut:jc A c lo E.size=some ⟨g,lo * E.size,none⟩\/lo=0/\jc A c lo E.size=some ⟨g,lo * E.size,none⟩:=by
  have:(⟨g,0,none⟩:Addr).add (lo * E.size)=⟨g,lo * E.size,none⟩:=by unfold Addr.add;split <;> simp_all
  left;unfold jc;rw[if_neg o_,hrow.adr,Option.map_some,this]
 have hcut:jc A c lo E.size=some ⟨g,lo * E.size,none⟩:=by rcases hcut with h|h;exact h;exact h.2
 have hfs:lo * E.size + m.length * E.size<=c * E.size:=by rw[<-g_];exact f_ _ hfit
 have hst:=kA (P:=P) g (lo * E.size) e fz news 0 cur w hrow.heap hrow.unfrz (by rw[hrow.size,hnr.1];omega) (λu hu=>hnr.one u hu);simp only[Nat.add_zero] at hst;have hr:(Builtin.copy_ #[t,t'] o.type #[.slice (jc A c lo E.size) dn dc,.slice (some ad) sn c2]).run P w=.ok (.int .i64 (m.length:Int)) (w.setRow g (cur.toList.take (lo * E.size)++news++cur.toList.drop (lo * E.size + news.length)).toArray):=by rw[hcut];have hmin':Nat.min sn dn=m.length:=hmin;generalize m.length=kk at hmin hmin' hload;simp only[Builtin.copy_,Sem.run_bind,Sem.run_pure,Result.andThen_ok,run_underlying ht,Builtin.lenOf,Builtin.firstCells,hsz,hmin,hload,hst,goInt,List.getElem?_toArray,List.getElem?_cons_zero,List.getElem?_cons_succ]
 unfold Oper.wp;rw[jG hc hf];have hrun:(execOp (evM M) o).run P w=.ok (.value (.int .i64 (m.length:Int))) (w.setRow g (cur.toList.take (lo * E.size)++news++cur.toList.drop (lo * E.size + news.length)).toArray):=by simp only[execOp,ho,resolve,invoke,builtin,Sem.run_bind,Sem.run_pure,Result.andThen_ok,v_,x_,y_,hd,hx,hr]
 rw[hrun];have hblk:jd A c=some g:=by unfold jd;rw[if_neg hc0,hrow.adr];rfl
 exact h _ _ (hf.put h4 _) (hh.turn (o:=some g) hi ⟨rfl,rfl,rfl,by simp,λb _ hb=>setRow_other w g b _ (λe=>hb (by rw[e]))⟩ (sX hrow hcm hnr hlo hlc hfit hlong) (λb hb=>.inl hb) (λb hb=>by rw[<-z_.inj hb];exact hblk))
theorem W1.pS (i k:Nat) {m:List α} {A2:Option Addr} {c2:Nat} (s x:Operand) (ti:TypeInfo) (hi:nth H i=some (row e E A c l)) (hk:k + m.length<=l.length)
 (hc:okO N ops M o=true) (ho:o.op=.call { callee:=.builtin .append,args:=#[s,x],argTypes:=#[t,t] })
 (ht:P.underlying t=some (.slice e)) (hti:P.info? e=some ti) (hsize:ti.size=E.size) (hs0:0<E.size)
 (hs:evM M s=.slice A k c) (hx:evM M x=.slice A2 m.length c2) (hsrc:∀w,Hp w0 V H w->∃news,iH V E news m/\nF (vw w) A2 news)
 (h:T N w0 V (H.set i (row e E A c (over l k m))) (ju o.dst (.slice A (k + m.length) c) M) K):W1 P Q ops o N w0 V H M K:=λa w hf hh=>by
 obtain⟨g1,_,_,h4⟩:=jk hc;rw[jJ] at hi;refine⟨jb hf g1,?_⟩;obtain⟨hlc,hcm,hrow⟩:=hh.objs _ (l_ hi);obtain⟨news,hnr,hnl⟩:=hsrc w hh;unfold Oper.wp;rw[jG hc hf];rcases Nat.eq_zero_or_pos m.length with hm0|hm0
 . have hm:m=[]:=List.eq_nil_of_length_eq_zero hm0;subst hm;have hr:=nh (P:=P) w t o.type e ti ht hti A A2 k c (by simp at hk;omega) c2;have hrun:(execOp (evM M) o).run P w=.ok (.value (.slice A k c)) w:=by simp only[execOp,ho,resolve,invoke,builtin,Sem.run_bind,Sem.run_pure,Result.andThen_ok,v_,x_,y_,hs,hx,List.length_nil,hr]
   rw[hrun];have hov:over l k ([]:List α)=l:=(by simp[over]);rw[hov] at h
   have hsame:H.set i (row e E A c l)=H:=List.ext_getElem? λj=>by
    rw[List.getElem?_set];split
    . rename_i ej;subst ej;rw[if_pos (u_.1 hi).1,hi]
    . rfl
   rw[hsame] at h;exact h _ _ (hf.put h4 _) hh
 have hc0:c≠0:=o_;rcases hrow with hz|⟨g,cur,fz,xs,hrow⟩
 . exact absurd hz hc0
 obtain⟨ad,rfl⟩:∃ad,A2=some ad:=by
  have hp:0<news.length:=by rw[hnr.1];exact D_ hm0 hs0
  obtain⟨ad,h2,_⟩:=hnl 0 _ (F_ hp);exact⟨ad,h2⟩
 obtain rfl:fz=(0,0):=hrow.plain rfl;have hfs:k * E.size + m.length * E.size<=l.length * E.size:=by rw[<-g_];exact f_ _ hk
 have hcs:=f_ E.size hlc
 have hr:=run_append_room (P:=P) w t o.type e ti ht hti g k c cur hrow.heap ad m.length c2 news (by rw[hsize];exact hnr.1) (λj u hu=>by
  obtain⟨a',ha,hcell⟩:=hnl j u hu
  injection ha with ha;subst ha;exact hcell) (λu hu=>hnr.one u hu) o_ (by rw[hsize,hnr.1,hrow.size];omega)
 rw[hsize] at hr;have hrun:(execOp (evM M) o).run P w=.ok (.value (.slice A (k + m.length) c)) (w.setRow g (cur.toList.take (k * E.size)++news++cur.toList.drop (k * E.size + news.length)).toArray):=by simp only[execOp,ho,resolve,invoke,builtin,Sem.run_bind,Sem.run_pure,Result.andThen_ok,v_,x_,y_,hs,hx,hrow.adr,hr]
 rw[hrun];have hblk:jd A c=some g:=by unfold jd;rw[if_neg hc0,hrow.adr];rfl
 exact h _ _ (hf.put h4 _) (hh.turn (o:=some g) hi ⟨rfl,rfl,rfl,by simp,λb _ hb=>setRow_other w g b _ (λe=>hb (by rw[e]))⟩ (ux hrow hcm hlc hnr hk) (λb hb=>.inl hb) (λb hb=>by rw[<-z_.inj hb];exact hblk))
theorem W1.oK (i k n:Nat) {x:α} {z:Value} {tn:TypeId} {kq kn:IntKind} (s y:Operand) (bytes:Nat) (ti:TypeInfo) (hi:nth H i=some (kJ p e E A c l)) (hk:k<=l.length) (hcp:0<c) (h0:0<n) (hg:c<k + n)
 (hc:okO N ops M o=true) (ho:o.op=.call { callee:=.builtin .append,args:=#[s,y],argTypes:=#[t,tn] })
 (ht:P.underlying t=some (.slice e)) (htn:P.underlying tn=some (.int kn)) (hti:P.info? e=some ti) (hz:ti.zero=some z) (hsize:ti.size=E.size) (hby:ti.bytes=bytes) (hrep:∀V,E.rep V z.cells.toList x) (hzs:z.cells.size=E.size) (hs0:0<E.size)
 (hs:evM M s=.slice A k c) (hy:evM M y=.int kq (n:Int)) (hroom:oX (k + n) bytes=true) (hmax:k + n<=maxLen)
 (h:∀A' c',T N w0 V (row e E A' c' (l.take k++i_ n x)::H) (ju o.dst (.slice A' (l.take k++i_ n x).length c') M) K):W1 P Q ops o N w0 V H M K:=λa w hf hh=>by
 obtain⟨g1,_,_,h4⟩:=jk hc;rw[jJ] at hi;refine⟨jb hf g1,?_⟩;obtain⟨hlc,hcm,hrow⟩:=hh.objs _ (l_ hi);rcases hrow with hz'|⟨g,cur,fz,xs,hrow⟩
 . omega
 have hbytes:(k + n) * bytes<=140737488355328:=of_decide_eq_true hroom;have hnb:n * bytes<=(k + n) * bytes:=f_ _ o_;have hT:=hrow.rep.takeN k;have hkl:(l.take k).length=k:=by rw[d_,j_ hk]
 have hold:(Builtin.firstCells ti.size k (.slice A k c)).run P w.drew=.ok (xs.take (k * E.size)).toArray w.drew:=by
  rw[hrow.adr,hsize];refine run_firstCells_some (P:=P) w.drew E.size k ⟨g,0,none⟩ k c _ (by rw[hT.1,hkl]) (λj v hj=>?_);rw[C_] at hj;split at hj
  . obtain⟨a',ha,hcell⟩:=hrow.cells j v hj;rw[hrow.adr] at ha;injection ha with ha;subst ha;exact hcell
  . cases hj
 have hr:=Lib.run_append_grow_zeros (P:=P) w t tn o.type e ti z kq kn ht htn hti hz A k c _ hold n h0 (by rw[hsize];exact hs0) hg (by unfold maxLen at hmax;omega) (by rw[hby];omega) (by rw[hby];exact growslice_fits hg hbytes);have hge:=grownCap_ge w (k + n) c e;have hcm':=grownCap_le_maxLen w (k + n) c e hmax;have hlen:(l.take k++i_ n x).length=k + n:=by rw[a_,hkl,List.length_replicate]
 unfold Oper.wp;rw[jG hc hf];have hrun:(execOp (evM M) o).run P w=.ok (.value (.slice (some ⟨w.heap.size,0,none⟩) (l.take k++i_ n x).length (grownCap w (k + n) c e))) (w.drew.alloc (.cells ((xs.take (k * E.size)).toArray++Builtin.zeroCells z.cells n++Builtin.zeroCells z.cells (grownCap w (k + n) c e - (k + n))) e)):=by simp only[execOp,ho,resolve,invoke,builtin,Sem.run_bind,Sem.run_pure,Result.andThen_ok,v_,x_,y_,hs,hy,hr,hlen]
 rw[hrun];have hzn:∀m,(Builtin.zeroCells z.cells m).size=m * E.size:=λm=>by simp[Builtin.zeroCells,hzs]
 have hxt:(xs.take (k * E.size)).length=k * E.size:=by rw[hT.1,hkl]
 refine h _ _ _ _ (hf.put h4 _) (hh.fresh_obj _ (sR _) ?_ (λb hb=>?_))
 . refine⟨by rw[hlen];exact hge,hcm',.inr ⟨w.heap.size,_,(0,0),xs.take (k * E.size)++(Builtin.zeroCells z.cells n).toList,⟨rfl,(by show (w.heap.push _)[w.heap.size]? = _;rw[Array.getElem?_push,if_pos rfl]),λ_=>rfl,λi _ hj=>(by have:=hj.2;simp at this),?_,?_,hT.append (sw hrep hzs n)⟩⟩⟩
   . rw[Array.size_append,Array.size_append,hzn,hzn,t_,hxt,<-g_,<-g_];congr 1;omega
   . rw[hlen,G_,G_,B_,List.take_left'];have hz1:(Builtin.zeroCells z.cells n).toList.length=n * E.size:=(by rw[q_,hzn]);rw[a_,hz1,hxt,g_]
 . have hb':jd (some ⟨w.heap.size,0,none⟩) (grownCap w (k + n) c e)=some b:=hb;unfold jd at hb';split at hb'
   . cases hb'
   . injection hb' with hb';exact Nat.le_of_eq hb'
theorem mY {f:FuncId} {fn:Func} {x y:Operand} {ts:Array TypeId} {tR tb:TypeId} {s:Nat} {b i j la ca ln cn off:Nat} {vs:List Value} {A':Option Addr} (ho:o.op=.call { callee:=.value (.func f),args:=#[x,y],argTypes:=ts })
 (hx:evM M x=.slice (some ⟨b,0,none⟩) la ca) (hy:evM M y=.slice A' ln cn)
 (hf:P.funcs[f]? = some fn) (hname:(fn.name== "runtime.NumGoroutine")=false) (hb:fn.body.isNone=true) (hn:Extern.findNext fn=none) (he:Extern.find fn=some (Extern.SlicesOverlaps.overlaps #[t,t] #[tR]))
 (ht:P.underlying t=some (.slice e)) (hz:∀w,(Go.sizeOf e).run P w=.ok s w)
 (hh:Hp w0 V H w) (hi:nth H i=some (box b tb vs)) (hj:nth H j=some (kJ p e E A c l)) (hij:i≠j) (hA:∀g,A=some ⟨g,0,none⟩->A'=some ⟨g,off,none⟩) (hc0:0<c) (hs0:0<E.size) :
 (execOp (evM M) o).run P w=.ok (.value (.bool false)) w:=by
 rw[jJ] at hi hj
 obtain⟨hlc,hcm,hrow⟩:=hh.objs _ (l_ hj)
 rcases hrow with hz'|⟨g,cur,fz,xs,hrow⟩
 . omega
 have hbox:w.heap[b]? = some (.cells vs.toArray tb (0,0)):=hh.objs _ (l_ hi)
 have hblk:jd A c=some g:=by unfold jd;rw[if_neg o_,hrow.adr];rfl
 have hne:b≠g:=by
  intro hbg
  subst hbg
  have hsep:=hh.sep
  have hil:=(u_.1 hi).1
  have hjl:=(u_.1 hj).1
  rw[List.pairwise_iff_getElem] at hsep
  have ei:=(u_.1 hi).2
  have ej:=(u_.1 hj).2
  rcases Nat.lt_or_gt_of_ne hij with hlt|hlt
  . have:=hsep i j hil hjl hlt
    rw[ei,ej] at this
    exact this b rfl hblk
  . have:=hsep j i hjl hil hlt
    rw[ei,ej] at this
    exact this b hblk rfl
 have hA2:=hA g hrow.adr
 subst hA2
 have hsa:w.shape? b=some (tb,vs.length):=by simp[World.shape?,hbox]
 have hsb:w.shape? g=some (e,cur.size):=by simp[World.shape?,hrow.heap]
 have hr:=run_callFunc_extern hf hname hb hn he #[.slice (some ⟨b,0,none⟩) la ca,.slice (some ⟨g,off,none⟩) ln cn] w
 rw[Lib.run_overlaps_apart w t tR e ht s hz ⟨b,0,none⟩ ⟨g,off,none⟩ la ca ln cn hne tb e vs.length cur.size hsa hsb (by rw[hrow.size];exact Nat.ne_of_gt (D_ hc0 hs0)) (by simp[World.frozen?,hbox]) (by simp[World.frozen?,hbox]),Result.andThen_ok] at hr
 obtain⟨d,op,ty,ps,af,gd⟩:=o
 subst ho
 have e1:evM M (.func f)=.func (.func f) #[] #[]:=rfl
 simp[execOp,resolve,e1,Deferred.ofValue,invoke,hx,hy,hr]
def jP (l:List α) (k:Nat) (x:α):List α:=l.take k++x::l.drop k
def kx (l:List α) (i j:Nat):List α:=l.take i++l.drop j
theorem lh {l:List α} {k:Nat} (x:α) (hk:k<=l.length):(jP l k x).length=l.length + 1:=by simp only[jP,a_,d_,List.length_cons,p_];omega
theorem mv (l:List α) (x:α):jP l l.length x=l++[x]:=by simp[jP]
theorem qR {l m:List α} {k:Nat} (h:l.length=k):(l++m).take k=l:=by subst h;simp
theorem qz {l m:List α} {k:Nat} (h:l.length=k):(l++m).drop k=m:=by subst h;simp
theorem pJ {l:List α} {k n:Nat} (x:α) (hk:k<l.length) (hn:0<n):over (l.take (k + 1)++l.drop k) k ([x].take n)=jP l k x:=by
 have hx:[x].take n=[x]:=E_ (show [x].length<=n from hn);rw[hx];unfold over jP;have h1:(l.take (k + 1)).length=k + 1:=by rw[d_];omega
 rw[show k + [x].length=k + 1 from rfl,qz h1,List.take_append_of_le_length o_,List.take_take,j_ o_];simp
theorem pK {l:List α} {k n n':Nat} (x z:α) (hk:k<l.length) (hn:0<n) (hn':l.length<=n' + k):over (over (l.take k++i_ (l.length + 1 - k) z) k ([x].take n)) (k + 1) ((l.drop k).take n')=jP l k x:=by
 have h1:(l.take k).length=k:=by rw[d_];omega
 have h2:over (l.take k++i_ (l.length + 1 - k) z) k ([x].take n)=(l.take k++[x])++i_ (l.length - k) z:=by have hx:[x].take n=[x]:=E_ (show [x].length<=n from hn);rw[hx];unfold over;rw[qR h1];congr 1;rw[show k + [x].length=k + 1 from rfl,<-List.drop_drop,qz h1,H_];congr 1;omega
 have hd:(l.drop k).take n'=l.drop k:=E_ (by rw[p_];omega);rw[h2,hd];unfold over jP;have h3:(l.take k++[x]).length=k + 1:=by rw[a_,h1];rfl
 rw[qR h3,<-List.drop_drop,qz h3,H_,p_,Nat.sub_self];simp
theorem si {l:List α} {i j:Nat} {m:List α} (hij:i<j) (hj:j<=l.length):kx l i j <+: over (over l i (l.drop j)) (i + (l.drop j).length) m:=by
 have h1:(l.take i++l.drop j).length=i + (l.drop j).length:=by rw[a_,d_,j_ o_]
 unfold over kx;rw[qR h1,List.append_assoc];exact List.prefix_append _ _
theorem pl {l:List α} {i j:Nat} (hij:i<j) (hj:j<=l.length):(kx l i j).length=i + (l.drop j).length:=by unfold kx;rw[a_,d_,j_ o_]
theorem T.l8 {φ:Act->World->Prop} (i:Nat) (hi:nth H i=some (kJ p e E A c l)) (q:l.length<=c->c<=maxLen->T N w0 V H M φ):T N w0 V H M φ:=λa w hf hh=>by have h:=hh.objs _ (by rw[jJ] at hi;exact l_ hi);exact q h.1 h.2.1 a w hf hh
theorem pF {g lo s c:Nat} (h:A=some ⟨g,0,none⟩) (hlo:lo<c):jc A c lo s=some ⟨g,lo * s,none⟩:=by
 have:(⟨g,0,none⟩:Addr).add (lo * s)=⟨g,lo * s,none⟩:=by unfold Addr.add;split <;> simp_all
 unfold jc;rw[if_neg o_,h,Option.map_some,this]
end
def tN {α:Type} (bytes:Nat) (l:List α) (k:Int) (x:α):Option (List α):=if 0<=k/\k<=(l.length:Int)/\(l.length + 1) * bytes<=140737488355328/\l.length + 1<=maxLen then some (jP l k.toNat x) else none
theorem oy {α:Type} {bytes:Nat} {l r:List α} {k:Int} {x:α} (h:tN bytes l k x=some r):((k.toNat:Nat):Int)=k/\k.toNat<=l.length/\oX (l.length + 1) bytes=true/\l.length + 1<=maxLen/\jP l k.toNat x=r:=by
 unfold tN at h;split at h
 . rename_i hc;exact⟨by omega,by omega,decide_eq_true hc.2.2.1,hc.2.2.2,z_.inj h⟩
 . cases h
def uo {α:Type} (l:List α) (i j:Int):Option (List α):=if 0<=i/\i<j/\j<=(l.length:Int) then some (kx l i.toNat j.toNat) else none
theorem pG {α:Type} {l r:List α} {i j:Int} (h:uo l i j=some r):((i.toNat:Nat):Int)=i/\((j.toNat:Nat):Int)=j/\i.toNat<j.toNat/\j.toNat<=l.length/\kx l i.toNat j.toNat=r:=by
 unfold uo at h;split at h
 . rename_i hc;exact⟨by omega,by omega,by omega,by omega,z_.inj h⟩
 . cases h
end
def j7 (F:Nat) (p902:Int) (p907:List (Int⊕DNode)) (p909:Int) (p910:DElem):Option ((List (Int⊕DNode))):=(qc (σ:=(List (Int⊕DNode))×Int) (ρ:=(List (Int⊕DNode))) (λrf1 x=>match x with
  |(x1,x2)=>(kI x1 x2).bind λn1=>bif (n1.kind==1) then (iter (σ:=(List DElem)×Int) (ρ:=(List DElem)) (λx=>match x with
      |(x3,x4)=>bif decide (x4<(n1.elems.length:Int)) then ((idx x3 x4).bind λe1=>(jp e1).bind λr5=>(jp p910).bind λr6=>bif (r5==r6) then (idx x3 x4).bind λe2=>some (x3.set x4.toNat p910) else some x3:Option ((List DElem))).bind λz3=>some (.inl (z3,IntKind.i64.wrap (x4 + 1))) else some (.inr x3)) F (n1.elems,0)).bind λz2=>(uO n1 (DNode.mk n1.kind z2 n1.kids n1.seps n1.tids)).bind λu1=>some (jA (ja x1 x2) x2 (DNode.mk n1.kind z2 n1.kids n1.seps n1.tids)) else (jp p910).bind λr7=>(mI F n1 r7).bind λr8=>(idx n1.kids r8).bind λe3=>(rf1 ((ja x1 x2),e3)).bind λz4=>(idx n1.kids r8).bind λe4=>(kI z4 e4).bind λn2=>(jw F n2).bind λr9=>(idx n1.tids r8).bind λe5=>(uO n1 (DNode.mk n1.kind n1.elems n1.kids n1.seps (n1.tids.set r8.toNat r9))).bind λu2=>some (jA z4 x2 (DNode.mk n1.kind n1.elems n1.kids n1.seps (n1.tids.set r8.toNat r9)))) F (p907,p909)).bind λz1=>some z1
def mr (p901:Int) (p904:List DElem) (p908:List Int) (p912:List DSpot) (p916:List Int):Option ((List Int)×(List DSpot)×(List Int)×(List DElem)×(List DElem)×(List Int)×(List DSpot)×(List Int)×Int×Int×Int×Int×Int):=bif (p901==1) then (js p904 4 (p904.length:Int)).bind λs1=>(grow 56 ([]:List DElem) s1).bind λ_=>(js p904 0 4).bind λs2=>(idx s1 0).bind λe1=>(jp e1).bind λr2=>some ([],[],[],s1,s2,p908,p912,p916,r2.key.pfs,r2.key.obj,r2.key.off,r2.made,1) else (js p908 4 (p908.length:Int)).bind λs3=>(js p912 4 (p912.length:Int)).bind λs4=>(js p916 4 (p916.length:Int)).bind λs5=>(grow 8 ([]:List Int) s3).bind λy2=>(grow 32 ([]:List DSpot) s4).bind λy3=>(grow 8 ([]:List Int) s5).bind λy4=>(idx p912 3).bind λe2=>(js p908 0 4).bind λs6=>(js p912 0 3).bind λs7=>(js p916 0 4).bind λs8=>some (s5,s4,s3,[],p904,s6,s7,s8,e2.key.pfs,e2.key.obj,e2.key.off,e2.made,2)
def kE (F:Nat) (p902:Int) (p907:List (Int⊕DNode)) (p909:Int) (p912:List DElem) (p916:List Int) (p920:List DSpot) (p924:List Int):Option ((List (Int⊕DNode))×Int):=(iter (σ:=Int) (ρ:=(Unit)⊕((List (Int⊕DNode))×Int)) (λx1=>bif decide (x1<(p907.length:Int)) then (sU p907 x1).bind λkd1=>bif (kd1==0) then (ll p907 x1).bind λu1=>some (.inr (.inr ((jA p907 x1 (DNode.mk p909 p912 p916 p920 p924)),x1))) else some (.inl (IntKind.i64.wrap (x1 + 1))) else some (.inr (.inl ()))) F 0).bind λz=>match z with
  |.inl _=>(tE 104 (p907.length + 1)).bind λu2=>some ((p907++[(Sum.inr (DNode.mk p909 p912 p916 p920 p924):Int⊕DNode)]),IntKind.i64.wrap (((p907++[(Sum.inr (DNode.mk p909 p912 p916 p920 p924):Int⊕DNode)]).length:Int) - 1))
  |.inr q=>some q
def kW (F:Nat) (p902:Int) (p907:List (Int⊕DNode)) (p909:Int) (p910:DElem):Option ((List (Int⊕DNode))×Int×Int×Int×Int×Int×Bool):=(qc (σ:=(List (Int⊕DNode))×Int) (ρ:=(List (Int⊕DNode))×Int×Int×Int×Int×Int×Bool) (λrf1 x=>match x with
  |(x1,x2)=>(kI x1 x2).bind λn1=>(bif (n1.kind==1) then (iter (σ:=Int) (ρ:=Int) (λx3=>(bif decide (x3<(n1.elems.length:Int)) then (idx n1.elems x3).bind λe1=>(jp e1).bind λr5=>(jp p910).bind λr6=>(jD r5 r6).bind λr7=>some (decide (r7<0)) else some false:Option (Bool)).bind λz14=>bif z14 then some (.inl (IntKind.i64.wrap (x3 + 1))) else some (.inr x3)) F 0).bind λz13=>(tN 56 n1.elems z13 p910).bind λ_=>some ((jP n1.elems z13.toNat p910),n1.kids,n1.seps,n1.tids,(ja x1 x2)) else (jp p910).bind λr8=>(mI F n1 r8).bind λr9=>(idx n1.kids r9).bind λe2=>(rf1 ((ja x1 x2),e2)).bind λz=>match z with
        |(z15,z16,z17,z18,z19,z20,z21)=>(idx n1.kids r9).bind λe3=>(kI z15 e3).bind λn2=>(jw F n2).bind λr10=>(idx n1.tids r9).bind λe4=>bif z21 then (tN 8 n1.kids (IntKind.i64.wrap (r9 + 1)) z20).bind λ_=>(tN 32 n1.seps r9 (DSpot.mk (DKey.mk z16 z17 z18) z19)).bind λ_=>(kI z15 z20).bind λn3=>(jw F n3).bind λr11=>(tN 8 (n1.tids.set r9.toNat r10) (IntKind.i64.wrap (r9 + 1)) r11).bind λ_=>some (n1.elems,(jP n1.kids (IntKind.i64.wrap (r9 + 1)).toNat z20),(jP n1.seps r9.toNat (DSpot.mk (DKey.mk z16 z17 z18) z19)),(jP (n1.tids.set r9.toNat r10) (IntKind.i64.wrap (r9 + 1)).toNat r11),z15) else some (n1.elems,n1.kids,n1.seps,(n1.tids.set r9.toNat r10),z15):Option ((List DElem)×(List Int)×(List DSpot)×(List Int)×(List (Int⊕DNode)))).bind λz=>match z with
     |(z8,z9,z10,z11,z12)=>bif decide ((IntKind.i64.wrap ((z8.length:Int) + (z9.length:Int)))<=8) then (ll z12 x2).bind λu1=>some ((jA z12 x2 (DNode.mk n1.kind z8 z9 z10 z11)),0,0,0,0,0,false) else (mr n1.kind z8 z9 z10 z11).bind λr12=>(ll z12 x2).bind λu2=>(kE F p902 (jA z12 x2 (DNode.mk n1.kind r12.2.2.2.2.1 r12.2.2.2.2.2.1 r12.2.2.2.2.2.2.1 r12.2.2.2.2.2.2.2.1)) r12.2.2.2.2.2.2.2.2.2.2.2.2 r12.2.2.2.1 r12.2.2.1 r12.2.1 r12.1).bind λr21=>some (r21.1,r12.2.2.2.2.2.2.2.2.1,r12.2.2.2.2.2.2.2.2.2.1,r12.2.2.2.2.2.2.2.2.2.2.1,r12.2.2.2.2.2.2.2.2.2.2.2.1,r21.2,true)) F (p907,p909)).bind λz=>match z with
  |(z1,z2,z3,z4,z5,z6,z7)=>some (z1,z2,z3,z4,z5,z6,z7)
def lw (F:Nat) (p902:Int) (p907:List (Int⊕DNode)) (p909:DElem):Option (Int×(List (Int⊕DNode))):=(kW F p902 p907 p902 p909).bind λr1=>bif (!r1.2.2.2.2.2.2) then some (p902,r1.1) else (kI r1.1 p902).bind λn1=>(kI r1.1 r1.2.2.2.2.2.1).bind λn2=>(jw F n1).bind λr2=>(jw F n2).bind λr3=>(kE F p902 r1.1 2 [] [p902,r1.2.2.2.2.2.1] [(DSpot.mk (DKey.mk r1.2.1 r1.2.2.1 r1.2.2.2.1) r1.2.2.2.2.1)] [r2,r3]).bind λr8=>some (r8.2,r8.1)
def mL (p901:Int) (p904:List DElem) (p908:List Int) (p912:List DSpot) (p916:List Int) (p918:Int) (p921:List DElem) (p925:List Int) (p929:List DSpot) (p933:List Int) (p935:DSpot):Option ((List DSpot)):=(grow 56 p904 p921).bind λ_=>(bif (p901==2) then (grow 32 p912 [p935]).bind λy2=>(grow 32 (p912++[p935]) p929).bind λy3=>some ((p912++[p935])++p929) else some p912:Option ((List DSpot))).bind λz2=>(grow 8 p908 p925).bind λ_=>(grow 8 p916 p933).bind λ_=>some z2
def kX (F:Nat) (p902:Int) (p907:List (Int⊕DNode)) (p909:Int) (p912:List DElem) (p916:List Int) (p920:List DSpot) (p924:List Int) (p926:Int):Option ((List (Int⊕DNode))×(List Int)×(List DSpot)×(List Int)):=(bif (p926==(IntKind.i64.wrap ((p916.length:Int) - 1))) then some (IntKind.i64.wrap (p926 - 1)) else some p926:Option (Int)).bind λz5=>(idx p916 z5).bind λe1=>(idx p916 (IntKind.i64.wrap (z5 + 1))).bind λe2=>(kI p907 e1).bind λn1=>(kI (ja p907 e1) e2).bind λn2=>(idx p920 z5).bind λe3=>(mL n1.kind n1.elems n1.kids n1.seps n1.tids n2.kind n2.elems n2.kids n2.seps n2.tids e3).bind λr9=>(bif decide ((8:Int)<(IntKind.i64.wrap (((n1.elems++n2.elems).length:Int) + ((n1.kids++n2.kids).length:Int)))) then (mr n1.kind (n1.elems++n2.elems) (n1.kids++n2.kids) r9 (n1.tids++n2.tids)).bind λr10=>(ll (ja (ja p907 e1) e2) e1).bind λu1=>(ll (jA (ja (ja p907 e1) e2) e1 (DNode.mk n1.kind r10.2.2.2.2.1 r10.2.2.2.2.2.1 r10.2.2.2.2.2.2.1 r10.2.2.2.2.2.2.2.1)) e2).bind λu2=>(idx p920 z5).bind λe6=>(jw F (DNode.mk r10.2.2.2.2.2.2.2.2.2.2.2.2 r10.2.2.2.1 r10.2.2.1 r10.2.1 r10.1)).bind λr19=>(idx p924 (IntKind.i64.wrap (z5 + 1))).bind λe7=>some (p916,(p920.set z5.toNat (DSpot.mk (DKey.mk r10.2.2.2.2.2.2.2.2.1 r10.2.2.2.2.2.2.2.2.2.1 r10.2.2.2.2.2.2.2.2.2.2.1) r10.2.2.2.2.2.2.2.2.2.2.2.1)),(p924.set ((IntKind.i64.wrap (z5 + 1)).toNat) r19),(jA (jA (ja (ja p907 e1) e2) e1 (DNode.mk n1.kind r10.2.2.2.2.1 r10.2.2.2.2.2.1 r10.2.2.2.2.2.2.1 r10.2.2.2.2.2.2.2.1)) e2 (DNode.mk r10.2.2.2.2.2.2.2.2.2.2.2.2 r10.2.2.2.1 r10.2.2.1 r10.2.1 r10.1))) else (ll (ja (ja p907 e1) e2) e1).bind λu3=>(ll (jA (ja (ja p907 e1) e2) e1 (DNode.mk n1.kind (n1.elems++n2.elems) (n1.kids++n2.kids) r9 (n1.tids++n2.tids))) e2).bind λu4=>(uo p916 (IntKind.i64.wrap (z5 + 1)) (IntKind.i64.wrap (z5 + 2))).bind λ_=>(uo p920 z5 (IntKind.i64.wrap (z5 + 1))).bind λ_=>(uo p924 (IntKind.i64.wrap (z5 + 1)) (IntKind.i64.wrap (z5 + 2))).bind λ_=>some ((kx p916 (IntKind.i64.wrap (z5 + 1)).toNat (IntKind.i64.wrap (z5 + 2)).toNat),(kx p920 z5.toNat (IntKind.i64.wrap (z5 + 1)).toNat),(kx p924 (IntKind.i64.wrap (z5 + 1)).toNat (IntKind.i64.wrap (z5 + 2)).toNat),(jA (jA (ja (ja p907 e1) e2) e1 (DNode.mk n1.kind (n1.elems++n2.elems) (n1.kids++n2.kids) r9 (n1.tids++n2.tids))) e2 (DNode.mk 0 [] [] [] []))):Option ((List Int)×(List DSpot)×(List Int)×(List (Int⊕DNode)))).bind λz=>match z with
  |(z6,z7,z8,z9)=>(kI z9 e1).bind λn7=>(jw F n7).bind λr24=>(idx z8 z5).bind λe10=>some (z9,z6,z7,(z8.set z5.toNat r24))
def kK (F:Nat) (p902:Int) (p907:List (Int⊕DNode)) (p909:Int) (p910:DSpot):Option ((List (Int⊕DNode))):=(qc (σ:=(List (Int⊕DNode))×Int) (ρ:=(List (Int⊕DNode))) (λrf1 x=>match x with
  |(x1,x2)=>(kI x1 x2).bind λn1=>bif (n1.kind==1) then (((iter (σ:=Int) (ρ:=(Unit)⊕Int) (λx3=>bif decide (x3<(n1.elems.length:Int)) then (idx n1.elems x3).bind λe1=>((jp e1).bind λr5=>some (r5==p910):Option (Bool)).bind λz4=>bif z4 then some (.inr (.inr x3)) else some (.inl (IntKind.i64.wrap (x3 + 1))) else some (.inr (.inl ()))) F 0).bind λz=>match z with
        |.inl _=>some (-1)
        |.inr q=>some q:Option (Int)).bind λz3=>bif (z3==(-1)) then some n1.elems else (iter (σ:=(List DElem)×Int×Int) (ρ:=(List DElem)×Int) (λx=>match x with
         |(x4,x5,x6)=>bif decide (x6<(x4.length:Int)) then ((idx x4 x6).bind λe2=>((jp e2).bind λr6=>some (r6==p910):Option (Bool)).bind λz9=>bif (!z9) then (idx x4 x5).bind λe3=>some ((x4.set x5.toNat e2),IntKind.i64.wrap (x5 + 1)) else some (x4,x5):Option ((List DElem)×Int)).bind λz=>match z with
            |(z7,z8)=>some (.inl (z7,z8,IntKind.i64.wrap (x6 + 1))) else some (.inr (x4,x5))) F (n1.elems,z3,IntKind.i64.wrap (z3 + 1))).bind λz=>match z with
         |(z5,z6)=>(js z5 z6 (z5.length:Int)).bind λs2=>(js (over z5 z6.toNat (i_ s2.length ((DElem.mk (DKey.mk 0 0 0) 0 0 (ByteArray.mk #[])):DElem))) 0 z6).bind λs3=>some s3:Option ((List DElem))).bind λz2=>(ll (ja x1 x2) x2).bind λu1=>some (jA (ja x1 x2) x2 (DNode.mk n1.kind z2 n1.kids n1.seps n1.tids)) else (mI F n1 p910).bind λr7=>(idx n1.kids r7).bind λe5=>(rf1 ((ja x1 x2),e5)).bind λz10=>(idx n1.kids r7).bind λe6=>(kI z10 e6).bind λn4=>(jw F n4).bind λr8=>(idx n1.tids r7).bind λe7=>(bif decide ((IntKind.i64.wrap ((n4.elems.length:Int) + (n4.kids.length:Int)))<4) then (kX F p902 z10 n1.kind n1.elems n1.kids n1.seps (n1.tids.set r7.toNat r8) r7).bind λr9=>some (r9.2.1,r9.2.2.1,r9.2.2.2,r9.1) else some (n1.kids,n1.seps,(n1.tids.set r7.toNat r8),z10):Option ((List Int)×(List DSpot)×(List Int)×(List (Int⊕DNode)))).bind λz=>match z with
      |(z11,z12,z13,z14)=>(ll z14 x2).bind λu2=>some (jA z14 x2 (DNode.mk n1.kind n1.elems z11 z12 z13))) F (p907,p909)).bind λz1=>some z1
def lZ (F:Nat) (p901:Int) (p906:List (Int⊕DNode)) (p908:DSpot):Option ((List (Int⊕DNode))×Int):=(kK F p901 p906 p901 p908).bind λr1=>((kI r1 p901).bind λn1=>bif ((n1.kids.length:Int)==1) then (ll (ja r1 p901) p901).bind λu1=>(idx n1.kids 0).bind λe2=>some (e2,(jA (ja r1 p901) p901 (DNode.mk 0 [] [] [] []))) else some (p901,(jA (ja r1 p901) p901 n1)):Option (Int×(List (Int⊕DNode)))).bind λz=>match z with
  |(z3,z4)=>some (z4,z3)
end Go.Proofs.YtnofgfobljadbaaGreat
