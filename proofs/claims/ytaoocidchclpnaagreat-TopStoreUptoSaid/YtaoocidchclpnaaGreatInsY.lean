/- What is written into a row of the call's own beyond its end, and onto a beginning of it: what slices.Insert and slices.Delete do. Its conditions: none. -/
import Derived.Test.YtaoocidchclpnaaGreatClearY
import Derived.Lib.AppendZerosOnto
import Derived.Lib.Overlaps
open List renaming length_append→a_, length_take→d_, replicate→j_, mem_of_getElem?→l_, length_drop→o_, size_toArray→q_, getElem?_eq_some_iff→t_, map_toArray→u_, map_cons→v_, map_nil→x_, toList_toArray→z_, getElem?_take→B_, take_of_length_le→D_, getElem?_eq_getElem→E_, drop_replicate→G_
open Nat renaming mul_le_mul_right→f_, add_mul→g_, min_eq_left→i_, mul_pos→C_
open Array renaming length_toList→p_, toList_append→F_
open Option renaming some→y_
namespace Go.Proofs.YtaoocidchclpnaaGreat
open Go.RowKit
set_option linter.unusedVariables false
section
variable {P:Program} {Q:Exit→Act→World→Prop} {M:List (Nat × Value)} {ops:Array Oper} {o:Oper} {N:Sz} {w0 w:World} {V:View} {H:List HObj} {K:Act→World→Prop}
variable {α:Type} {E:Enc α} {p:Bool} {t e:TypeId} {A:Option Addr} {c:Nat} {l:List α}
theorem im {x:Operand} {lx hx:Option Operand} {n s:Nat} {lo hi:Int} {k k' : IntKind} (ho:o.op = .slice t x lx hx none)
 (hxv:evM M x = .slice A n c) (ht:P.underlying t=some (.slice e)) (hs:(sizeOf e).run P w = .ok s w)
 (hlo:match lx with | some y=>evM M y = .int k lo | none=>lo=0) (hhi:match hx with | some y=>evM M y = .int k' hi | none=>hi=n) (h0:0≤lo) (h1:lo≤hi) (h2:hi≤c) :
 (execOp (evM M) o).run P w = .ok (.value (.slice (iW A c lo.toNat s) (hi.toNat - lo.toNat) (c - lo.toNat))) w:=by
 have e1:=@jv P w k' hi c .sliceAcap (by omega) (by omega)
 have e2:=@jv P w k lo hi.toNat .sliceB h0 (by omega)
 cases lx with
 | none =>
  dsimp only at hlo
  subst hlo
  cases hx with
  | none =>
   dsimp only at hhi
   subst hhi
   simp [execOp,ho,hxv,Instr.sliceAt,run_underlying ht,Instr.slice,Instr.sliceBounds,hs,iW]
  | some y =>
   dsimp only at hhi
   simp [execOp,ho,hxv,hhi,Instr.sliceAt,run_underlying ht,Instr.slice,Instr.sliceBounds,hs,iW,e1]
 | some z =>
  dsimp only at hlo
  cases hx with
  | none =>
   dsimp only at hhi
   subst hhi
   rw [show ((n:Int)).toNat=n from Int.toNat_natCast _] at e2
   simp [execOp,ho,hxv,hlo,Instr.sliceAt,run_underlying ht,Instr.slice,Instr.sliceBounds,hs,iW,e2]
  | some y =>
   dsimp only at hhi
   simp [execOp,ho,hxv,hlo,hhi,Instr.sliceAt,run_underlying ht,Instr.slice,Instr.sliceBounds,hs,iW,e1,e2]
theorem o9 {x lx hx mx:Operand} {n s:Nat} {lo hi mi:Int} {k k' k'' : IntKind} (ho:o.op = .slice t x (some lx) (some hx) (some mx))
 (hxv:evM M x = .slice A n c) (ht:P.underlying t=some (.slice e)) (hs:(sizeOf e).run P w = .ok s w)
 (hlo:evM M lx = .int k lo) (hhi:evM M hx = .int k' hi) (hmi:evM M mx = .int k'' mi) (h0:0≤lo) (h1:lo≤hi) (h2:hi≤mi) (h3:mi≤c) :
 ∃ v,(execOp (evM M) o).run P w = .ok (.value v) w:=by
 have e0:=@jv P w k'' mi c .slice3Acap (by omega) (by omega)
 have e1:=@jv P w k' hi mi.toNat .slice3B (by omega) (by omega)
 have e2:=@jv P w k lo hi.toNat .slice3C h0 (by omega)
 simp [execOp,ho,hxv,hlo,hhi,hmi,Instr.sliceAt,run_underlying ht,Instr.slice,Instr.sliceBounds,hs,e0,e1,e2]
theorem W1.pH (hc:okO N ops M o=true) (hv : ∀ w,Hp w0 V H w→∃ v,(execOp (evM M) o).run P w = .ok (.value v) w) (h : ∀ v,T N w0 V H (jh o.dst v M) K) : W1 P Q ops o N w0 V H M K:=fun a w hf hh=>by
 obtain⟨h1,_,_,h4⟩:=i9 hc
 refine⟨iY hf h1,?_⟩
 obtain⟨v,hrun⟩:=hv w hh
 unfold Oper.wp
 rw [jq hc hf,hrun]
 exact h v _ _ (hf.put h4 v) hh
theorem rF {g:Nat} {cur:Array Value} {fz:Nat × Nat} {xs ys:List Value} {m:List α} {lo:Nat} (hrow:RowAt p e E A c l V w g cur fz xs) (hcm:c≤maxLen) (hy:iE V E ys m) (hlo:lo≤l.length) (hlc:l.length≤c) (hfit:lo + m.length≤c) (hlong:l.length≤lo + m.length) :
 (kj p e E A c (l.take lo ++ m)).ok V (w.setRow g (cur.toList.take (lo * E.size) ++ ys ++ cur.toList.drop (lo * E.size + ys.length)).toArray):=by
 have hyl:ys.length=m.length * E.size:=hy.1
 have hls:=f_ E.size hlo
 have hcs:=f_ E.size hlc
 have hfs:lo * E.size + m.length * E.size≤c * E.size:=by rw [← g_];exact f_ _ hfit
 have hlen:(cur.toList.take (lo * E.size) ++ ys ++ cur.toList.drop (lo * E.size + ys.length)).length=cur.size:=by
  simp only [a_,d_ (l:=cur.toList),o_,p_];rw [hrow.size];omega
 have hl2:(l.take lo ++ m).length=lo + m.length:=by rw [a_,d_,i_ hlo]
 have hT:=(hrow.rep.takeN lo).append hy
 refine⟨by rw [hl2];exact hfit,hcm,.inr ⟨g,_,fz,_,⟨hrow.adr,setRow_heap w g cur _ e _ hrow.heap,hrow.plain,?_,?_,rfl,?_⟩⟩⟩
 · rw [q_,hlen];exact hrow.unfrz
 · rw [q_,hlen];exact hrow.size
 · refine(congrArg (fun q=>iE V E q (l.take lo ++ m)) ?_).mp hT
   have htk:xs.take (lo * E.size)=cur.toList.take (lo * E.size):=by
    rw [← hrow.take,List.take_take,i_ hls]
   rw [htk,hl2,z_,g_,← hyl]
   have hln:(cur.toList.take (lo * E.size) ++ ys).length=lo * E.size + ys.length:=by
    have hct:cur.toList.length=cur.size:=p_
    rw [a_,d_,i_ (by rw [hct,hrow.size];omega)]
   rw [List.take_left' hln]
theorem tu {g:Nat} {cur:Array Value} {fz:Nat × Nat} {xs ys:List Value} {m:List α} {lo:Nat} (hrow:RowAt p e E A c l V w g cur fz xs) (hcm:c≤maxLen) (hlc:l.length≤c) (hy:iE V E ys m) (hfit:lo + m.length≤l.length) :
 (kj p e E A c (over l lo m)).ok V (w.setRow g (cur.toList.take (lo * E.size) ++ ys ++ cur.toList.drop (lo * E.size + ys.length)).toArray):=by
 have hyl:ys.length=m.length * E.size:=hy.1
 have hcs:=f_ E.size hlc
 have hfs:lo * E.size + ys.length≤l.length * E.size:=by rw [hyl,← g_];exact f_ _ hfit
 have hlen:(cur.toList.take (lo * E.size) ++ ys ++ cur.toList.drop (lo * E.size + ys.length)).length=cur.size:=by
  simp only [a_,d_ (l:=cur.toList),o_,p_];rw [hrow.size];omega
 have hol:(over l lo m).length=l.length:=jR _ _ _ hfit
 refine⟨by rw [hol];exact hlc,hcm,.inr ⟨g,_,fz,_,⟨hrow.adr,setRow_heap w g cur _ e _ hrow.heap,hrow.plain,?_,?_,rfl,?_⟩⟩⟩
 · rw [q_,hlen];exact hrow.unfrz
 · rw [q_,hlen];exact hrow.size
 · have hset:=hrow.rep.over hy lo
   refine(congrArg (fun q=>iE V E q _) ?_).mp hset
   have hxl:xs.length=l.length * E.size:=hrow.rep.1
   rw [hol]
   apply List.ext_getElem?
   intro j
   have hct:cur.toList.length=cur.size:=p_
   have hfit2:lo * E.size + ys.length≤cur.toList.length:=by rw [hct,hrow.size];omega
   rw [jW xs ys (lo * E.size) j (by rw [hxl];omega),B_]
   simp only [z_]
   rw [jW cur.toList ys (lo * E.size) j hfit2,← hrow.take,B_]
   by_cases hj:j < l.length * E.size
   · rw [if_pos hj,if_pos hj]
   · rw [if_neg hj,if_neg hj,if_neg (by omega)]
theorem W1.oH (i lo dn sn:Nat) {m:List α} {A2:Option Addr} {c2 dc:Nat} {t' : TypeId} (d x:Operand) (hi:nth H i=some (kj p e E A c l))
 (hc:okO N ops M o=true) (ho:o.op = .call { callee:=.builtin .copy,args:=#[d,x],argTypes:=#[t,t'] })
 (ht:P.underlying t=some (.slice e)) (hsz : ∀ w,(sizeOf e).run P w = .ok E.size w) (hs0:0 < E.size)
 (hd:evM M d = .slice (iW A c lo E.size) dn dc) (hx:evM M x = .slice A2 sn c2) (hmin:min sn dn=m.length) (h0:0 < m.length) (hlo:lo≤l.length) (hfit:lo + m.length≤c) (hlong:l.length≤lo + m.length)
 (hsrc : ∀ w,Hp w0 V H w→∃ news,iE V E news m∧mY (vw w) A2 news)
 (h:T N w0 V (H.set i (kj p e E A c (l.take lo ++ m))) (jh o.dst (.int .i64 (m.length:Int)) M) K) : W1 P Q ops o N w0 V H M K:=fun a w hf hh=>by
 obtain⟨g1,_,_,h4⟩:=i9 hc
 rw [ju] at hi
 refine⟨iY hf g1,?_⟩
 obtain⟨hlc,hcm,hrow⟩:=hh.objs _ (l_ hi)
 obtain⟨news,hnr,hnl⟩:=hsrc w hh
 have hc0:c≠0:=by omega
 rcases hrow with hz | ⟨g,cur,fz,xs,hrow⟩
 · exact absurd hz hc0
 obtain⟨ad,rfl⟩ : ∃ ad,A2=some ad:=by
  have hp:0 < news.length:=by rw [hnr.1];exact C_ h0 hs0
  obtain⟨ad,h2,_⟩:=hnl 0 _ (E_ hp)
  exact⟨ad,h2⟩
 have hload:=run_loadCells_list (P:=P) w ad news (fun j u hu=>by
  obtain⟨a',ha,hcell⟩:=hnl j u hu
  injection ha with ha;subst ha;exact hcell)
 rw [hnr.1] at hload
 have hcut:iW A c lo E.size=some ⟨g,lo * E.size,none⟩∨lo=0∧iW A c lo E.size=some ⟨g,lo * E.size,none⟩:=by
  have:(⟨g,0,none⟩ : Addr).add (lo * E.size)=⟨g,lo * E.size,none⟩:=by unfold Addr.add;split <;> simp_all
  left
  unfold iW
  rw [if_neg (by omega),hrow.adr,Option.map_some,this]
 have hcut:iW A c lo E.size=some ⟨g,lo * E.size,none⟩:=by rcases hcut with h | h;exact h;exact h.2
 have hfs:lo * E.size + m.length * E.size≤c * E.size:=by rw [← g_];exact f_ _ hfit
 have hst:=j6 (P:=P) g (lo * E.size) e fz news 0 cur w hrow.heap hrow.unfrz (by rw [hrow.size,hnr.1];omega) (fun u hu=>hnr.one u hu)
 simp only [Nat.add_zero] at hst
 have hr:(Builtin.copy_ #[t,t'] o.type #[.slice (iW A c lo E.size) dn dc,.slice (some ad) sn c2]).run P w = .ok (.int .i64 (m.length:Int)) (w.setRow g (cur.toList.take (lo * E.size) ++ news ++ cur.toList.drop (lo * E.size + news.length)).toArray):=by
  rw [hcut]
  have hmin' : Nat.min sn dn=m.length:=hmin
  generalize m.length=kk at hmin hmin' hload
  simp only [Builtin.copy_,Sem.run_bind,Sem.run_pure,Result.andThen_ok,run_underlying ht,Builtin.lenOf,Builtin.firstCells,hsz,hmin,hload,hst,goInt,List.getElem?_toArray,List.getElem?_cons_zero,List.getElem?_cons_succ]
 unfold Oper.wp
 rw [jq hc hf]
 have hrun:(execOp (evM M) o).run P w = .ok (.value (.int .i64 (m.length:Int))) (w.setRow g (cur.toList.take (lo * E.size) ++ news ++ cur.toList.drop (lo * E.size + news.length)).toArray):=by
  simp only [execOp,ho,resolve,invoke,builtin,Sem.run_bind,Sem.run_pure,Result.andThen_ok,u_,v_,x_,hd,hx,hr]
 rw [hrun]
 have hblk:i8 A c=some g:=by unfold i8;rw [if_neg hc0,hrow.adr];rfl
 exact h _ _ (hf.put h4 _) (hh.turn (o:=some g) hi ⟨rfl,rfl,rfl,by simp,fun b _ hb=>setRow_other w g b _ (fun e=>hb (by rw [e]))⟩ (rF hrow hcm hnr hlo hlc hfit hlong) (fun b hb=>.inl hb) (fun b hb=>by rw [← y_.inj hb];exact hblk))
theorem W1.oX (i k:Nat) {m:List α} {A2:Option Addr} {c2:Nat} (s x:Operand) (ti:TypeInfo) (hi:nth H i=some (row e E A c l)) (hk:k + m.length≤l.length)
 (hc:okO N ops M o=true) (ho:o.op = .call { callee:=.builtin .append,args:=#[s,x],argTypes:=#[t,t] })
 (ht:P.underlying t=some (.slice e)) (hti:P.info? e=some ti) (hsize:ti.size=E.size) (hs0:0 < E.size)
 (hs:evM M s = .slice A k c) (hx:evM M x = .slice A2 m.length c2) (hsrc : ∀ w,Hp w0 V H w→∃ news,iE V E news m∧mY (vw w) A2 news)
 (h:T N w0 V (H.set i (row e E A c (over l k m))) (jh o.dst (.slice A (k + m.length) c) M) K) : W1 P Q ops o N w0 V H M K:=fun a w hf hh=>by
 obtain⟨g1,_,_,h4⟩:=i9 hc
 rw [ju] at hi
 refine⟨iY hf g1,?_⟩
 obtain⟨hlc,hcm,hrow⟩:=hh.objs _ (l_ hi)
 obtain⟨news,hnr,hnl⟩:=hsrc w hh
 unfold Oper.wp
 rw [jq hc hf]
 rcases Nat.eq_zero_or_pos m.length with hm0 | hm0
 · have hm:m=[]:=List.eq_nil_of_length_eq_zero hm0
   subst hm
   have hr:=mF (P:=P) w t o.type e ti ht hti A A2 k c (by simp at hk;omega) c2
   have hrun:(execOp (evM M) o).run P w = .ok (.value (.slice A k c)) w:=by
    simp only [execOp,ho,resolve,invoke,builtin,Sem.run_bind,Sem.run_pure,Result.andThen_ok,u_,v_,x_,hs,hx,List.length_nil,hr]
   rw [hrun]
   have hov:over l k ([] : List α)=l:=by simp [over]
   rw [hov] at h
   have hsame:H.set i (row e E A c l)=H:=List.ext_getElem? fun j=>by
    rw [List.getElem?_set]
    split
    · rename_i ej;subst ej;rw [if_pos (t_.1 hi).1,hi]
    · rfl
   rw [hsame] at h
   exact h _ _ (hf.put h4 _) hh
 have hc0:c≠0:=by omega
 rcases hrow with hz | ⟨g,cur,fz,xs,hrow⟩
 · exact absurd hz hc0
 obtain⟨ad,rfl⟩ : ∃ ad,A2=some ad:=by
  have hp:0 < news.length:=by rw [hnr.1];exact C_ hm0 hs0
  obtain⟨ad,h2,_⟩:=hnl 0 _ (E_ hp)
  exact⟨ad,h2⟩
 obtain rfl:fz=(0,0):=hrow.plain rfl
 have hfs:k * E.size + m.length * E.size≤l.length * E.size:=by rw [← g_];exact f_ _ hk
 have hcs:=f_ E.size hlc
 have hr:=run_append_room (P:=P) w t o.type e ti ht hti g k c cur hrow.heap ad m.length c2 news (by rw [hsize];exact hnr.1) (fun j u hu=>by
  obtain⟨a',ha,hcell⟩:=hnl j u hu
  injection ha with ha;subst ha;exact hcell) (fun u hu=>hnr.one u hu) (by omega) (by rw [hsize,hnr.1,hrow.size];omega)
 rw [hsize] at hr
 have hrun:(execOp (evM M) o).run P w = .ok (.value (.slice A (k + m.length) c)) (w.setRow g (cur.toList.take (k * E.size) ++ news ++ cur.toList.drop (k * E.size + news.length)).toArray):=by
  simp only [execOp,ho,resolve,invoke,builtin,Sem.run_bind,Sem.run_pure,Result.andThen_ok,u_,v_,x_,hs,hx,hrow.adr,hr]
 rw [hrun]
 have hblk:i8 A c=some g:=by unfold i8;rw [if_neg hc0,hrow.adr];rfl
 exact h _ _ (hf.put h4 _) (hh.turn (o:=some g) hi ⟨rfl,rfl,rfl,by simp,fun b _ hb=>setRow_other w g b _ (fun e=>hb (by rw [e]))⟩ (tu hrow hcm hlc hnr hk) (fun b hb=>.inl hb) (fun b hb=>by rw [← y_.inj hb];exact hblk))
theorem W1.nR (i k n:Nat) {x:α} {z:Value} {tn:TypeId} {kq kn:IntKind} (s y:Operand) (bytes:Nat) (ti:TypeInfo) (hi:nth H i=some (kj p e E A c l)) (hk:k≤l.length) (hcp:0 < c) (h0:0 < n) (hg:c < k + n)
 (hc:okO N ops M o=true) (ho:o.op = .call { callee:=.builtin .append,args:=#[s,y],argTypes:=#[t,tn] })
 (ht:P.underlying t=some (.slice e)) (htn:P.underlying tn=some (.int kn)) (hti:P.info? e=some ti) (hz:ti.zero=some z) (hsize:ti.size=E.size) (hby:ti.bytes=bytes) (hrep : ∀ V,E.rep V z.cells.toList x) (hzs:z.cells.size=E.size) (hs0:0 < E.size)
 (hs:evM M s = .slice A k c) (hy:evM M y = .int kq (n:Int)) (hroom:od (k + n) bytes=true) (hmax:k + n≤maxLen)
 (h : ∀ A' c',T N w0 V (row e E A' c' (l.take k ++ j_ n x)::H) (jh o.dst (.slice A' (l.take k ++ j_ n x).length c') M) K) : W1 P Q ops o N w0 V H M K:=fun a w hf hh=>by
 obtain⟨g1,_,_,h4⟩:=i9 hc
 rw [ju] at hi
 refine⟨iY hf g1,?_⟩
 obtain⟨hlc,hcm,hrow⟩:=hh.objs _ (l_ hi)
 rcases hrow with hz' | ⟨g,cur,fz,xs,hrow⟩
 · omega
 have hbytes:(k + n) * bytes≤140737488355328:=of_decide_eq_true hroom
 have hnb:n * bytes≤(k + n) * bytes:=f_ _ (by omega)
 have hT:=hrow.rep.takeN k
 have hkl:(l.take k).length=k:=by rw [d_,i_ hk]
 have hold:(Builtin.firstCells ti.size k (.slice A k c)).run P w.drew = .ok (xs.take (k * E.size)).toArray w.drew:=by
  rw [hrow.adr,hsize]
  refine run_firstCells_some (P:=P) w.drew E.size k ⟨g,0,none⟩ k c _ (by rw [hT.1,hkl]) (fun j v hj=>?_)
  rw [B_] at hj
  split at hj
  · obtain⟨a',ha,hcell⟩:=hrow.cells j v hj
    rw [hrow.adr] at ha
    injection ha with ha;subst ha;exact hcell
  · cases hj
 have hr:=Lib.run_append_grow_zeros (P:=P) w t tn o.type e ti z kq kn ht htn hti hz A k c _ hold n h0 (by rw [hsize];exact hs0) hg (by unfold maxLen at hmax;omega) (by rw [hby];omega) (by rw [hby];exact growslice_fits hg hbytes)
 have hge:=grownCap_ge w (k + n) c e
 have hcm':=grownCap_le_maxLen w (k + n) c e hmax
 have hlen:(l.take k ++ j_ n x).length=k + n:=by rw [a_,hkl,List.length_replicate]
 unfold Oper.wp
 rw [jq hc hf]
 have hrun:(execOp (evM M) o).run P w = .ok (.value (.slice (some ⟨w.heap.size,0,none⟩) (l.take k ++ j_ n x).length (grownCap w (k + n) c e))) (w.drew.alloc (.cells ((xs.take (k * E.size)).toArray ++ Builtin.zeroCells z.cells n ++ Builtin.zeroCells z.cells (grownCap w (k + n) c e - (k + n))) e)):=by
  simp only [execOp,ho,resolve,invoke,builtin,Sem.run_bind,Sem.run_pure,Result.andThen_ok,u_,v_,x_,hs,hy,hr,hlen]
 rw [hrun]
 have hzn : ∀ m,(Builtin.zeroCells z.cells m).size=m * E.size:=fun m=>by simp [Builtin.zeroCells,hzs]
 have hxt:(xs.take (k * E.size)).length=k * E.size:=by rw [hT.1,hkl]
 refine h _ _ _ _ (hf.put h4 _) (hh.fresh_obj _ (rA _) ?_ (fun b hb=>?_))
 · refine⟨by rw [hlen];exact hge,hcm',.inr ⟨w.heap.size,_,(0,0),xs.take (k * E.size) ++ (Builtin.zeroCells z.cells n).toList,⟨rfl,(by show (w.heap.push _)[w.heap.size]? = _;rw [Array.getElem?_push,if_pos rfl]),fun _=>rfl,fun i _ hj=>(by have:=hj.2;simp at this),?_,?_,hT.append (rg hrep hzs n)⟩⟩⟩
   · rw [Array.size_append,Array.size_append,hzn,hzn,q_,hxt,← g_,← g_];congr 1;omega
   · rw [hlen,F_,F_,z_,List.take_left']
     have hz1:(Builtin.zeroCells z.cells n).toList.length=n * E.size:=by rw [p_,hzn]
     rw [a_,hz1,hxt,g_]
 · have hb' : i8 (some ⟨w.heap.size,0,none⟩) (grownCap w (k + n) c e)=some b:=hb
   unfold i8 at hb'
   split at hb'
   · cases hb'
   · injection hb' with hb'
     exact Nat.le_of_eq hb'
theorem mt {f:FuncId} {fn:Func} {x y:Operand} {ts:Array TypeId} {tR tb:TypeId} {s:Nat} {b i j la ca ln cn off:Nat} {vs:List Value} {A' : Option Addr} (ho:o.op = .call { callee:=.value (.func f),args:=#[x,y],argTypes:=ts })
 (hx:evM M x = .slice (some ⟨b,0,none⟩) la ca) (hy:evM M y = .slice A' ln cn)
 (hf : P.funcs[f]? = some fn) (hname : (fn.name == "runtime.NumGoroutine") = false) (hb : fn.body.isNone = true) (hn : Extern.findNext fn = none) (he : Extern.find fn = some (Extern.SlicesOverlaps.overlaps #[t, t] #[tR]))
 (ht:P.underlying t=some (.slice e)) (hz : ∀ w,(Go.sizeOf e).run P w = .ok s w)
 (hh:Hp w0 V H w) (hi:nth H i=some (box b tb vs)) (hj:nth H j=some (kj p e E A c l)) (hij:i≠j) (hA : ∀ g,A=some ⟨g,0,none⟩→A' = some ⟨g,off,none⟩) (hc0:0 < c) (hs0:0 < E.size) :
 (execOp (evM M) o).run P w = .ok (.value (.bool false)) w:=by
 rw [ju] at hi hj
 obtain⟨hlc,hcm,hrow⟩:=hh.objs _ (l_ hj)
 rcases hrow with hz' | ⟨g,cur,fz,xs,hrow⟩
 · omega
 have hbox:w.heap[b]? = some (.cells vs.toArray tb (0,0)):=hh.objs _ (l_ hi)
 have hblk:i8 A c=some g:=by unfold i8;rw [if_neg (by omega),hrow.adr];rfl
 have hne:b≠g:=by
  intro hbg
  subst hbg
  have hsep:=hh.sep
  have hil:=(t_.1 hi).1
  have hjl:=(t_.1 hj).1
  rw [List.pairwise_iff_getElem] at hsep
  have ei:=(t_.1 hi).2
  have ej:=(t_.1 hj).2
  rcases Nat.lt_or_gt_of_ne hij with hlt | hlt
  · have:=hsep i j hil hjl hlt
    rw [ei,ej] at this
    exact this b rfl hblk
  · have:=hsep j i hjl hil hlt
    rw [ei,ej] at this
    exact this b hblk rfl
 have hA2:=hA g hrow.adr
 subst hA2
 have hsa:w.shape? b=some (tb,vs.length):=by simp [World.shape?,hbox]
 have hsb:w.shape? g=some (e,cur.size):=by simp [World.shape?,hrow.heap]
 have hr:=run_callFunc_extern hf hname hb hn he #[.slice (some ⟨b,0,none⟩) la ca,.slice (some ⟨g,off,none⟩) ln cn] w
 rw [Lib.run_overlaps_apart w t tR e ht s hz ⟨b,0,none⟩ ⟨g,off,none⟩ la ca ln cn hne tb e vs.length cur.size hsa hsb (by rw [hrow.size];exact Nat.ne_of_gt (C_ hc0 hs0)) (by simp [World.frozen?,hbox]) (by simp [World.frozen?,hbox]),Result.andThen_ok] at hr
 obtain⟨d,op,ty,ps,af,gd⟩:=o
 subst ho
 have e1:evM M (.func f) = .func (.func f) #[] #[]:=rfl
 simp [execOp,resolve,e1,Deferred.ofValue,invoke,hx,hy,hr]
def js (l:List α) (k:Nat) (x:α) : List α:=l.take k ++ x::l.drop k
def jX (l:List α) (i j:Nat) : List α:=l.take i ++ l.drop j
theorem kE {l:List α} {k:Nat} (x:α) (hk:k≤l.length) : (js l k x).length=l.length + 1:=by
 simp only [js,a_,d_,List.length_cons,o_];omega
theorem lP (l:List α) (x:α) : js l l.length x=l ++ [x]:=by simp [js]
theorem qe {l m:List α} {k:Nat} (h:l.length=k) : (l ++ m).take k=l:=by subst h;simp
theorem pQ {l m:List α} {k:Nat} (h:l.length=k) : (l ++ m).drop k=m:=by subst h;simp
theorem oP {l:List α} {k n:Nat} (x:α) (hk:k < l.length) (hn:0 < n) : over (l.take (k + 1) ++ l.drop k) k ([x].take n)=js l k x:=by
 have hx : [x].take n=[x]:=D_ (show [x].length≤n from hn)
 rw [hx]
 unfold over js
 have h1:(l.take (k + 1)).length=k + 1:=by rw [d_];omega
 rw [show k + [x].length=k + 1 from rfl,pQ h1,List.take_append_of_le_length (by omega),List.take_take,i_ (by omega)]
 simp
theorem oQ {l:List α} {k n n' : Nat} (x z:α) (hk:k < l.length) (hn:0 < n) (hn' : l.length≤n' + k) : over (over (l.take k ++ j_ (l.length + 1 - k) z) k ([x].take n)) (k + 1) ((l.drop k).take n')=js l k x:=by
 have h1:(l.take k).length=k:=by rw [d_];omega
 have h2:over (l.take k ++ j_ (l.length + 1 - k) z) k ([x].take n)=(l.take k ++ [x]) ++ j_ (l.length - k) z:=by
  have hx : [x].take n=[x]:=D_ (show [x].length≤n from hn)
  rw [hx]
  unfold over
  rw [qe h1]
  congr 1
  rw [show k + [x].length=k + 1 from rfl,← List.drop_drop,pQ h1,G_]
  congr 1;omega
 have hd:(l.drop k).take n' = l.drop k:=D_ (by rw [o_];omega)
 rw [h2,hd]
 unfold over js
 have h3:(l.take k ++ [x]).length=k + 1:=by rw [a_,h1];rfl
 rw [qe h3,← List.drop_drop,pQ h3,G_,o_,Nat.sub_self]
 simp
theorem qY {l:List α} {i j:Nat} {m:List α} (hij:i < j) (hj:j≤l.length) : jX l i j <+: over (over l i (l.drop j)) (i + (l.drop j).length) m:=by
 have h1:(l.take i ++ l.drop j).length=i + (l.drop j).length:=by rw [a_,d_,i_ (by omega)]
 unfold over jX
 rw [qe h1,List.append_assoc]
 exact List.prefix_append _ _
theorem ow {l:List α} {i j:Nat} (hij:i < j) (hj:j≤l.length) : (jX l i j).length=i + (l.drop j).length:=by
 unfold jX;rw [a_,d_,i_ (by omega)]
theorem T.lz {φ:Act→World→Prop} (i:Nat) (hi:nth H i=some (kj p e E A c l)) (q:l.length≤c→c≤maxLen→T N w0 V H M φ) : T N w0 V H M φ:=fun a w hf hh=>by
 have h:=hh.objs _ (by rw [ju] at hi;exact l_ hi)
 exact q h.1 h.2.1 a w hf hh
theorem oK {g lo s c:Nat} (h:A=some ⟨g,0,none⟩) (hlo:lo < c) : iW A c lo s=some ⟨g,lo * s,none⟩:=by
 have:(⟨g,0,none⟩ : Addr).add (lo * s)=⟨g,lo * s,none⟩:=by unfold Addr.add;split <;> simp_all
 unfold iW
 rw [if_neg (by omega),h,Option.map_some,this]
end
def sw {α:Type} (bytes:Nat) (l:List α) (k:Int) (x:α) : Option (List α):=if 0≤k∧k≤(l.length:Int)∧(l.length + 1) * bytes≤140737488355328∧l.length + 1≤maxLen then some (js l k.toNat x) else none
theorem nE {α:Type} {bytes:Nat} {l r:List α} {k:Int} {x:α} (h:sw bytes l k x=some r) : ((k.toNat:Nat) : Int)=k∧k.toNat≤l.length∧od (l.length + 1) bytes=true∧l.length + 1≤maxLen∧js l k.toNat x=r:=by
 unfold sw at h
 split at h
 · rename_i hc
   exact⟨by omega,by omega,decide_eq_true hc.2.2.1,hc.2.2.2,y_.inj h⟩
 · cases h
def sY {α:Type} (l:List α) (i j:Int) : Option (List α):=if 0≤i∧i < j∧j≤(l.length:Int) then some (jX l i.toNat j.toNat) else none
theorem oL {α:Type} {l r:List α} {i j:Int} (h:sY l i j=some r) : ((i.toNat:Nat) : Int)=i∧((j.toNat:Nat) : Int)=j∧i.toNat < j.toNat∧j.toNat≤l.length∧jX l i.toNat j.toNat=r:=by
 unfold sY at h
 split at h
 · rename_i hc
   exact⟨by omega,by omega,by omega,by omega,y_.inj h⟩
 · cases h
end Go.Proofs.YtaoocidchclpnaaGreat
