/- What is written into a row of the call's own beyond its end, and onto a beginning of it: what slices.Insert and slices.Delete do. Its conditions: none. -/
import Derived.Test.YtfbpiogbhkgieaaGreatClearL
import Derived.Lib.AppendZerosOnto
import Derived.Lib.Overlaps
namespace Go.Proofs.YtfbpiogbhkgieaaGreat
open Go.RowKit
set_option linter.unusedVariables false
section
variable {P:Program} {Q:Exit→Act→World→Prop} {M:List (Nat × Value)} {ops:Array Oper} {o:Oper} {N:Sz} {w0 w:World} {V:View} {H:List HObj} {K:Act→World→Prop}
variable {α:Type} {E:Enc α} {p:Bool} {t e:TypeId} {A:Option Addr} {c:Nat} {l:List α}
theorem im {x:Operand} {lx hx:Option Operand} {n s:Nat} {lo hi:Int} {k k' : IntKind} (ho:o.op = .slice t x lx hx none)
 (hxv:evM M x = .slice A n c) (ht:P.underlying t=some (.slice e)) (hs:(sizeOf e).run P w = .ok s w)
 (hlo:match lx with | some y=>evM M y = .int k lo | none=>lo=0) (hhi:match hx with | some y=>evM M y = .int k' hi | none=>hi=n) (h0:0≤lo) (h1:lo≤hi) (h2:hi≤c) :
 (execOp (evM M) o).run P w = .ok (.value (.slice (iM A c lo.toNat s) (hi.toNat - lo.toNat) (c - lo.toNat))) w:=by
 have e1:=@jV P w k' hi c .sliceAcap (by omega) (by omega)
 have e2:=@jV P w k lo hi.toNat .sliceB h0 (by omega)
 cases lx with
 | none =>
  dsimp only at hlo
  subst hlo
  cases hx with
  | none =>
   dsimp only at hhi
   subst hhi
   simp [execOp,ho,hxv,Instr.sliceAt,run_underlying ht,Instr.slice,Instr.sliceBounds,hs,iM]
  | some y =>
   dsimp only at hhi
   simp [execOp,ho,hxv,hhi,Instr.sliceAt,run_underlying ht,Instr.slice,Instr.sliceBounds,hs,iM,e1]
 | some z =>
  dsimp only at hlo
  cases hx with
  | none =>
   dsimp only at hhi
   subst hhi
   rw [show ((n:Int)).toNat=n from Int.toNat_natCast _] at e2
   simp [execOp,ho,hxv,hlo,Instr.sliceAt,run_underlying ht,Instr.slice,Instr.sliceBounds,hs,iM,e2]
  | some y =>
   dsimp only at hhi
   simp [execOp,ho,hxv,hlo,hhi,Instr.sliceAt,run_underlying ht,Instr.slice,Instr.sliceBounds,hs,iM,e1,e2]
theorem od {x lx hx mx:Operand} {n s:Nat} {lo hi mi:Int} {k k' k'' : IntKind} (ho:o.op = .slice t x (some lx) (some hx) (some mx))
 (hxv:evM M x = .slice A n c) (ht:P.underlying t=some (.slice e)) (hs:(sizeOf e).run P w = .ok s w)
 (hlo:evM M lx = .int k lo) (hhi:evM M hx = .int k' hi) (hmi:evM M mx = .int k'' mi) (h0:0≤lo) (h1:lo≤hi) (h2:hi≤mi) (h3:mi≤c) :
 ∃ v,(execOp (evM M) o).run P w = .ok (.value v) w:=by
 have e0:=@jV P w k'' mi c .slice3Acap (by omega) (by omega)
 have e1:=@jV P w k' hi mi.toNat .slice3B (by omega) (by omega)
 have e2:=@jV P w k lo hi.toNat .slice3C h0 (by omega)
 simp [execOp,ho,hxv,hlo,hhi,hmi,Instr.sliceAt,run_underlying ht,Instr.slice,Instr.sliceBounds,hs,e0,e1,e2]
theorem W1.oK (hc:okO N ops M o=true) (hv : ∀ w,Hp w0 V H w→∃ v,(execOp (evM M) o).run P w = .ok (.value v) w) (h : ∀ v,T N w0 V H (io o.dst v M) K) : W1 P Q ops o N w0 V H M K:=fun a w hf hh=>by
 obtain⟨h1,_,_,h4⟩:=i8 hc
 refine⟨iW hf h1,?_⟩
 obtain⟨v,hrun⟩:=hv w hh
 unfold Oper.wp
 rw [jk hc hf,hrun]
 exact h v _ _ (hf.put h4 v) hh
theorem qN {g:Nat} {cur:Array Value} {fz:Nat × Nat} {xs ys:List Value} {m:List α} {lo:Nat} (hrow:RowAt p e E A c l V w g cur fz xs) (hcm:c≤maxLen) (hy:iJ V E ys m) (hlo:lo≤l.length) (hlc:l.length≤c) (hfit:lo + m.length≤c) (hlong:l.length≤lo + m.length) :
 (j8 p e E A c (l.take lo ++ m)).ok V (w.setRow g (cur.toList.take (lo * E.size) ++ ys ++ cur.toList.drop (lo * E.size + ys.length)).toArray):=by
 have hyl:ys.length=m.length * E.size:=hy.1
 have hls:=Nat.mul_le_mul_right E.size hlo
 have hcs:=Nat.mul_le_mul_right E.size hlc
 have hfs:lo * E.size + m.length * E.size≤c * E.size:=by rw [← Nat.add_mul];exact Nat.mul_le_mul_right _ hfit
 have hlen:(cur.toList.take (lo * E.size) ++ ys ++ cur.toList.drop (lo * E.size + ys.length)).length=cur.size:=by
  simp only [List.length_append,List.length_take (l:=cur.toList),List.length_drop,Array.length_toList];rw [hrow.size];omega
 have hl2:(l.take lo ++ m).length=lo + m.length:=by rw [List.length_append,List.length_take,Nat.min_eq_left hlo]
 have hT:=(hrow.rep.takeN lo).append hy
 refine⟨by rw [hl2];exact hfit,hcm,.inr ⟨g,_,fz,_,⟨hrow.adr,setRow_heap w g cur _ e _ hrow.heap,hrow.plain,?_,?_,rfl,?_⟩⟩⟩
 · rw [List.size_toArray,hlen];exact hrow.unfrz
 · rw [List.size_toArray,hlen];exact hrow.size
 · refine(congrArg (fun q=>iJ V E q (l.take lo ++ m)) ?_).mp hT
   have htk:xs.take (lo * E.size)=cur.toList.take (lo * E.size):=by
    rw [← hrow.take,List.take_take,Nat.min_eq_left hls]
   rw [htk,hl2,List.toList_toArray,Nat.add_mul,← hyl]
   have hln:(cur.toList.take (lo * E.size) ++ ys).length=lo * E.size + ys.length:=by
    have hct:cur.toList.length=cur.size:=Array.length_toList
    rw [List.length_append,List.length_take,Nat.min_eq_left (by rw [hct,hrow.size];omega)]
   rw [List.take_left' hln]
theorem rX {g:Nat} {cur:Array Value} {fz:Nat × Nat} {xs ys:List Value} {m:List α} {lo:Nat} (hrow:RowAt p e E A c l V w g cur fz xs) (hcm:c≤maxLen) (hlc:l.length≤c) (hy:iJ V E ys m) (hfit:lo + m.length≤l.length) :
 (j8 p e E A c (over l lo m)).ok V (w.setRow g (cur.toList.take (lo * E.size) ++ ys ++ cur.toList.drop (lo * E.size + ys.length)).toArray):=by
 have hyl:ys.length=m.length * E.size:=hy.1
 have hcs:=Nat.mul_le_mul_right E.size hlc
 have hfs:lo * E.size + ys.length≤l.length * E.size:=by rw [hyl,← Nat.add_mul];exact Nat.mul_le_mul_right _ hfit
 have hlen:(cur.toList.take (lo * E.size) ++ ys ++ cur.toList.drop (lo * E.size + ys.length)).length=cur.size:=by
  simp only [List.length_append,List.length_take (l:=cur.toList),List.length_drop,Array.length_toList];rw [hrow.size];omega
 have hol:(over l lo m).length=l.length:=j5 _ _ _ hfit
 refine⟨by rw [hol];exact hlc,hcm,.inr ⟨g,_,fz,_,⟨hrow.adr,setRow_heap w g cur _ e _ hrow.heap,hrow.plain,?_,?_,rfl,?_⟩⟩⟩
 · rw [List.size_toArray,hlen];exact hrow.unfrz
 · rw [List.size_toArray,hlen];exact hrow.size
 · have hset:=hrow.rep.over hy lo
   refine(congrArg (fun q=>iJ V E q _) ?_).mp hset
   have hxl:xs.length=l.length * E.size:=hrow.rep.1
   rw [hol]
   apply List.ext_getElem?
   intro j
   have hct:cur.toList.length=cur.size:=Array.length_toList
   have hfit2:lo * E.size + ys.length≤cur.toList.length:=by rw [hct,hrow.size];omega
   rw [jW xs ys (lo * E.size) j (by rw [hxl];omega),List.getElem?_take]
   simp only [List.toList_toArray]
   rw [jW cur.toList ys (lo * E.size) j hfit2,← hrow.take,List.getElem?_take]
   by_cases hj:j < l.length * E.size
   · rw [if_pos hj,if_pos hj]
   · rw [if_neg hj,if_neg hj,if_neg (by omega)]
theorem W1.nM (i lo dn sn:Nat) {m:List α} {A2:Option Addr} {c2 dc:Nat} {t' : TypeId} (d x:Operand) (hi:nth H i=some (j8 p e E A c l))
 (hc:okO N ops M o=true) (ho:o.op = .call { callee:=.builtin .copy,args:=#[d,x],argTypes:=#[t,t'] })
 (ht:P.underlying t=some (.slice e)) (hsz : ∀ w,(sizeOf e).run P w = .ok E.size w) (hs0:0 < E.size)
 (hd:evM M d = .slice (iM A c lo E.size) dn dc) (hx:evM M x = .slice A2 sn c2) (hmin:min sn dn=m.length) (h0:0 < m.length) (hlo:lo≤l.length) (hfit:lo + m.length≤c) (hlong:l.length≤lo + m.length)
 (hsrc : ∀ w,Hp w0 V H w→∃ news,iJ V E news m∧mv (vw w) A2 news)
 (h:T N w0 V (H.set i (j8 p e E A c (l.take lo ++ m))) (io o.dst (.int .i64 (m.length:Int)) M) K) : W1 P Q ops o N w0 V H M K:=fun a w hf hh=>by
 obtain⟨g1,_,_,h4⟩:=i8 hc
 rw [jE] at hi
 refine⟨iW hf g1,?_⟩
 obtain⟨hlc,hcm,hrow⟩:=hh.objs _ (List.mem_of_getElem? hi)
 obtain⟨news,hnr,hnl⟩:=hsrc w hh
 have hc0:c≠0:=by omega
 rcases hrow with hz | ⟨g,cur,fz,xs,hrow⟩
 · exact absurd hz hc0
 obtain⟨ad,rfl⟩ : ∃ ad,A2=some ad:=by
  have hp:0 < news.length:=by rw [hnr.1];exact Nat.mul_pos h0 hs0
  obtain⟨ad,h2,_⟩:=hnl 0 _ (List.getElem?_eq_getElem hp)
  exact⟨ad,h2⟩
 have hload:=run_loadCells_list (P:=P) w ad news (fun j u hu=>by
  obtain⟨a',ha,hcell⟩:=hnl j u hu
  injection ha with ha;subst ha;exact hcell)
 rw [hnr.1] at hload
 have hcut:iM A c lo E.size=some ⟨g,lo * E.size,none⟩∨lo=0∧iM A c lo E.size=some ⟨g,lo * E.size,none⟩:=by
  have:(⟨g,0,none⟩ : Addr).add (lo * E.size)=⟨g,lo * E.size,none⟩:=by unfold Addr.add;split <;> simp_all
  left
  unfold iM
  rw [if_neg (by omega),hrow.adr,Option.map_some,this]
 have hcut:iM A c lo E.size=some ⟨g,lo * E.size,none⟩:=by rcases hcut with h | h;exact h;exact h.2
 have hfs:lo * E.size + m.length * E.size≤c * E.size:=by rw [← Nat.add_mul];exact Nat.mul_le_mul_right _ hfit
 have hst:=jR (P:=P) g (lo * E.size) e fz news 0 cur w hrow.heap hrow.unfrz (by rw [hrow.size,hnr.1];omega) (fun u hu=>hnr.one u hu)
 simp only [Nat.add_zero] at hst
 have hr:(Builtin.copy_ #[t,t'] o.type #[.slice (iM A c lo E.size) dn dc,.slice (some ad) sn c2]).run P w = .ok (.int .i64 (m.length:Int)) (w.setRow g (cur.toList.take (lo * E.size) ++ news ++ cur.toList.drop (lo * E.size + news.length)).toArray):=by
  rw [hcut]
  have hmin' : Nat.min sn dn=m.length:=hmin
  generalize m.length=kk at hmin hmin' hload
  simp only [Builtin.copy_,Sem.run_bind,Sem.run_pure,Result.andThen_ok,run_underlying ht,Builtin.lenOf,Builtin.firstCells,hsz,hmin,hload,hst,goInt,List.getElem?_toArray,List.getElem?_cons_zero,List.getElem?_cons_succ]
 unfold Oper.wp
 rw [jk hc hf]
 have hrun:(execOp (evM M) o).run P w = .ok (.value (.int .i64 (m.length:Int))) (w.setRow g (cur.toList.take (lo * E.size) ++ news ++ cur.toList.drop (lo * E.size + news.length)).toArray):=by
  simp only [execOp,ho,resolve,invoke,builtin,Sem.run_bind,Sem.run_pure,Result.andThen_ok,List.map_toArray,List.map_cons,List.map_nil,hd,hx,hr]
 rw [hrun]
 have hblk:jc A c=some g:=by unfold jc;rw [if_neg hc0,hrow.adr];rfl
 exact h _ _ (hf.put h4 _) (hh.turn (o:=some g) hi ⟨rfl,rfl,rfl,by simp,fun b _ hb=>setRow_other w g b _ (fun e=>hb (by rw [e]))⟩ (qN hrow hcm hnr hlo hlc hfit hlong) (fun b hb=>.inl hb) (fun b hb=>by rw [← Option.some.inj hb];exact hblk))
theorem W1.ld (i k:Nat) {m:List α} {A2:Option Addr} {c2:Nat} (s x:Operand) (ti:TypeInfo) (hi:nth H i=some (row e E A c l)) (hk:k + m.length≤l.length)
 (hc:okO N ops M o=true) (ho:o.op = .call { callee:=.builtin .append,args:=#[s,x],argTypes:=#[t,t] })
 (ht:P.underlying t=some (.slice e)) (hti:P.info? e=some ti) (hsize:ti.size=E.size) (hs0:0 < E.size)
 (hs:evM M s = .slice A k c) (hx:evM M x = .slice A2 m.length c2) (hsrc : ∀ w,Hp w0 V H w→∃ news,iJ V E news m∧mv (vw w) A2 news)
 (h:T N w0 V (H.set i (row e E A c (over l k m))) (io o.dst (.slice A (k + m.length) c) M) K) : W1 P Q ops o N w0 V H M K:=fun a w hf hh=>by
 obtain⟨g1,_,_,h4⟩:=i8 hc
 rw [jE] at hi
 refine⟨iW hf g1,?_⟩
 obtain⟨hlc,hcm,hrow⟩:=hh.objs _ (List.mem_of_getElem? hi)
 obtain⟨news,hnr,hnl⟩:=hsrc w hh
 unfold Oper.wp
 rw [jk hc hf]
 rcases Nat.eq_zero_or_pos m.length with hm0 | hm0
 · have hm:m=[]:=List.eq_nil_of_length_eq_zero hm0
   subst hm
   have hr:=mc (P:=P) w t o.type e ti ht hti A A2 k c (by simp at hk;omega) c2
   have hrun:(execOp (evM M) o).run P w = .ok (.value (.slice A k c)) w:=by
    simp only [execOp,ho,resolve,invoke,builtin,Sem.run_bind,Sem.run_pure,Result.andThen_ok,List.map_toArray,List.map_cons,List.map_nil,hs,hx,List.length_nil,hr]
   rw [hrun]
   have hov:over l k ([] : List α)=l:=by simp [over]
   rw [hov] at h
   have hsame:H.set i (row e E A c l)=H:=List.ext_getElem? fun j=>by
    rw [List.getElem?_set]
    split
    · rename_i ej;subst ej;rw [if_pos (List.getElem?_eq_some_iff.1 hi).1,hi]
    · rfl
   rw [hsame] at h
   exact h _ _ (hf.put h4 _) hh
 have hc0:c≠0:=by omega
 rcases hrow with hz | ⟨g,cur,fz,xs,hrow⟩
 · exact absurd hz hc0
 obtain⟨ad,rfl⟩ : ∃ ad,A2=some ad:=by
  have hp:0 < news.length:=by rw [hnr.1];exact Nat.mul_pos hm0 hs0
  obtain⟨ad,h2,_⟩:=hnl 0 _ (List.getElem?_eq_getElem hp)
  exact⟨ad,h2⟩
 obtain rfl:fz=(0,0):=hrow.plain rfl
 have hfs:k * E.size + m.length * E.size≤l.length * E.size:=by rw [← Nat.add_mul];exact Nat.mul_le_mul_right _ hk
 have hcs:=Nat.mul_le_mul_right E.size hlc
 have hr:=run_append_room (P:=P) w t o.type e ti ht hti g k c cur hrow.heap ad m.length c2 news (by rw [hsize];exact hnr.1) (fun j u hu=>by
  obtain⟨a',ha,hcell⟩:=hnl j u hu
  injection ha with ha;subst ha;exact hcell) (fun u hu=>hnr.one u hu) (by omega) (by rw [hsize,hnr.1,hrow.size];omega)
 rw [hsize] at hr
 have hrun:(execOp (evM M) o).run P w = .ok (.value (.slice A (k + m.length) c)) (w.setRow g (cur.toList.take (k * E.size) ++ news ++ cur.toList.drop (k * E.size + news.length)).toArray):=by
  simp only [execOp,ho,resolve,invoke,builtin,Sem.run_bind,Sem.run_pure,Result.andThen_ok,List.map_toArray,List.map_cons,List.map_nil,hs,hx,hrow.adr,hr]
 rw [hrun]
 have hblk:jc A c=some g:=by unfold jc;rw [if_neg hc0,hrow.adr];rfl
 exact h _ _ (hf.put h4 _) (hh.turn (o:=some g) hi ⟨rfl,rfl,rfl,by simp,fun b _ hb=>setRow_other w g b _ (fun e=>hb (by rw [e]))⟩ (rX hrow hcm hlc hnr hk) (fun b hb=>.inl hb) (fun b hb=>by rw [← Option.some.inj hb];exact hblk))
theorem W1.nh (i k n:Nat) {x:α} {z:Value} {tn:TypeId} {kq kn:IntKind} (s y:Operand) (bytes:Nat) (ti:TypeInfo) (hi:nth H i=some (j8 p e E A c l)) (hk:k≤l.length) (hcp:0 < c) (h0:0 < n) (hg:c < k + n)
 (hc:okO N ops M o=true) (ho:o.op = .call { callee:=.builtin .append,args:=#[s,y],argTypes:=#[t,tn] })
 (ht:P.underlying t=some (.slice e)) (htn:P.underlying tn=some (.int kn)) (hti:P.info? e=some ti) (hz:ti.zero=some z) (hsize:ti.size=E.size) (hby:ti.bytes=bytes) (hrep : ∀ V,E.rep V z.cells.toList x) (hzs:z.cells.size=E.size) (hs0:0 < E.size)
 (hs:evM M s = .slice A k c) (hy:evM M y = .int kq (n:Int)) (hroom:mn (k + n) bytes=true) (hmax:k + n≤maxLen)
 (h : ∀ A' c',T N w0 V (row e E A' c' (l.take k ++ List.replicate n x)::H) (io o.dst (.slice A' (l.take k ++ List.replicate n x).length c') M) K) : W1 P Q ops o N w0 V H M K:=fun a w hf hh=>by
 obtain⟨g1,_,_,h4⟩:=i8 hc
 rw [jE] at hi
 refine⟨iW hf g1,?_⟩
 obtain⟨hlc,hcm,hrow⟩:=hh.objs _ (List.mem_of_getElem? hi)
 rcases hrow with hz' | ⟨g,cur,fz,xs,hrow⟩
 · omega
 have hbytes:(k + n) * bytes≤140737488355328:=of_decide_eq_true hroom
 have hnb:n * bytes≤(k + n) * bytes:=Nat.mul_le_mul_right _ (by omega)
 have hT:=hrow.rep.takeN k
 have hkl:(l.take k).length=k:=by rw [List.length_take,Nat.min_eq_left hk]
 have hold:(Builtin.firstCells ti.size k (.slice A k c)).run P w.drew = .ok (xs.take (k * E.size)).toArray w.drew:=by
  rw [hrow.adr,hsize]
  refine run_firstCells_some (P:=P) w.drew E.size k ⟨g,0,none⟩ k c _ (by rw [hT.1,hkl]) (fun j v hj=>?_)
  rw [List.getElem?_take] at hj
  split at hj
  · obtain⟨a',ha,hcell⟩:=hrow.cells j v hj
    rw [hrow.adr] at ha
    injection ha with ha;subst ha;exact hcell
  · cases hj
 have hr:=Lib.run_append_grow_zeros (P:=P) w t tn o.type e ti z kq kn ht htn hti hz A k c _ hold n h0 (by rw [hsize];exact hs0) hg (by unfold maxLen at hmax;omega) (by rw [hby];omega) (by rw [hby];exact growslice_fits hg hbytes)
 have hge:=grownCap_ge w (k + n) c e
 have hcm':=grownCap_le_maxLen w (k + n) c e hmax
 have hlen:(l.take k ++ List.replicate n x).length=k + n:=by rw [List.length_append,hkl,List.length_replicate]
 unfold Oper.wp
 rw [jk hc hf]
 have hrun:(execOp (evM M) o).run P w = .ok (.value (.slice (some ⟨w.heap.size,0,none⟩) (l.take k ++ List.replicate n x).length (grownCap w (k + n) c e))) (w.drew.alloc (.cells ((xs.take (k * E.size)).toArray ++ Builtin.zeroCells z.cells n ++ Builtin.zeroCells z.cells (grownCap w (k + n) c e - (k + n))) e)):=by
  simp only [execOp,ho,resolve,invoke,builtin,Sem.run_bind,Sem.run_pure,Result.andThen_ok,List.map_toArray,List.map_cons,List.map_nil,hs,hy,hr,hlen]
 rw [hrun]
 have hzn : ∀ m,(Builtin.zeroCells z.cells m).size=m * E.size:=fun m=>by simp [Builtin.zeroCells,hzs]
 have hxt:(xs.take (k * E.size)).length=k * E.size:=by rw [hT.1,hkl]
 refine h _ _ _ _ (hf.put h4 _) (hh.fresh_obj _ (qD _) ?_ (fun b hb=>?_))
 · refine⟨by rw [hlen];exact hge,hcm',.inr ⟨w.heap.size,_,(0,0),xs.take (k * E.size) ++ (Builtin.zeroCells z.cells n).toList,⟨rfl,(by show (w.heap.push _)[w.heap.size]? = _;rw [Array.getElem?_push,if_pos rfl]),fun _=>rfl,fun i _ hj=>(by have:=hj.2;simp at this),?_,?_,hT.append (qp hrep hzs n)⟩⟩⟩
   · rw [Array.size_append,Array.size_append,hzn,hzn,List.size_toArray,hxt,← Nat.add_mul,← Nat.add_mul];congr 1;omega
   · rw [hlen,Array.toList_append,Array.toList_append,List.toList_toArray,List.take_left']
     have hz1:(Builtin.zeroCells z.cells n).toList.length=n * E.size:=by rw [Array.length_toList,hzn]
     rw [List.length_append,hz1,hxt,Nat.add_mul]
 · have hb' : jc (some ⟨w.heap.size,0,none⟩) (grownCap w (k + n) c e)=some b:=hb
   unfold jc at hb'
   split at hb'
   · cases hb'
   · injection hb' with hb'
     exact Nat.le_of_eq hb'
theorem lU {f:FuncId} {fn:Func} {x y:Operand} {ts:Array TypeId} {tR tb:TypeId} {s:Nat} {b i j la ca ln cn off:Nat} {vs:List Value} {A' : Option Addr} (ho:o.op = .call { callee:=.value (.func f),args:=#[x,y],argTypes:=ts })
 (hx:evM M x = .slice (some ⟨b,0,none⟩) la ca) (hy:evM M y = .slice A' ln cn)
 (hf : P.funcs[f]? = some fn) (hname : (fn.name == "runtime.NumGoroutine") = false) (hb : fn.body.isNone = true) (hn : Extern.findNext fn = none) (he : Extern.find fn = some (Extern.SlicesOverlaps.overlaps #[t, t] #[tR]))
 (ht:P.underlying t=some (.slice e)) (hz : ∀ w,(Go.sizeOf e).run P w = .ok s w)
 (hh:Hp w0 V H w) (hi:nth H i=some (box b tb vs)) (hj:nth H j=some (j8 p e E A c l)) (hij:i≠j) (hA : ∀ g,A=some ⟨g,0,none⟩→A' = some ⟨g,off,none⟩) (hc0:0 < c) (hs0:0 < E.size) :
 (execOp (evM M) o).run P w = .ok (.value (.bool false)) w:=by
 rw [jE] at hi hj
 obtain⟨hlc,hcm,hrow⟩:=hh.objs _ (List.mem_of_getElem? hj)
 rcases hrow with hz' | ⟨g,cur,fz,xs,hrow⟩
 · omega
 have hbox:w.heap[b]? = some (.cells vs.toArray tb (0,0)):=hh.objs _ (List.mem_of_getElem? hi)
 have hblk:jc A c=some g:=by unfold jc;rw [if_neg (by omega),hrow.adr];rfl
 have hne:b≠g:=by
  intro hbg
  subst hbg
  have hsep:=hh.sep
  have hil:=(List.getElem?_eq_some_iff.1 hi).1
  have hjl:=(List.getElem?_eq_some_iff.1 hj).1
  rw [List.pairwise_iff_getElem] at hsep
  have ei:=(List.getElem?_eq_some_iff.1 hi).2
  have ej:=(List.getElem?_eq_some_iff.1 hj).2
  rcases Nat.lt_or_gt_of_ne hij with hlt | hlt
  · have:=hsep i j hil hjl hlt
    rw [ei,ej] at this
    exact this b rfl hblk
  · have:=hsep j i hjl hil hlt
    rw [ei,ej] at this
    exact this b hblk rfl
 have hA2:=hA g hrow.adr
 subst hA2
 have hsa:w.shape? b=some (tb,vs.length):=by simp [World.shape?,hbox]
 have hsb:w.shape? g=some (e,cur.size):=by simp [World.shape?,hrow.heap]
 have hr:=run_callFunc_extern hf hname hb hn he #[.slice (some ⟨b,0,none⟩) la ca,.slice (some ⟨g,off,none⟩) ln cn] w
 rw [Lib.run_overlaps_apart w t tR e ht s hz ⟨b,0,none⟩ ⟨g,off,none⟩ la ca ln cn hne tb e vs.length cur.size hsa hsb (by rw [hrow.size];exact Nat.ne_of_gt (Nat.mul_pos hc0 hs0)) (by simp [World.frozen?,hbox]) (by simp [World.frozen?,hbox]),Result.andThen_ok] at hr
 obtain⟨d,op,ty,ps,af,gd⟩:=o
 subst ho
 have e1:evM M (.func f) = .func (.func f) #[] #[]:=rfl
 simp [execOp,resolve,e1,Deferred.ofValue,invoke,hx,hy,hr]
def jn (l:List α) (k:Nat) (x:α) : List α:=l.take k ++ x::l.drop k
def jM (l:List α) (i j:Nat) : List α:=l.take i ++ l.drop j
theorem kD {l:List α} {k:Nat} (x:α) (hk:k≤l.length) : (jn l k x).length=l.length + 1:=by
 simp only [jn,List.length_append,List.length_take,List.length_cons,List.length_drop];omega
theorem lw (l:List α) (x:α) : jn l l.length x=l ++ [x]:=by simp [jn]
theorem pn {l m:List α} {k:Nat} (h:l.length=k) : (l ++ m).take k=l:=by subst h;simp
theorem oP {l m:List α} {k:Nat} (h:l.length=k) : (l ++ m).drop k=m:=by subst h;simp
theorem nW {l:List α} {k n:Nat} (x:α) (hk:k < l.length) (hn:0 < n) : over (l.take (k + 1) ++ l.drop k) k ([x].take n)=jn l k x:=by
 have hx : [x].take n=[x]:=List.take_of_length_le (show [x].length≤n from hn)
 rw [hx]
 unfold over jn
 have h1:(l.take (k + 1)).length=k + 1:=by rw [List.length_take];omega
 rw [show k + [x].length=k + 1 from rfl,oP h1,List.take_append_of_le_length (by omega),List.take_take,Nat.min_eq_left (by omega)]
 simp
theorem nX {l:List α} {k n n' : Nat} (x z:α) (hk:k < l.length) (hn:0 < n) (hn' : l.length≤n' + k) : over (over (l.take k ++ List.replicate (l.length + 1 - k) z) k ([x].take n)) (k + 1) ((l.drop k).take n')=jn l k x:=by
 have h1:(l.take k).length=k:=by rw [List.length_take];omega
 have h2:over (l.take k ++ List.replicate (l.length + 1 - k) z) k ([x].take n)=(l.take k ++ [x]) ++ List.replicate (l.length - k) z:=by
  have hx : [x].take n=[x]:=List.take_of_length_le (show [x].length≤n from hn)
  rw [hx]
  unfold over
  rw [pn h1]
  congr 1
  rw [show k + [x].length=k + 1 from rfl,← List.drop_drop,oP h1,List.drop_replicate]
  congr 1;omega
 have hd:(l.drop k).take n' = l.drop k:=List.take_of_length_le (by rw [List.length_drop];omega)
 rw [h2,hd]
 unfold over jn
 have h3:(l.take k ++ [x]).length=k + 1:=by rw [List.length_append,h1];rfl
 rw [pn h3,← List.drop_drop,oP h3,List.drop_replicate,List.length_drop,Nat.sub_self]
 simp
theorem qm {l:List α} {i j:Nat} {m:List α} (hij:i < j) (hj:j≤l.length) : jM l i j <+: over (over l i (l.drop j)) (i + (l.drop j).length) m:=by
 have h1:(l.take i ++ l.drop j).length=i + (l.drop j).length:=by rw [List.length_append,List.length_take,Nat.min_eq_left (by omega)]
 unfold over jM
 rw [pn h1,List.append_assoc]
 exact List.prefix_append _ _
theorem nE {l:List α} {i j:Nat} (hij:i < j) (hj:j≤l.length) : (jM l i j).length=i + (l.drop j).length:=by
 unfold jM;rw [List.length_append,List.length_take,Nat.min_eq_left (by omega)]
theorem T.jY {φ:Act→World→Prop} (i:Nat) (hi:nth H i=some (j8 p e E A c l)) (q:l.length≤c→c≤maxLen→T N w0 V H M φ) : T N w0 V H M φ:=fun a w hf hh=>by
 have h:=hh.objs _ (by rw [jE] at hi;exact List.mem_of_getElem? hi)
 exact q h.1 h.2.1 a w hf hh
theorem nN {g lo s c:Nat} (h:A=some ⟨g,0,none⟩) (hlo:lo < c) : iM A c lo s=some ⟨g,lo * s,none⟩:=by
 have:(⟨g,0,none⟩ : Addr).add (lo * s)=⟨g,lo * s,none⟩:=by unfold Addr.add;split <;> simp_all
 unfold iM
 rw [if_neg (by omega),h,Option.map_some,this]
end
def rm {α:Type} (bytes:Nat) (l:List α) (k:Int) (x:α) : Option (List α):=if 0≤k∧k≤(l.length:Int)∧(l.length + 1) * bytes≤140737488355328∧l.length + 1≤maxLen then some (jn l k.toNat x) else none
theorem mR {α:Type} {bytes:Nat} {l r:List α} {k:Int} {x:α} (h:rm bytes l k x=some r) : ((k.toNat:Nat) : Int)=k∧k.toNat≤l.length∧mn (l.length + 1) bytes=true∧l.length + 1≤maxLen∧jn l k.toNat x=r:=by
 unfold rm at h
 split at h
 · rename_i hc
   exact⟨by omega,by omega,decide_eq_true hc.2.2.1,hc.2.2.2,Option.some.inj h⟩
 · cases h
def rK {α:Type} (l:List α) (i j:Int) : Option (List α):=if 0≤i∧i < j∧j≤(l.length:Int) then some (jM l i.toNat j.toNat) else none
theorem nO {α:Type} {l r:List α} {i j:Int} (h:rK l i j=some r) : ((i.toNat:Nat) : Int)=i∧((j.toNat:Nat) : Int)=j∧i.toNat < j.toNat∧j.toNat≤l.length∧jM l i.toNat j.toNat=r:=by
 unfold rK at h
 split at h
 · rename_i hc
   exact⟨by omega,by omega,by omega,by omega,Option.some.inj h⟩
 · cases h
end Go.Proofs.YtfbpiogbhkgieaaGreat
