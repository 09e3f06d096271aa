/- Rules for lists with room behind them: loops by so many rounds, stores behind a list, rows that a call hands on. Its conditions: none. -/
import Derived.Test.YtfbpiogbhkgieaaGreatShAL
import Derived.Test.YtfbpiogbhkgieaaGreatInsL
import Derived.Test.YtfbpiogbhkgieaaGreatEqLL
import Derived.LoopNIn
namespace Go.Proofs.YtfbpiogbhkgieaaGreat
open Go.RowKit
set_option linter.unusedVariables false
set_option linter.unusedSimpArgs false
section
variable {rl:Option Nat} {P:Program} {N:Sz} {w0:World} {V:View} {H:List HObj} {M:List (Nat × Value)} {Q:Exit→Act→World→Prop} {c:Code}
theorem T.jT {id:Nat} {Q:Exit→Act→World→Prop} (h:T N w0 V H M (Q .normal)) : T N w0 V H M (Exit.inBlock id Q (.exit id)):=fun a w hf hh=>by
 show (if id=id then _ else _)
 rw [if_pos rfl];exact h a w hf hh
theorem T.kh (n:Nat) (I:Nat→Act→World→Prop) (h0:T N w0 V H M (I 0)) (step : ∀ k,k < n→∀ a w,I k a w→c.wpIn (RF rl) 0 P (Exit.then (I (k + 1)) Q) a w)
 (stop : ∀ a w,I n a w→c.wpIn (RF rl) 0 P (Exit.then (fun _ _=>False) Q) a w) : T N w0 V H M ((Code.loop c).wpIn (RF rl) 0 P Q):=fun a w hf hh=>by
 refine wpIn_loop_rounds (n + 1) ?_
 have key : ∀ m k,k + m=n→∀ a w,I k a w→Code.roundsIn (RF rl) 0 P c Q (m + 1) a w:=by
  intro m
  induction m with
  | zero =>
   intro k hk a w hi
   obtain rfl:k=n:=by omega
   rw [roundsIn_succ]
   exact Go.wpIn_mono (stop a w hi) (fun e a1 w1 hq=>by cases e <;> first | exact hq.elim | exact hq)
  | succ m ih =>
   intro k hk a w hi
   rw [roundsIn_succ]
   exact Go.wpIn_mono (step k (by omega) a w hi) (fun e a1 w1 hq=>by cases e <;> first | exact ih (k + 1) (by omega) a1 w1 hq | exact hq)
 exact key n 0 (by omega) a w (h0 a w hf hh)
end
section
variable {P:Program} {α:Type} {N:Sz} {w0:World} {V:View} {H:List HObj} {M:List (Nat × Value)} {ops:Array Oper} {Q:Exit→Act→World→Prop} {o:Oper} {K:Act→World→Prop} {E:Enc α} {p:Bool} {t e:TypeId} {A:Option Addr} {c:Nat} {l:List α}
theorem W1.kx (i:Nat) (x:α) (a:Addr) {vs:List Value} {t' : TypeId} {q y:Operand} {v:Value} (hi:nth H i=some (j8 p e E A c l)) (hlt:l.length < c) (hc:okO N ops M o=true) (ho:o.op = .store t' q y)
 (hq:evM M q = .pointer (some a)) (ha:a=(iC A).add (l.length * E.size)) (hy:evM M y=v) (hvs:v.cells=vs.toArray) (hs : ∀ w,(sizeOf t').run P w = .ok vs.length w) (h1 : ∀ u∈vs,u.oneCell' = true)
 (hlen:vs.length=E.size) (hst : ∀ V,E.rep V vs x)
 (h:T N w0 V (H.set i (j8 p e E A c (l ++ [x]))) (io o.dst undef M) K) : W1 P Q ops o N w0 V H M K:=fun a' w hf hh=>by
 obtain⟨g1,_,_,h4⟩:=i8 hc
 rw [jE] at hi
 refine⟨iW hf g1,?_⟩
 obtain⟨hlc,hcm,hrow⟩:=hh.objs _ (List.mem_of_getElem? hi)
 have hc0:c≠0:=by omega
 rcases hrow with h0 | ⟨g,cur,fz,xs,hrow⟩
 · exact absurd h0 hc0
 have hadr:a=⟨g,l.length * E.size,none⟩:=by
  rw [ha,hrow.adr]
  simp only [iC,Option.getD_some]
  unfold Addr.add
  split <;> simp_all
 have hfit:l.length * E.size + vs.length≤cur.size:=by
  have:=Nat.mul_le_mul_right E.size (show l.length + 1≤c from hlt)
  rw [Nat.add_mul,Nat.one_mul] at this
  rw [hrow.size,hlen];exact this
 have hsto:=jR (P:=P) g (l.length * E.size) e fz vs 0 cur w hrow.heap hrow.unfrz (by simpa using hfit) h1
 simp only [Nat.add_zero] at hsto
 have hrun:(execOp (evM M) o).run P w = .ok .skip (w.setRow g (cur.toList.take (l.length * E.size) ++ vs ++ cur.toList.drop (l.length * E.size + vs.length)).toArray):=by
  simp [execOp,ho,hq,hy,hadr,Instr.storeAt,Instr.sureAddr,storeVar,hvs,hs w,hsto]
 unfold Oper.wp
 rw [jk hc hf,hrun]
 have hblk : ∀ l:List α,(j8 p e E A c l).own g:=fun l=>by
  show jc A c=some g
  unfold jc;rw [if_neg hc0,hrow.adr];rfl
 refine h _ _ (hf.put h4 _) (hh.turn (o:=some g) hi ?_ ?_ (fun b hb=>.inl hb) (fun b e=>by rw [← Option.some.inj e];exact hblk _))
 · exact⟨rfl,rfl,rfl,by simp,fun b _ hb=>setRow_other w g b _ (fun e=>hb (by rw [e]))⟩
 · have hlen' : (cur.toList.take (l.length * E.size) ++ vs ++ cur.toList.drop (l.length * E.size + vs.length)).length = cur.size := by
    simp only [List.length_append,List.length_take,List.length_drop,Array.length_toList];omega
   have hone:iJ V E vs [x]:=by
    refine⟨by rw [hlen];simp,fun k z hk=>?_⟩
    cases k with
    | zero =>
     obtain rfl:=Option.some.inj hk
     rw [Nat.zero_mul,List.drop_zero,List.take_of_length_le (by omega)];exact hst V
    | succ k=>simp at hk
   refine⟨by rw [List.length_append];exact hlt,hcm,.inr ⟨g,_,fz,_,⟨hrow.adr,setRow_heap w g cur _ e _ hrow.heap,hrow.plain,?_,?_,rfl,?_⟩⟩⟩
   · rw [List.size_toArray,hlen'];exact hrow.unfrz
   · rw [List.size_toArray,hlen'];exact hrow.size
   · refine(congrArg (fun q=>iJ V E q (l ++ [x])) ?_).mp (hrow.rep.append hone)
     have hxl:xs.length=l.length * E.size:=hrow.rep.1
     have e1:cur.toList.take (l.length * E.size)=xs:=hrow.take
     have e2:(l ++ [x]).length * E.size=xs.length + vs.length:=by rw [List.length_append,hxl,hlen,Nat.add_mul];simp
     simp only [List.toList_toArray]
     rw [e1,e2,List.append_assoc,List.take_append]
     simp
     exact(List.take_of_length_le (by omega)).symm
theorem W1.oL (m n:Nat) (x:α) (ln cp:Operand) (kl kc:IntKind) (bytes:Nat) (ti:TypeInfo) (z:Value)
 (hc:okO N ops M o=true) (ho:o.op = .makeSlice t ln cp) (ht:P.underlying t=some (.slice e)) (hti:P.info? e=some ti) (hz:ti.zero=some z) (hsize:ti.size=E.size) (hby:ti.bytes=bytes)
 (hl:evM M ln = .int kl (m:Int)) (hcp:evM M cp = .int kc (n:Int)) (hmn:m≤n) (hrep : ∀ V,E.rep V z.cells.toList x) (hzs:z.cells.size=E.size)
 (hroom:mn n bytes=true) (hmax:n≤maxLen)
 (h : ∀ b,T N w0 V (row e E (some ⟨b,0,none⟩) n (List.replicate n x)::H) (io o.dst (.slice (some ⟨b,0,none⟩) m n) M) K) : W1 P Q ops o N w0 V H M K:=fun a w hf hh=>by
 obtain⟨h1,_,_,h4⟩:=i8 hc
 refine⟨iW hf h1,?_⟩
 have hbytes:n * bytes≤140737488355328:=of_decide_eq_true hroom
 have hb' : (ti.bytes:Int) * (n:Int)≤281474976710656:=by
  have h:((ti.bytes * n:Nat) : Int)≤281474976710656:=by rw [hby,Nat.mul_comm];omega
  rwa [Int.natCast_mul] at h
 have hr:=run_make (P:=P) w t e ti z ht hti hz kl kc (m:Int) (n:Int) (by omega) (by omega) hb' (by unfold maxLen at hmax;omega)
 simp only [Int.toNat_natCast] at hr
 have hown:(w.alloc (.cells (madeCells z.cells (n * ti.size)) e)).ownsRow 0 e ti.size (.slice (some ⟨w.heap.size,0,none⟩) n n) n (madeCells z.cells (n * ti.size)).toList:=World.ownsRow_lit w _ n (Nat.zero_le _) hmax (size_madeCells _ _)
 have hg:=World.grownBy_alloc w (.cells (madeCells z.cells (n * ti.size)) e) none
 rw [hsize] at hr hown hg
 unfold Oper.wp
 rw [jk hc hf]
 have hrun:(execOp (evM M) o).run P w = .ok (.value (.slice (some ⟨w.heap.size,0,none⟩) m n)) (w.alloc (.cells (madeCells z.cells (n * E.size)) e)):=by
  simp only [execOp,ho,hl,hcp,Sem.run_bind,Sem.run_pure,Result.andThen_ok,hr]
 rw [hrun]
 have hown' : (w.alloc (.cells (madeCells z.cells (n * E.size)) e)).ownsRow 0 e E.size (.slice (some ⟨w.heap.size,0,none⟩) (List.replicate n x).length n) (List.replicate n x).length (madeCells z.cells (n * E.size)).toList:=by
  rw [List.length_replicate];exact hown
 refine h _ _ _ (hf.put h4 _) (hh.fresh_obj _ hg (mq hown' ⟨by rw [List.length_replicate];exact hown.1,fun k y hk=>?_⟩) (fun b hb=>?_))
 · have hkn : k < n := by
    have:=(List.getElem?_eq_some_iff.1 hk).1
    simpa using this
   have hyx:y=x:=List.eq_of_mem_replicate (List.mem_of_getElem? hk)
   subst hyx
   refine(congrArg (fun q=>E.rep V q y) ?_).mpr (hrep V)
   apply List.ext_getElem?
   intro j
   rw [List.getElem?_take]
   have hkk:k * E.size + E.size≤n * E.size:=by
    have:=Nat.mul_le_mul_right E.size (show k + 1≤n from hkn)
    rw [Nat.add_mul,Nat.one_mul] at this
    exact this
   split
   · rename_i hj
     have hjz:j < z.cells.size:=by omega
     have hlt:k * E.size + j < n * E.size:=by omega
     have hmod:(k * E.size + j) % E.size=j:=by rw [Nat.mul_comm,Nat.mul_add_mod,Nat.mod_eq_of_lt hj]
     rw [List.getElem?_drop,Array.getElem?_toList,Array.getElem?_toList]
     have he:z.cells[j]? = some z.cells[j]!:=by rw [Array.getElem?_eq_getElem hjz,getElem!_pos z.cells j hjz]
     simp [madeCells,hzs,hmod,hlt,he]
   · rename_i hj
     rw [List.getElem?_eq_none]
     simp;omega
 · have hb' : jc (some ⟨w.heap.size,0,none⟩) n=some b:=hb
   unfold jc at hb'
   split at hb'
   · cases hb'
   · injection hb' with hb'
     exact Nat.le_of_eq hb'
theorem Hp.row_some {w:World} (hh:Hp w0 V H w) {i:Nat} (hi:nth H i=some (j8 p e E A c l)) (hc:0 < c) : A.isSome=true:=by
 rw [jE] at hi
 obtain⟨_,_,h0 | ⟨g,cur,fz,xs,hrow⟩⟩:=hh.objs _ (List.mem_of_getElem? hi)
 · omega
 · rw [hrow.adr];rfl
end
theorem Hp.objs_at {α:Type} {w0:World} {V:View} {H:List HObj} {w:World} {p:Bool} {e:TypeId} {E:Enc α} {A:Option Addr} {c:Nat} {l:List α} (hh:Hp w0 V H w) {i:Nat} (hi:nth H i=some (j8 p e E A c l)) : l.length≤c:=by
 rw [jE] at hi
 exact(hh.objs _ (List.mem_of_getElem? hi)).1
end Go.Proofs.YtfbpiogbhkgieaaGreat
