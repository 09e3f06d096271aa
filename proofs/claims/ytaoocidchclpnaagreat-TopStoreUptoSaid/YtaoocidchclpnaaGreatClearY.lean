/- A part of a row turned to nought: Go's clear. Its conditions: none. -/
import Derived.Test.YtaoocidchclpnaaGreatOpsY
import Derived.Lib.AppendZeros
open List renaming replicate→a_, getElem?_take→d_, mem_of_getElem?→g_, length_replicate→j_
open Nat renaming mul_le_mul_right→f_
open Array renaming getElem?_toList→i_, length_toList→l_
namespace Go.Proofs.YtaoocidchclpnaaGreat
open Go.RowKit
set_option linter.unusedVariables false
set_option linter.unusedSimpArgs false
section
variable {P:Program} {α:Type} {N:Sz} {w0:World} {V:View} {H:List HObj} {M:List (Nat × Value)} {ops:Array Oper} {Q:Exit→Act→World→Prop} {o:Oper} {K:Act→World→Prop} {E:Enc α} {p:Bool} {t e:TypeId} {A:Option Addr} {c:Nat} {l:List α}
theorem T.iX {k:Act→World→Prop} {Q:Exit→Act→World→Prop} (h:T N w0 V H M (Q .ret)) : T N w0 V H M (Exit.then k Q .ret):=fun a w hf hh=>h a w hf hh
theorem T.iJ {id:Nat} {Q:Exit→Act→World→Prop} (h:T N w0 V H M (Q .ret)) : T N w0 V H M (Exit.inBlock id Q .ret):=fun a w hf hh=>h a w hf hh
theorem rg {z:Array Value} {x:α} (hrep : ∀ V,E.rep V z.toList x) (hzs:z.size=E.size) (n:Nat) : iE V E (Builtin.zeroCells z n).toList (a_ n x):=by
 refine⟨by simp [Builtin.zeroCells,hzs],fun k y hk=>?_⟩
 have hkn:k < n:=by
  have:=(List.getElem?_eq_some_iff.1 hk).1
  simpa using this
 have hyx:y=x:=List.eq_of_mem_replicate (g_ hk)
 subst hyx
 refine(congrArg (fun q=>E.rep V q y) ?_).mpr (hrep V)
 apply List.ext_getElem?
 intro j
 rw [d_]
 have hkk:k * E.size + E.size≤n * E.size:=by
  have:=f_ E.size (show k + 1≤n from hkn)
  rw [Nat.add_mul,Nat.one_mul] at this
  exact this
 split
 · rename_i hj
   have hjz:j < z.size:=by omega
   have hlt:k * E.size + j < n * E.size:=by omega
   have hmod:(k * E.size + j) % E.size=j:=by rw [Nat.mul_comm,Nat.mul_add_mod,Nat.mod_eq_of_lt hj]
   rw [List.getElem?_drop,i_,i_]
   have he:z[j]? = some z[j]!:=by rw [Array.getElem?_eq_getElem hjz,getElem!_pos z j hjz]
   simp [Builtin.zeroCells,hzs,hmod,hlt,he]
 · rename_i hj
   rw [List.getElem?_eq_none]
   simp;omega
theorem W1.pG (i lo dn:Nat) {x:α} {z:Value} {dc:Nat} (d:Operand) (hi:nth H i=some (kj p e E A c l))
 (hc:okO N ops M o=true) (ho:o.op = .call { callee:=.builtin .clear,args:=#[d],argTypes:=#[t] })
 (ht:P.underlying t=some (.slice e)) (hzv : ∀ w,(zeroValue e).run P w = .ok z w) (hrep : ∀ V,E.rep V z.cells.toList x) (hzs:z.cells.size=E.size) (hs0:0 < E.size)
 (hd:evM M d = .slice (iW A c lo E.size) dn dc) (hdn:lo + dn≤l.length)
 (h:T N w0 V (H.set i (kj p e E A c (over l lo (a_ dn x)))) (jh o.dst (.tuple #[]) M) K) : W1 P Q ops o N w0 V H M K:=fun a w hf hh=>by
 obtain⟨g1,_,_,h4⟩:=i9 hc
 rw [ju] at hi
 refine⟨iY hf g1,?_⟩
 obtain⟨hlc,hcm,hrow⟩:=hh.objs _ (g_ hi)
 have key : ∃ w',(Builtin.clear_ #[t] o.type #[.slice (iW A c lo E.size) dn dc]).run P w = .ok (.tuple #[]) w'∧(kj p e E A c (over l lo (a_ dn x))).ok V w'∧w.grownBy w' (i8 A c):=by
  rcases Nat.eq_zero_or_pos dn with h0 | h0
  · subst h0
    have hov:over l lo (a_ 0 x)=l:=by simp [over]
    refine⟨w,?_,by rw [hov];exact⟨hlc,hcm,hrow⟩,rfl,rfl,rfl,Nat.le_refl _,fun _ _ _=>rfl⟩
    cases hca:iW A c lo E.size <;> simp [Builtin.clear_,run_underlying ht]
  · have hc0:c≠0:=by omega
    rcases hrow with hz | ⟨g,cur,fz,xs,hrow⟩
    · exact absurd hz hc0
    have hT:iE V E (Builtin.zeroCells z.cells dn).toList (a_ dn x):=rg hrep hzs dn
    have hTl:(Builtin.zeroCells z.cells dn).toList.length=dn * E.size:=by rw [hT.1,j_]
    have hcut:iW A c lo E.size=some ⟨g,lo * E.size,none⟩:=by
     have:(⟨g,0,none⟩ : Addr).add (lo * E.size)=⟨g,lo * E.size,none⟩:=by unfold Addr.add;split <;> simp_all
     unfold iW
     rw [if_neg (by omega),hrow.adr,Option.map_some,this]
    have hfl:lo * E.size + (Builtin.zeroCells z.cells dn).toList.length≤l.length * E.size:=by
     rw [hTl,← Nat.add_mul];exact f_ _ (by omega)
    have hlcs:=f_ E.size hlc
    have hfit:lo * E.size + 0 + (Builtin.zeroCells z.cells dn).toList.length≤cur.size:=by rw [hrow.size];omega
    have hst:=j6 (P:=P) g (lo * E.size) e fz (Builtin.zeroCells z.cells dn).toList 0 cur w hrow.heap hrow.unfrz hfit (fun u hu=>hT.one u hu)
    simp only [Nat.add_zero] at hst
    refine⟨w.setRow g (cur.toList.take (lo * E.size) ++ (Builtin.zeroCells z.cells dn).toList ++ cur.toList.drop (lo * E.size + (Builtin.zeroCells z.cells dn).toList.length)).toArray,?_,?_,?_⟩
    · obtain⟨k,rfl⟩ : ∃ k,dn=k + 1:=⟨dn - 1,by omega⟩
      rw [hcut]
      simp only [Builtin.clear_,Sem.run_bind,Sem.run_pure,Result.andThen_ok,run_underlying ht,hzv,hst,List.getElem?_toArray,List.getElem?_cons_zero]
    · generalize hns:(Builtin.zeroCells z.cells dn).toList=ns at *
      have hlen:(cur.toList.take (lo * E.size) ++ ns ++ cur.toList.drop (lo * E.size + ns.length)).length=cur.size:=by
       simp only [List.length_append,List.length_take (l:=cur.toList),List.length_drop,l_];omega
      have hol:(over l lo (a_ dn x)).length=l.length:=jR _ _ _ (by rw [j_];omega)
      refine⟨by rw [hol];exact hlc,hcm,.inr ⟨g,_,fz,_,⟨hrow.adr,setRow_heap w g cur _ e _ hrow.heap,hrow.plain,?_,?_,rfl,?_⟩⟩⟩
      · rw [List.size_toArray,hlen];exact hrow.unfrz
      · rw [List.size_toArray,hlen];exact hrow.size
      · have hset:=hrow.rep.over hT lo
        refine(congrArg (fun q=>iE V E q _) ?_).mp hset
        have hxl:xs.length=l.length * E.size:=hrow.rep.1
        rw [hol]
        apply List.ext_getElem?
        intro j
        have hfit2:lo * E.size + ns.length≤cur.toList.length:=by rw [l_];omega
        rw [jW xs ns (lo * E.size) j (by rw [hxl];omega),d_]
        simp only [List.toList_toArray]
        rw [jW cur.toList ns (lo * E.size) j hfit2,← hrow.take,d_]
        by_cases hj:j < l.length * E.size
        · rw [if_pos hj,if_pos hj]
        · rw [if_neg hj,if_neg hj,if_neg (by omega)]
    · have:i8 A c=some g:=by unfold i8;rw [if_neg hc0,hrow.adr];rfl
      rw [this]
      exact⟨rfl,rfl,rfl,by simp,fun b _ hb=>setRow_other w g b _ (fun e=>hb (by rw [e]))⟩
 obtain⟨w',hr,hok,hg⟩:=key
 unfold Oper.wp
 rw [jq hc hf]
 have hrun:(execOp (evM M) o).run P w = .ok (.value (.tuple #[])) w':=by
  simp only [execOp,ho,resolve,invoke,builtin,Sem.run_bind,Sem.run_pure,Result.andThen_ok,List.map_toArray,List.map_cons,List.map_nil,hd,hr]
 rw [hrun]
 exact h _ _ (hf.put h4 _) (hh.turn hi hg hok (fun b hb=>.inl hb))
end
def uF (bytes:Nat) (n:Int) : Option Unit:=if 0 < n∧n.toNat * bytes≤140737488355328∧n.toNat≤maxLen then some () else none
section
variable {P:Program} {α:Type} {N:Sz} {w0:World} {V:View} {H:List HObj} {M:List (Nat × Value)} {ops:Array Oper} {Q:Exit→Act→World→Prop} {o:Oper} {K:Act→World→Prop} {E:Enc α} {p:Bool} {t e:TypeId} {A:Option Addr} {c:Nat} {l:List α}
theorem rA {w:World} (o:Obj) : w.grownBy (w.drew.alloc o) none:=by
 refine⟨rfl,rfl,rfl,?_,fun k hk _=>?_⟩
 · show w.heap.size≤(w.heap.push o).size
   rw [Array.size_push];omega
 · show (w.heap.push o)[k]? = _
   rw [Array.getElem?_push,if_neg (Nat.ne_of_lt hk)]
end
end Go.Proofs.YtaoocidchclpnaaGreat
