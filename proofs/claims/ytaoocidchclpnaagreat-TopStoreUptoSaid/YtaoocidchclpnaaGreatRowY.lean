/- The program logic's rules for slices whose array the call has made: append, make, stores, conversions. Its conditions: none. -/
import Derived.Test.YtaoocidchclpnaaGreatMemY
import Derived.Lib.ConvBytes
import Derived.Laws.BytesString
import Derived.Laws.OwnMore
open List renaming getElem?_take→a_, getElem?_drop→f_, length_take→i_, length_append→j_, mem_of_getElem?→l_, ext_getElem?→o_, length_drop→q_, eq_nil_of_length_eq_zero→u_, replicate→v_, getElem?_eq_getElem→y_, size_toArray→C_, getElem?_append_left→D_, getElem?_append_right→E_, getElem?_eq_some_iff→F_, length_set→G_, length_replicate→M_, toList_toArray→O_
open Nat renaming mul_le_mul_right→d_, add_mul→g_, one_mul→p_, le_refl→t_, mul_comm→x_, add_zero→z_, eq_zero_or_pos→I_, zero_le→K_, min_eq_left→L_
open Array renaming length_toList→B_, getElem?_toList→J_, getElem?_eq_getElem→N_
open Option renaming some→H_
namespace Go.Proofs.YtaoocidchclpnaaGreat
open Go.RowKit
section
variable {α:Type} {E:Enc α} {V:View} {l:List α}
theorem jW {β:Type} (xs vs:List β) (a j:Nat) (h:a + vs.length≤xs.length) : (xs.take a ++ vs ++ xs.drop (a + vs.length))[j]? = if a≤j∧j < a + vs.length then vs[j - a]? else xs[j]?:=by
 have hta:(xs.take a).length=a:=by rw [i_];omega
 by_cases h1:j < a
 · rw [if_neg (by omega),List.append_assoc,D_ (by omega),a_,if_pos h1]
 · by_cases h2:j < a + vs.length
   · rw [if_pos ⟨by omega,h2⟩,D_ (by rw [j_];omega),E_ (by omega),hta]
   · rw [if_neg (by omega),E_ (by rw [j_];omega),j_,hta,f_]
     congr 1;omega
theorem tP {xs ys:List Value} {i s:Nat} (h : ∀ j,i * s≤j→j < i * s + s→xs[j]? = ys[j]?) : (xs.drop (i * s)).take s=(ys.drop (i * s)).take s:=by
 apply o_
 intro j
 rw [a_,a_]
 split
 · rw [f_,f_];exact h _ (by omega) (by omega)
 · rfl
theorem iE.set {xs vs:List Value} {k off:Nat} {e e' : α} (h:iE V E xs l) (hk:l[k]? = some e) (ho:off + vs.length≤E.size)
 (hst : ∀ cs,E.rep V cs e→E.rep V (cs.take off ++ vs ++ cs.drop (off + vs.length)) e') : iE V E (xs.take (k * E.size + off) ++ vs ++ xs.drop (k * E.size + off + vs.length)) (l.set k e'):=by
 have hkl:k < l.length:=(F_.1 hk).1
 have hfit:k * E.size + off + vs.length≤xs.length:=by
  rw [h.1]
  have:=d_ E.size (show k + 1≤l.length from hkl)
  rw [g_,p_] at this
  omega
 refine⟨by rw [G_,← h.1];simp only [j_,i_,q_];omega,fun i x hx=>?_⟩
 rw [List.getElem?_set] at hx
 split at hx
 · rename_i hik
   subst hik
   obtain rfl:=H_.inj hx
   have h1:=hst _ (h.2 k e hk)
   have hlen:=E.len (h.2 k e hk)
   refine(congrArg (fun z=>E.rep V z e') ?_).mp h1
   apply o_
   intro j
   have e1:=jW ((xs.drop (k * E.size)).take E.size) vs off j (by rw [hlen];exact ho)
   rw [e1]
   conv=>rhs;rw [a_,f_,jW xs vs (k * E.size + off) _ hfit]
   conv=>lhs;rw [a_,f_]
   by_cases hj:j < E.size
   · rw [if_pos hj]
     by_cases h2:off≤j∧j < off + vs.length
     · rw [if_pos h2,if_pos hj,if_pos (by omega)];congr 1;omega
     · rw [if_neg h2,if_pos hj,if_neg (by omega)]
   · rw [if_neg hj,if_neg hj,if_neg (by omega)]
 · rename_i hik
   have h1:=h.2 i x hx
   refine(congrArg (fun z=>E.rep V z x) (tP fun j hj1 hj2=>?_)).mp h1
   rw [jW xs vs (k * E.size + off) _ hfit,if_neg ?_]
   rintro⟨h2,h3⟩
   rcases Nat.lt_or_ge i k with h4 | h4
   · have:=d_ E.size (show i + 1≤k from h4)
     rw [g_,p_] at this
     omega
   · have:=d_ E.size (show k + 1≤i by omega)
     rw [g_,p_] at this
     omega
theorem iE.append {xs ys:List Value} {m:List α} (h:iE V E xs l) (k:iE V E ys m) : iE V E (xs ++ ys) (l ++ m):=by
 refine⟨by simp [h.1,k.1,g_],fun i x hx=>?_⟩
 by_cases hi:i < l.length
 · rw [D_ hi] at hx
   have h1:=h.2 i x hx
   have hle:i * E.size + E.size≤xs.length:=by
    rw [h.1]
    have:=d_ E.size (show i + 1≤l.length from hi)
    rw [g_,p_] at this
    exact this
   rw [List.drop_append_of_le_length (by omega),List.take_append_of_le_length (by rw [q_];omega)]
   exact h1
 · rw [E_ (by omega)] at hx
   have h1:=k.2 _ x hx
   have hmul:(i - l.length) * E.size=i * E.size - xs.length:=by rw [h.1,Nat.sub_mul]
   rw [hmul] at h1
   have hge:xs.length≤i * E.size:=by
    rw [h.1]
    exact d_ E.size (by omega)
   rw [List.drop_append,List.drop_eq_nil_of_le hge,List.nil_append]
   exact h1
theorem iE.one {xs:List Value} (h:iE V E xs l) : ∀ u∈xs,u.oneCell' = true:=fun u hu=>by
 obtain⟨j,hj,rfl⟩:=List.getElem_of_mem hu
 have hs:0 < E.size:=by
  rcases I_ E.size with h0 | h0
  · rw [h.1,h0] at hj;simp at hj
  · exact h0
 have hk:j / E.size < l.length:=Nat.div_lt_of_lt_mul (by rw [h.1] at hj;rw [x_];exact hj)
 have h1:=h.2 (j / E.size) _ (y_ hk)
 refine E.one h1 _ ?_
 have hm:j % E.size < E.size:=Nat.mod_lt _ hs
 have hj' : j / E.size * E.size + j % E.size=j:=by rw [x_];exact Nat.div_add_mod j E.size
 refine l_ (i:=j % E.size) ?_
 rw [a_,if_pos hm,f_,hj']
 exact y_ hj
theorem iE.nil:iE V E [] []:=⟨by simp,fun k x hk=>by simp at hk⟩
end
def iW (A:Option Addr) (c lo size:Nat) : Option Addr:=if c=lo then A else A.map (·.add (lo * size))
def tV (fz:Nat × Nat) (n:Nat) : Prop:=∀ i,i < n→¬ (fz.1≤i∧i < fz.2)
structure RowAt {α:Type} (p:Bool) (t:TypeId) (E:Enc α) (A:Option Addr) (c:Nat) (l:List α) (V:View) (w:World) (g:Nat) (cur:Array Value) (fz:Nat × Nat) (xs:List Value) : Prop where
 adr:A=some ⟨g,0,none⟩
 heap:w.heap[g]? = some (.cells cur t fz)
 plain:p=true→fz=(0,0)
 unfrz:tV fz cur.size
 size:cur.size=c * E.size
 take:cur.toList.take (l.length * E.size)=xs
 rep:iE V E xs l
def i8 (A:Option Addr) (c:Nat) : Option Nat:=if c=0 then none else A.map (·.block)
def kj {α:Type} (p:Bool) (t:TypeId) (E:Enc α) (A:Option Addr) (c:Nat) (l:List α) : HObj where
 own:=fun b'=>i8 A c=some b'
 ok:=fun V w=>l.length≤c∧c≤maxLen∧(c=0∨∃ g cur fz xs,RowAt p t E A c l V w g cur fz xs)
 loc:=fun V w w' hb ⟨h1,h2,h3⟩=>by
  by_cases hc:c=0
  · exact⟨h1,h2,.inl hc⟩
  · rcases h3 with h3 | ⟨g,cur,fz,xs,h⟩
    · exact absurd h3 hc
    · exact⟨h1,h2,.inr ⟨g,cur,fz,xs,{ h with heap:=by rw [hb g (by unfold i8;rw [if_neg hc,h.adr];rfl)];exact h.heap }⟩⟩
 mono:=fun V V' w hv ⟨h1,h2,h3⟩=>⟨h1,h2,h3.imp id fun ⟨g,cur,fz,xs,h⟩=>⟨g,cur,fz,xs,{ h with rep:=h.rep.mono hv }⟩⟩
 lt:=fun V w b ⟨_,_,h3⟩ hb=>by
  unfold i8 at hb
  split at hb
  · cases hb
  · rename_i hc
    rcases h3 with h3 | ⟨g,cur,fz,xs,h⟩
    · exact absurd h3 hc
    · rw [h.adr] at hb
      injection hb with hb
      subst hb
      exact jJ h.heap
abbrev row {α:Type} (t:TypeId) (E:Enc α) (A:Option Addr) (c:Nat) (l:List α) : HObj:=kj true t E A c l
theorem RowAt.cells {α:Type} {p:Bool} {t:TypeId} {E:Enc α} {A:Option Addr} {c:Nat} {l:List α} {V:View} {w:World} {g:Nat} {cur:Array Value} {fz:Nat × Nat} {xs:List Value}
 (h:RowAt p t E A c l V w g cur fz xs) : mY (vw w) A xs:=fun j u hu=>by
 refine⟨_,h.adr,?_⟩
 have hadd:(⟨g,0,none⟩ : Addr).add j=⟨g,j,none⟩:=by unfold Addr.add;split <;> simp_all
 rw [hadd,oE,cell_of_row w g j cur t fz h.heap]
 have hx:=hu
 rw [← h.take,a_] at hx
 split at hx
 · rw [← J_];exact hx
 · cases hx
theorem Hp.fresh_obj {w0:World} {V:View} {H:List HObj} {w w' : World} (h:Hp w0 V H w) (x:HObj) (hg:w.grownBy w' none) (hok:x.ok V w') (hb : ∀ b,x.own b→w.heap.size≤b) : Hp w0 V (x::H) w':=by
 have hold : ∀ b,b < w.heap.size→w'.heap[b]? = w.heap[b]?:=fun b hb'=>hg.block b hb' (by simp)
 refine⟨hg.os.trans h.os,hg.tape.trans h.tape,hg.output.trans h.output,Nat.le_trans h.size hg.size,fun b o hv=>?_,h.base,fun y hy=>?_,fun y hy b hyb=>?_,?_⟩
 · show w'.heap[b]? = some o
   have:=h.view b o hv
   rw [hold b (jJ this)]
   exact this
 · rcases List.mem_cons.1 hy with rfl | hy
   · exact hok
   · exact y.loc V w w' (fun b hyb=>hold b (y.lt V w b (h.objs y hy) hyb)) (h.objs y hy)
 · rcases List.mem_cons.1 hy with rfl | hy
   · cases hv:V b with
     | none=>rfl
     | some o=>exact absurd (jJ (h.view _ _ hv)) (by have:=hb b hyb;omega)
   · exact h.apart y hy b hyb
 · refine List.Pairwise.cons (fun y hy b hxb hyb=>?_) h.sep
   have:=y.lt V w b (h.objs y hy) hyb
   have:=hb b hxb
   omega
section
variable {P:Program} {α:Type} {N:Sz} {w0:World} {V:View} {H:List HObj} {M:List (Nat × Value)} {ops:Array Oper} {Q:Exit→Act→World→Prop} {o:Oper} {K:Act→World→Prop} {E:Enc α} {p:Bool} {t e:TypeId} {A:Option Addr} {c:Nat} {l:List α}
theorem T.iG (t:TypeId) (E:Enc α) (h:T N w0 V (row t E none 0 []::H) M K) : T N w0 V H M K:=fun a w hf hh =>
 h a w hf (hh.fresh_obj _ ⟨rfl,rfl,rfl,t_ _,fun _ _ _=>rfl⟩ ⟨t_ _,by decide,.inl rfl⟩ (fun b hb=>by cases hb))
theorem W1.jM (t:TypeId) (E:Enc α) (h:W1 P Q ops o N w0 V (row t E none 0 []::H) M K) : W1 P Q ops o N w0 V H M K:=fun a w hf hh =>
 h a w hf (hh.fresh_obj _ ⟨rfl,rfl,rfl,t_ _,fun _ _ _=>rfl⟩ ⟨t_ _,by decide,.inl rfl⟩ (fun b hb=>by cases hb))
theorem Hp.row_slOk {w:World} (h:Hp w0 V H w) {i:Nat} (hi:nth H i=some (kj p t E A c l)) : hJ (vw w) E A c l:=by
 rw [ju] at hi
 obtain⟨h1,h2,h3⟩:=h.objs _ (l_ hi)
 rcases h3 with h3 | ⟨g,cur,fz,xs,h3⟩
 · have hl:l=[]:=u_ (by omega)
   subst hl
   exact⟨h1,h2,[],iE.nil,fun j u hu=>by simp at hu⟩
 · exact⟨h1,h2,xs,h3.rep.mono h.view,h3.cells⟩
theorem Hp.row_fresh {w:World} (h:Hp w0 V H w) {i:Nat} (hi:nth H i=some (kj p t E A c l)) (hflat : ∀ xs,iE V E xs l→iE (pa w0 w) E xs l) : hJ (pa w0 w) E A c l:=by
 rw [ju] at hi
 obtain⟨h1,h2,h3⟩:=h.objs _ (l_ hi)
 by_cases hc:c=0
 · have hl:l=[]:=u_ (by omega)
   subst hl
   exact⟨h1,h2,[],iE.nil,fun j u hu=>by simp at hu⟩
 rcases h3 with h3 | ⟨g,cur,fz,xs,h3⟩
 · exact absurd h3 hc
 · refine⟨h1,h2,xs,hflat xs h3.rep,fun j u hu=>?_⟩
   obtain⟨a,ha,hcell⟩:=h3.cells j u hu
   refine⟨a,ha,?_⟩
   have hag:a=⟨g,0,none⟩:=H_.inj (ha.symm.trans h3.adr)
   have hnew : ¬ g < w0.heap.size:=fun hlt=>by
    have hb:=h.apart _ (l_ hi) g (by show i8 A c=some g;unfold i8;rw [if_neg hc,h3.adr];rfl)
    have hw:(vw w0) g=some w0.heap[g]:=N_ hlt
    rw [h.base g _ hw] at hb
    cases hb
   subst hag
   have e1:((⟨g,0,none⟩ : Addr).add j).block=g:=lG _ _
   unfold View.cell pa
   rw [e1,if_neg hnew]
   rw [oE,World.cell?,e1] at hcell
   exact hcell
theorem mF (w:World) (t ty e:TypeId) (i:TypeInfo) (ht:P.underlying t=some (.slice e)) (hi:P.info? e=some i)
 (A B:Option Addr) (n c1:Nat) (hn:n≤c1) (c:Nat) : (Builtin.append_ #[t,t] ty #[.slice A n c1,.slice B 0 c]).run P w = .ok (.slice A n c1) w:=by
 cases A <;> cases B <;> simp [Builtin.append_,run_underlying ht,sizeOf,typeInfo,hi,Builtin.lenOf,Builtin.firstCells,hn,storeCells,loadCells,loadCellsFrom]
theorem pq (w:World) (t ty e:TypeId) (i:TypeInfo) (ht:P.underlying t=some (.slice e)) (hi:P.info? e=some i)
 (a b:Addr) (m c:Nat) (hm:0 < m) (h63:m≤maxLen) (hb:m * i.bytes≤140737488355328) :
 (Builtin.append_ #[t,t] ty #[.slice (some a) 0 0,.slice (some b) m c]).run P w=(Builtin.append_ #[t,t] ty #[.slice none 0 0,.slice (some b) m c]).run P w:=by
 have hf : ¬ (281474976710656 < Builtin.nextslicecap m 0 * i.bytes):=by
  have:=growslice_fits (need:=m) (old:=0) (bytes:=i.bytes) hm hb
  omega
 have h0 : ¬ m=0:=by omega
 have h1 : ¬ ((9223372036854775807:Int) < m):=by simp [maxLen] at h63;omega
 simp [Builtin.append_,run_underlying ht,sizeOf,typeInfo,hi,Builtin.lenOf,Builtin.firstCells,h0,h1,hf,loadCells,loadCellsFrom]
def od (n bytes:Nat) : Bool:=decide (n * bytes≤140737488355328)
theorem RowAt.owns {w:World} {g:Nat} {cur:Array Value} {fz:Nat × Nat} {xs:List Value} (h:RowAt true t E A c l V w g cur fz xs) (hl:l.length≤c) (hc:c≤maxLen) :
 w.ownsRow 0 t E.size (.slice A l.length c) l.length xs:=by
 refine⟨h.rep.1,.inr ⟨g,c,cur,by rw [h.adr],K_ _,?_,hl,hc,h.size,h.take⟩⟩
 rw [h.heap,h.plain rfl]
theorem oB {w:World} {xs:List Value} (h:w.ownsRow 0 t E.size (.slice A l.length c) l.length xs) (hr:iE V E xs l) : (kj p t E A c l).ok V w:=by
 rcases h.2 with ⟨hv,hn⟩ | ⟨g,cap,cur,hv,_,hg,hnc,hcap,hcs,htake⟩
 · injection hv with _ _ hc
   exact⟨by omega,by rw [hc];decide,.inl hc⟩
 · injection hv with hA _ hc
   subst hc
   exact⟨hnc,hcap,.inr ⟨g,cur,(0,0),xs,⟨hA,hg,fun _=>rfl,fun i _ hi=>by have:=hi.2;simp at this,hcs,htake,hr⟩⟩⟩
theorem iE.takeN {V:View} {E:Enc α} {l:List α} {xs:List Value} (h:iE V E xs l) (n:Nat) : iE V E (xs.take (n * E.size)) (l.take n):=by
 refine⟨?_,fun k x hk=>?_⟩
 · rw [i_,i_,h.1]
   rcases Nat.le_total n l.length with hn | hn
   · rw [L_ hn,L_ (d_ _ hn)]
   · rw [Nat.min_eq_right hn,Nat.min_eq_right (d_ _ hn)]
 · rw [a_] at hk
   split at hk
   · rename_i hkn
     have h1:=h.2 k x hk
     refine(congrArg (fun z=>E.rep V z x) ?_).mp h1
     have:=d_ E.size (show k + 1≤n from hkn)
     rw [g_,p_] at this
     apply o_
     intro j
     rw [a_,a_]
     split
     · rw [f_,f_,a_,if_pos (by omega)]
     · rfl
   · cases hk
theorem iE.dropN {V:View} {E:Enc α} {l:List α} {xs:List Value} (h:iE V E xs l) (n:Nat) : iE V E (xs.drop (n * E.size)) (l.drop n):=by
 refine⟨by rw [q_,q_,h.1,Nat.sub_mul],fun k x hk=>?_⟩
 rw [f_] at hk
 have h1:=h.2 _ x hk
 rw [List.drop_drop,← g_]
 exact h1
theorem ph {V:View} {E:Enc α} {A:Option Addr} {c:Nat} {l l0:List α} {p:Bool} {e:TypeId} {w:World} (h:(kj p e E A c l0).ok V w) (hp:l <+: l0) : (kj p e E A c l).ok V w:=by
 obtain⟨h1,h2,h3⟩:=h
 have hle:=hp.length_le
 refine⟨by omega,h2,h3.imp id fun ⟨g,cur,fz,xs,h⟩=>⟨g,cur,fz,xs.take (l.length * E.size),{ h with take:=?_,rep:=?_ }⟩⟩
 · rw [← h.take,List.take_take]
   have:=d_ E.size hle
   rw [L_ this]
 · have:=h.rep.takeN l.length
   rwa [show l0.take l.length=l from (List.prefix_iff_eq_take.1 hp).symm] at this
theorem W1.qM (i:Nat) {l0 m:List α} {A2:Option Addr} {c2:Nat} (s x:Operand) (bytes:Nat) (ti:TypeInfo) (z:Value) (hi:nth H i=some (row e E A c l0)) (hpre:l <+: l0)
 (hc:okO N ops M o=true) (ho:o.op = .call { callee:=.builtin .append,args:=#[s,x],argTypes:=#[t,t] })
 (ht:P.underlying t=some (.slice e)) (hti:P.info? e=some ti) (hz:ti.zero=some z) (hsize:ti.size=E.size) (hby:ti.bytes=bytes) (hzs:z.cells.size=E.size) (hsz:0 < E.size)
 (hs:evM M s = .slice A l.length c) (hx:evM M x = .slice A2 m.length c2) (hsrc : ∀ w,Hp w0 V H w→∃ news,iE V E news m∧mY (vw w) A2 news)
 (hroom:od (l.length + m.length) bytes=true) (hmax:l.length + m.length≤maxLen)
 (h : ∀ A' c',T N w0 V (H.set i (row e E A' c' (l ++ m))) (jh o.dst (.slice A' (l ++ m).length c') M) K) : W1 P Q ops o N w0 V H M K:=fun a w hf hh=>by
 obtain⟨h1,_,_,h4⟩:=i9 hc
 rw [ju] at hi
 refine⟨iY hf h1,?_⟩
 have hok:=ph (hh.objs _ (l_ hi)) hpre
 obtain⟨hlc,hcm,hrow⟩:=hok
 obtain⟨news,hnr,hl2⟩:=hsrc w hh
 have hbytes:(l.length + m.length) * bytes≤140737488355328:=of_decide_eq_true hroom
 have hlen:(l ++ m).length=l.length + m.length:=j_
 have key : ∃ A' c' w',(Builtin.append_ #[t,t] o.type #[.slice A l.length c,.slice A2 m.length c2]).run P w = .ok (.slice A' (l ++ m).length c') w'∧(row e E A' c' (l ++ m)).ok V w' ∧
  w.grownBy w' (i8 A c)∧(∀ b,i8 A' c' = some b→i8 A c=some b∨w.heap.size≤b):=by
  have same:m.length=0→(Builtin.append_ #[t,t] o.type #[.slice A l.length c,.slice A2 m.length c2]).run P w = .ok (.slice A l.length c) w→∃ A' c' w',(Builtin.append_ #[t,t] o.type #[.slice A l.length c,.slice A2 m.length c2]).run P w = .ok (.slice A' (l ++ m).length c') w'∧(row e E A' c' (l ++ m)).ok V w' ∧
   w.grownBy w' (i8 A c)∧(∀ b,i8 A' c' = some b→i8 A c=some b∨w.heap.size≤b):=fun hm hr=>by
   obtain rfl:=u_ hm
   refine⟨A,c,w,by simpa using hr,by rw [List.append_nil];exact⟨hlc,hcm,hrow⟩,⟨rfl,rfl,rfl,t_ _,fun _ _ _=>rfl⟩,fun b hb=>.inl hb⟩
  rcases I_ m.length with hm0 | hm0
  · refine same hm0 ?_
    rw [hm0]
    exact mF w t o.type e ti ht hti A A2 _ c hlc c2
  obtain⟨ad,rfl⟩ : ∃ ad,A2=some ad:=by
   have hp:0 < news.length:=by rw [hnr.1];exact Nat.mul_pos hm0 hsz
   obtain⟨ad,h2,_⟩:=hl2 0 _ (y_ hp)
   exact⟨ad,h2⟩
  have hnews : ∀ j u,news[j]? = some u→w.cell? (ad.add j)=some u:=fun j u hu=>by
   obtain⟨a',ha,hcell⟩:=hl2 j u hu
   injection ha with ha;subst ha;exact hcell
  have fin : ∀(A0:Option Addr) (c0:Nat) (xs:List Value),w.ownsRow 0 e E.size (.slice A0 l.length c0) l.length xs→iE V E xs l→(∀ b,A0.map (·.block)=some b→i8 A c=some b) →
   (Builtin.append_ #[t,t] o.type #[.slice A l.length c,.slice (some ad) m.length c2]).run P w=(Builtin.append_ #[t,t] o.type #[.slice A0 l.length c0,.slice (some ad) m.length c2]).run P w →
   ∃ A' c' w',(Builtin.append_ #[t,t] o.type #[.slice A l.length c,.slice (some ad) m.length c2]).run P w = .ok (.slice A' (l ++ m).length c') w'∧(row e E A' c' (l ++ m)).ok V w' ∧
    w.grownBy w' (i8 A c)∧(∀ b,i8 A' c' = some b→i8 A c=some b∨w.heap.size≤b):=fun A0 c0 xs hown hrep hblk heq=>by
   obtain⟨v',w',hr,h2,h3,_,h5⟩:=run_append_own_at (P:=P) w 0 t o.type e ti z E.size bytes ht hti hz hsize hby hzs hsz _ _ xs hown ad m.length c2 news hnr.1
    hnews hnr.one hmax hbytes (K_ _)
   have hob:Value.ownBlock (.slice A0 l.length c0)=A0.map (·.block):=by cases A0 <;> rfl
   rw [hob] at h3 h5
   rcases h2.2 with ⟨hv,hn⟩ | ⟨g,cap,cur,hv,_,hg,_⟩
   · omega
   · subst hv
     rw [← hlen] at h2
     refine⟨_,_,w',heq.trans (hr.trans (by rw [hlen])),oB h2 (hrep.append hnr),⟨h3.os,h3.tape,h3.output,h3.size,fun k hk hne=>h3.block k hk (fun e=>hne ?_)⟩,fun b hb=>?_⟩
     · exact(hblk k e.symm).symm
     · unfold i8 at hb
       split at hb
       · cases hb
       · rcases h5 with h5 | h5
         · left
           injection hb with hb
           subst hb
           exact hblk _ (by rw [← h5];rfl)
         · right
           injection hb with hb
           injection h5 with h5
           subst hb
           exact Nat.le_of_eq h5.symm
  by_cases hc0:c=0
  · subst hc0
    have hl0:l=[]:=u_ (by omega)
    subst hl0
    refine fin none 0 [] (World.ownsRow_nil w 0 e E.size) iE.nil (fun b hb=>by cases hb) ?_
    cases A with
    | none=>rfl
    | some a=>exact pq w t o.type e ti ht hti a ad m.length c2 hm0 (by simpa using hmax) (by rw [hby];simpa using hbytes)
  · rcases hrow with h0 | ⟨g,cur,fz,xs,hrow⟩
    · exact absurd h0 hc0
    · exact fin A c xs (hrow.owns hlc hcm) hrow.rep (fun b hb=>by unfold i8;rw [if_neg hc0];exact hb) rfl
 obtain⟨A',c',w',hr,hok,hg,hb⟩:=key
 unfold Oper.wp
 rw [jq hc hf]
 have hrun:(execOp (evM M) o).run P w = .ok (.value (.slice A' (l ++ m).length c')) w':=by
  simp only [execOp,ho,resolve,invoke,builtin,Sem.run_bind,Sem.run_pure,Result.andThen_ok,List.map_toArray,List.map_cons,List.map_nil,hs,hx,hr]
 rw [hrun]
 exact h A' c' _ _ (hf.put h4 _) (hh.turn hi hg hok hb)
theorem W1.nA (i:Nat) {m:List α} {A2:Option Addr} {c2:Nat} (s x:Operand) (bytes:Nat) (ti:TypeInfo) (z:Value) (hi:nth H i=some (row e E A c l))
 (hc:okO N ops M o=true) (ho:o.op = .call { callee:=.builtin .append,args:=#[s,x],argTypes:=#[t,t] })
 (ht:P.underlying t=some (.slice e)) (hti:P.info? e=some ti) (hz:ti.zero=some z) (hsize:ti.size=E.size) (hby:ti.bytes=bytes) (hzs:z.cells.size=E.size) (hsz:0 < E.size)
 (hs:evM M s = .slice A l.length c) (hx:evM M x = .slice A2 m.length c2) (hsrc : ∀ w,Hp w0 V H w→∃ news,iE V E news m∧mY (vw w) A2 news)
 (hroom:od (l.length + m.length) bytes=true) (hmax:l.length + m.length≤maxLen)
 (h : ∀ A' c',T N w0 V (H.set i (row e E A' c' (l ++ m))) (jh o.dst (.slice A' (l ++ m).length c') M) K) : W1 P Q ops o N w0 V H M K :=
 W1.qM i s x bytes ti z hi (List.prefix_refl l) hc ho ht hti hz hsize hby hzs hsz hs hx hsrc hroom hmax h
theorem W1.qp (n:Nat) (x:α) (ln cp:Operand) (kl kc:IntKind) (bytes:Nat) (ti:TypeInfo) (z:Value)
 (hc:okO N ops M o=true) (ho:o.op = .makeSlice t ln cp) (ht:P.underlying t=some (.slice e)) (hti:P.info? e=some ti) (hz:ti.zero=some z) (hsize:ti.size=E.size) (hby:ti.bytes=bytes)
 (hl:evM M ln = .int kl (n:Int)) (hcp:evM M cp = .int kc (n:Int)) (hrep : ∀ V,E.rep V z.cells.toList x) (hzs:z.cells.size=E.size)
 (hroom:od n bytes=true) (hmax:n≤maxLen)
 (h : ∀ A,T N w0 V (row e E A n (v_ n x)::H) (jh o.dst (.slice A (v_ n x).length n) M) K) : W1 P Q ops o N w0 V H M K:=fun a w hf hh=>by
 obtain⟨h1,_,_,h4⟩:=i9 hc
 refine⟨iY hf h1,?_⟩
 have hbytes:n * bytes≤140737488355328:=of_decide_eq_true hroom
 obtain⟨w',hr,hown,hg⟩:=run_make_full (P:=P) w 0 t e ti z E.size ht hti hz hsize kl kc n (by rw [hby,x_];omega) hmax (K_ _)
 unfold Oper.wp
 rw [jq hc hf]
 have hrun:(execOp (evM M) o).run P w = .ok (.value (.slice (some ⟨w.heap.size,0,none⟩) n n)) w':=by
  simp only [execOp,ho,hl,hcp,Sem.run_bind,Sem.run_pure,Result.andThen_ok,hr]
 have hlr:Value.slice (some ⟨w.heap.size,0,none⟩) n n=Value.slice (some ⟨w.heap.size,0,none⟩) (v_ n x).length n:=by rw [M_]
 rw [hlr] at hrun
 rw [hrun]
 have hown' : w'.ownsRow 0 e E.size (.slice (some ⟨w.heap.size,0,none⟩) (v_ n x).length n) (v_ n x).length (madeCells z.cells (n * E.size)).toList:=by
  rw [M_];exact hown
 refine h _ _ _ (hf.put h4 _) (hh.fresh_obj _ hg (oB hown' ⟨by rw [M_];exact hown.1,fun k y hk=>?_⟩) (fun b hb=>?_))
 · have hkn : k < n := by
    have:=(F_.1 hk).1
    simpa using this
   have hyx:y=x:=List.eq_of_mem_replicate (l_ hk)
   subst hyx
   refine(congrArg (fun q=>E.rep V q y) ?_).mpr (hrep V)
   apply o_
   intro j
   rw [a_]
   have hkk:k * E.size + E.size≤n * E.size:=by
    have:=d_ E.size (show k + 1≤n from hkn)
    rw [g_,p_] at this
    exact this
   split
   · rename_i hj
     have hjz:j < z.cells.size:=by omega
     have hlt:k * E.size + j < n * E.size:=by omega
     have hmod:(k * E.size + j) % E.size=j:=by rw [x_,Nat.mul_add_mod,Nat.mod_eq_of_lt hj]
     rw [f_,J_,J_]
     have he:z.cells[j]? = some z.cells[j]!:=by rw [N_ hjz,getElem!_pos z.cells j hjz]
     simp [madeCells,hzs,hmod,hlt,he]
   · rename_i hj
     rw [List.getElem?_eq_none]
     simp;omega
 · have hb' : i8 (some ⟨w.heap.size,0,none⟩) n=some b:=hb
   unfold i8 at hb'
   split at hb'
   · cases hb'
   · injection hb' with hb'
     exact Nat.le_of_eq hb'
def fits (s:ByteArray) : Option Unit:=if s.size≤maxLen then some () else none
def qV (bytes:Nat) (n:Int) : Option Unit:=if 0≤n∧n.toNat * bytes≤140737488355328∧n.toNat≤maxLen then some () else none
theorem nX {bytes:Nat} {n:Int} {u:Unit} (h:qV bytes n=some u) : (n.toNat:Int)=n∧od n.toNat bytes=true∧n.toNat≤maxLen:=by
 unfold qV at h
 split at h
 · rename_i hc
   exact⟨by omega,decide_eq_true hc.2.1,hc.2.2⟩
 · cases h
theorem iN (a:Addr) : a.add 0=a:=by unfold Addr.add;simp
theorem T.ii {φ:Act→World→Prop} {v:Value} (k:Nat) (v' : Value) (hk:lk M k=some v) (he:v=v') (h:T N w0 V H ((k,v')::M) φ) : T N w0 V H M φ :=
 fun a w hf hh=>h a w (hf.pick hf k (by rw [hk,he])) hh
theorem T.iV {φ:Act→World→Prop} {H' : List HObj} (he:H=H') (h:T N w0 V H' M φ) : T N w0 V H M φ:=he ▸ h
theorem j6 (g o:Nat) (t:TypeId) (fz:Nat × Nat) : ∀(vs:List Value) (i:Nat) (cur:Array Value) (w:World),w.heap[g]? = some (.cells cur t fz)→tV fz cur.size→o + i + vs.length≤cur.size→(∀ v∈vs,v.oneCell' = true) →
 (storeCells ⟨g,o,none⟩ vs i).run P w = .ok () (w.setRow g (cur.toList.take (o + i) ++ vs ++ cur.toList.drop (o + i + vs.length)).toArray)
 | [],i,cur,w,hg,_,_,_=>by
  simp only [storeCells,List.append_nil,List.length_nil,z_,List.take_append_drop,Array.toArray_toList]
  rw [setRow_self w g cur t fz hg]
  rfl
 | v::rest,i,cur,w,hg,hu,hl,h1=>by
  have hi:o + i < cur.size:=by simp at hl;omega
  have hadd:(⟨g,o,none⟩ : Addr).add i=⟨g,o + i,none⟩:=by unfold Addr.add;split <;> simp_all
  have hcell:w.cell? ⟨g,o + i,none⟩=some cur[o + i]:=by simp [World.cell?,hg,hi]
  have hfro:w.frozen? ⟨g,o + i,none⟩=false:=by
   have:=hu (o + i) hi
   obtain⟨lo,hi'⟩:=fz
   simp only [World.frozen?,hg]
   simpa using this
  have hst:(store ((⟨g,o,none⟩ : Addr).add i) v).run P w = .ok () (w.setRow g (cur.setIfInBounds (o + i) v)):=by
   rw [hadd,run_store P w _ v _ (h1 v (by simp)),hcell]
   simp [hfro,setCell_eq_setRow w g (o + i) cur t fz v hg]
  have ih:=j6 g o t fz rest (i + 1) (cur.setIfInBounds (o + i) v) (w.setRow g (cur.setIfInBounds (o + i) v)) (setRow_heap w g cur _ t _ hg) (by simpa using hu) (by simp at hl ⊢;omega) (fun x hx=>h1 x (by simp [hx]))
  simp only [storeCells,Sem.run_bind,hst,Result.andThen_ok,ih,setRow_setRow]
  congr 3
  have e:=list_seg_step cur.toList (o + i) v rest (by simp at hl ⊢;omega)
  simpa [Array.toList_setIfInBounds,Nat.add_assoc] using e
theorem W1.iB (i k off:Nat) (x x' : α) (a:Addr) {vs:List Value} {t' : TypeId} {q y:Operand} {v:Value} (hi:nth H i=some (kj p e E A c l)) (hc:okO N ops M o=true) (ho:o.op = .store t' q y)
 (hq:evM M q = .pointer (some a)) (ha:a=((iy A).add (k * E.size)).add off) (hy:evM M y=v) (hvs:v.cells=vs.toArray) (hs : ∀ w,(sizeOf t').run P w = .ok vs.length w) (h1 : ∀ u∈vs,u.oneCell' = true)
 (hk:l[k]? = some x) (ho' : off + vs.length≤E.size) (hst : ∀ V cs,E.rep V cs x→E.rep V (cs.take off ++ vs ++ cs.drop (off + vs.length)) x')
 (h:T N w0 V (H.set i (kj p e E A c (l.set k x'))) (jh o.dst undef M) K) : W1 P Q ops o N w0 V H M K:=fun a' w hf hh=>by
 obtain⟨g1,_,_,h4⟩:=i9 hc
 rw [ju] at hi
 refine⟨iY hf g1,?_⟩
 obtain⟨hlc,hcm,hrow⟩:=hh.objs _ (l_ hi)
 have hkl:k < l.length:=(F_.1 hk).1
 have hc0:c≠0:=by omega
 rcases hrow with h0 | ⟨g,cur,fz,xs,hrow⟩
 · exact absurd h0 hc0
 have hadr:a=⟨g,k * E.size + off,none⟩:=by
  rw [ha,hrow.adr]
  simp only [iy,Option.getD_some,lU]
  unfold Addr.add
  split <;> simp_all
 have hfitl:k * E.size + off + vs.length≤l.length * E.size:=by
  have:=d_ E.size (show k + 1≤l.length from hkl)
  rw [g_,p_] at this
  omega
 have hfit:k * E.size + off + vs.length≤cur.size:=by
  have:=d_ E.size hlc
  rw [hrow.size];omega
 have hsto:=j6 (P:=P) g (k * E.size + off) e fz vs 0 cur w hrow.heap hrow.unfrz (by simpa using hfit) h1
 simp only [z_] at hsto
 have hrun:(execOp (evM M) o).run P w = .ok .skip (w.setRow g (cur.toList.take (k * E.size + off) ++ vs ++ cur.toList.drop (k * E.size + off + vs.length)).toArray):=by
  simp [execOp,ho,hq,hy,hadr,Instr.storeAt,Instr.sureAddr,storeVar,hvs,hs w,hsto]
 unfold Oper.wp
 rw [jq hc hf,hrun]
 have hblk : ∀ l:List α,(kj p e E A c l).own g:=fun l=>by
  show i8 A c=some g
  unfold i8;rw [if_neg hc0,hrow.adr];rfl
 refine h _ _ (hf.put h4 _) (hh.turn (o:=some g) hi ?_ ?_ (fun b hb=>.inl hb) (fun b e=>by rw [← H_.inj e];exact hblk _))
 · exact⟨rfl,rfl,rfl,by simp,fun b _ hb=>setRow_other w g b _ (fun e=>hb (by rw [e]))⟩
 · have hlen : (cur.toList.take (k * E.size + off) ++ vs ++ cur.toList.drop (k * E.size + off + vs.length)).length = cur.size := by
    simp only [j_,i_,q_,B_];omega
   refine⟨by rw [G_];exact hlc,hcm,.inr ⟨g,_,fz,_,⟨hrow.adr,setRow_heap w g cur _ e _ hrow.heap,hrow.plain,?_,?_,rfl,?_⟩⟩⟩
   · rw [C_,hlen];exact hrow.unfrz
   · rw [C_,hlen];exact hrow.size
   · have hset:=hrow.rep.set hk ho' (fun cs hcs=>hst V cs hcs)
     refine(congrArg (fun q=>iE V E q (l.set k x')) ?_).mp hset
     have hxl:xs.length=l.length * E.size:=hrow.rep.1
     rw [G_]
     apply o_
     intro j
     rw [jW xs vs (k * E.size + off) j (by rw [hxl];omega),a_]
     simp only [O_]
     rw [jW cur.toList vs (k * E.size + off) j (by rw [B_];omega),← hrow.take,a_]
     by_cases hj:j < l.length * E.size
     · rw [if_pos hj,if_pos hj]
     · rw [if_neg hj,if_neg hj,if_neg (by omega)]
def over (l:List α) (lo:Nat) (m:List α) : List α:=l.take lo ++ m ++ l.drop (lo + m.length)
theorem jR (l:List α) (lo:Nat) (m:List α) (h:lo + m.length≤l.length) : (over l lo m).length=l.length:=by
 unfold over;simp only [j_,i_,q_];omega
theorem iE.over {V:View} {E:Enc α} {l m:List α} {xs ys:List Value} (h:iE V E xs l) (k:iE V E ys m) (lo:Nat) : iE V E (xs.take (lo * E.size) ++ ys ++ xs.drop (lo * E.size + ys.length)) (over l lo m):=by
 rw [k.1,← g_]
 exact((h.takeN lo).append k).append (h.dropN _)
theorem W1.kZ (i lo dn:Nat) {m:List α} {A2:Option Addr} {c2 dc:Nat} {t' : TypeId} (d x:Operand) (hi:nth H i=some (kj p e E A c l))
 (hc:okO N ops M o=true) (ho:o.op = .call { callee:=.builtin .copy,args:=#[d,x],argTypes:=#[t,t'] })
 (ht:P.underlying t=some (.slice e)) (hsz : ∀ w,(sizeOf e).run P w = .ok E.size w) (hs0:0 < E.size)
 (hd:evM M d = .slice (iW A c lo E.size) dn dc) (hx:evM M x = .slice A2 m.length c2) (hdn:lo + dn≤l.length) (hsrc : ∀ w,Hp w0 V H w→∃ news,iE V E news m∧mY (vw w) A2 news)
 (h:T N w0 V (H.set i (kj p e E A c (over l lo (m.take dn)))) (jh o.dst (.int .i64 ((m.take dn).length:Int)) M) K) : W1 P Q ops o N w0 V H M K:=fun a w hf hh=>by
 obtain⟨g1,_,_,h4⟩:=i9 hc
 rw [ju] at hi
 refine⟨iY hf g1,?_⟩
 obtain⟨hlc,hcm,hrow⟩:=hh.objs _ (l_ hi)
 obtain⟨news,hnr,hnl⟩:=hsrc w hh
 have hmin:Nat.min m.length dn=(m.take dn).length:=by rw [i_,Nat.min_comm]
 have key:(kj p e E A c (over l lo (m.take dn))).ok V w∧(Builtin.copy_ #[t,t'] o.type #[.slice (iW A c lo E.size) dn dc,.slice A2 m.length c2]).run P w = .ok (.int .i64 ((m.take dn).length:Int)) w ∨
  ∃ w',(Builtin.copy_ #[t,t'] o.type #[.slice (iW A c lo E.size) dn dc,.slice A2 m.length c2]).run P w = .ok (.int .i64 ((m.take dn).length:Int)) w'∧(kj p e E A c (over l lo (m.take dn))).ok V w'∧w.grownBy w' (i8 A c):=by
  rcases I_ (m.take dn).length with h0 | h0
  · left
    have hnil:m.take dn=[]:=u_ h0
    have hov:over l lo (m.take dn)=l:=by rw [hnil];simp [over]
    refine⟨by rw [hov];exact⟨hlc,hcm,hrow⟩,?_⟩
    cases hca:iW A c lo E.size <;> cases A2 <;> simp [Builtin.copy_,run_underlying ht,Builtin.lenOf,Builtin.firstCells,hsz,hmin,h0,loadCells,loadCellsFrom,storeCells,goInt]
  · right
    have hl1:(m.take dn).length≤dn:=by rw [i_];omega
    have hc0:c≠0:=by omega
    rcases hrow with hz | ⟨g,cur,fz,xs,hrow⟩
    · exact absurd hz hc0
    have hml:0 < m.length:=by rw [i_] at h0;omega
    obtain⟨ad,rfl⟩ : ∃ ad,A2=some ad:=by
     have hp:0 < news.length:=by rw [hnr.1];exact Nat.mul_pos hml hs0
     obtain⟨ad,h2,_⟩:=hnl 0 _ (y_ hp)
     exact⟨ad,h2⟩
    have hT:=hnr.takeN dn
    have hTl:(news.take (dn * E.size)).length=(m.take dn).length * E.size:=hT.1
    have hload:=run_loadCells_list (P:=P) w ad (news.take (dn * E.size)) (fun j u hu=>by
     rw [a_] at hu
     split at hu
     · obtain⟨a',ha,hcell⟩:=hnl j u hu
       injection ha with ha;subst ha;exact hcell
     · cases hu)
    rw [hTl] at hload
    have hcut:iW A c lo E.size=some ⟨g,lo * E.size,none⟩:=by
     have:(⟨g,0,none⟩ : Addr).add (lo * E.size)=⟨g,lo * E.size,none⟩:=by unfold Addr.add;split <;> simp_all
     unfold iW
     rw [if_neg (by omega),hrow.adr,Option.map_some,this]
    have hfl:lo * E.size + (news.take (dn * E.size)).length≤l.length * E.size:=by
     rw [hTl,← g_];exact d_ _ (by omega)
    have hlcs:=d_ E.size hlc
    have hfit:lo * E.size + 0 + (news.take (dn * E.size)).length≤cur.size:=by rw [hrow.size];omega
    have hst:=j6 (P:=P) g (lo * E.size) e fz (news.take (dn * E.size)) 0 cur w hrow.heap hrow.unfrz hfit (fun u hu=>hT.one u hu)
    simp only [z_] at hst
    refine⟨w.setRow g (cur.toList.take (lo * E.size) ++ news.take (dn * E.size) ++ cur.toList.drop (lo * E.size + (news.take (dn * E.size)).length)).toArray,?_,?_,?_⟩
    · rw [hcut]
      generalize news.take (dn * E.size)=ns at hload hst
      generalize (m.take dn).length=kk at hmin hload
      have hmin' : min m.length dn=kk:=hmin
      simp only [Builtin.copy_,Sem.run_bind,Sem.run_pure,Result.andThen_ok,run_underlying ht,Builtin.lenOf,Builtin.firstCells,hsz,hmin,hload,hst,goInt,List.getElem?_toArray,List.getElem?_cons_zero,List.getElem?_cons_succ]
    · have hlen : (cur.toList.take (lo * E.size) ++ news.take (dn * E.size) ++ cur.toList.drop (lo * E.size + (news.take (dn * E.size)).length)).length = cur.size := by
       simp only [j_,i_ (l:=cur.toList),q_,B_];omega
      have hol:(over l lo (m.take dn)).length=l.length:=jR _ _ _ (by omega)
      refine⟨by rw [hol];exact hlc,hcm,.inr ⟨g,_,fz,_,⟨hrow.adr,setRow_heap w g cur _ e _ hrow.heap,hrow.plain,?_,?_,rfl,?_⟩⟩⟩
      · rw [C_,hlen];exact hrow.unfrz
      · rw [C_,hlen];exact hrow.size
      · have hset:=hrow.rep.over hT lo
        refine(congrArg (fun q=>iE V E q _) ?_).mp hset
        have hxl:xs.length=l.length * E.size:=hrow.rep.1
        rw [hol]
        apply o_
        intro j
        have hfit2:lo * E.size + (news.take (dn * E.size)).length≤cur.toList.length:=by rw [B_];omega
        generalize news.take (dn * E.size)=ns at hfl hfit2
        rw [jW xs ns (lo * E.size) j (by rw [hxl];omega),a_]
        simp only [O_]
        rw [jW cur.toList ns (lo * E.size) j hfit2,← hrow.take,a_]
        by_cases hj:j < l.length * E.size
        · rw [if_pos hj,if_pos hj]
        · rw [if_neg hj,if_neg hj,if_neg (by omega)]
    · have:i8 A c=some g:=by unfold i8;rw [if_neg hc0,hrow.adr];rfl
      rw [this]
      exact⟨rfl,rfl,rfl,by simp,fun b _ hb=>setRow_other w g b _ (fun e=>hb (by rw [e]))⟩
 have fin : ∃ w',(Builtin.copy_ #[t,t'] o.type #[.slice (iW A c lo E.size) dn dc,.slice A2 m.length c2]).run P w = .ok (.int .i64 ((m.take dn).length:Int)) w'∧(kj p e E A c (over l lo (m.take dn))).ok V w'∧w.grownBy w' (i8 A c):=by
  rcases key with ⟨k1,k2⟩ | key
  · exact⟨w,k2,k1,rfl,rfl,rfl,t_ _,fun _ _ _=>rfl⟩
  · exact key
 obtain⟨w',hr,hok,hg⟩:=fin
 unfold Oper.wp
 rw [jq hc hf]
 have hrun:(execOp (evM M) o).run P w = .ok (.value (.int .i64 ((m.take dn).length:Int))) w':=by
  simp only [execOp,ho,resolve,invoke,builtin,Sem.run_bind,Sem.run_pure,Result.andThen_ok,List.map_toArray,List.map_cons,List.map_nil,hd,hx,hr]
 rw [hrun]
 exact h _ _ (hf.put h4 _) (hh.turn hi hg hok (fun b hb=>.inl hb))
def lu (l:List Int) : ByteArray:=l.foldl (fun s n=>s.push (UInt8.ofNat n.toNat)) ByteArray.empty
theorem rh {k:IntKind} {V:View} {xs:List Value} {l:List Int} (h:iE V (eK k) xs l) : xs=l.map (Value.int k):=by
 have hl:xs.length=l.length:=by have:=h.1;simpa [eK,mA] using this
 apply o_
 intro j
 rw [List.getElem?_map]
 cases hj:l[j]? with
 | none =>
  rw [List.getElem?_eq_none_iff] at hj
  simp [hl,hj]
 | some x =>
  have h1:(xs.drop (j * 1)).take 1=[.int k x]:=h.2 j x hj
  rw [Nat.mul_one] at h1
  have h2:((xs.drop j).take 1)[0]? = some (.int k x):=by rw [h1];rfl
  rw [a_,if_pos (by decide),f_,z_] at h2
  rw [h2];rfl
theorem kA {o:Oper} {src dst e:TypeId} {x:Operand} {A:Option Addr} {c:Nat} {l:List Int} {w:World} (ho:o.op = .convert src dst x) (hx:evM M x = .slice A l.length c)
 (hs:P.underlying src=some (.slice e)) (he:P.underlying e=some (.int .u8)) (hd:P.underlying dst=some .string) (hl:hJ (vw w) (eK .u8) A c l) :
 (execOp (evM M) o).run P w = .ok (.value (.string (lu l))) w:=by
 obtain⟨_,_,xs,h1,h2⟩:=hl
 have hxs:=rh h1
 subst hxs
 have key:(Conv.bytesToString (.slice A l.length c)).run P w = .ok (.string (lu l)) w:=by
  cases A with
  | none =>
   have:l=[]:=by
    cases l with
    | nil=>rfl
    | cons y l=>obtain ⟨a,ha,_⟩:=h2 0 _ rfl;cases ha
   subst this
   rfl
  | some a =>
   refine run_bytesToString w a _ c l ?_
   have:=run_loadCells_list (P:=P) w a (l.map (Value.int .u8)) (fun j u hu=>by obtain ⟨a',ha,hc⟩:=h2 j u hu;injection ha with ha;subst ha;exact hc)
   rwa [List.length_map] at this
 simp only [execOp,ho,hx,Sem.run_bind,run_convert_bytes_string w src dst e A l.length c hs he hd,key,Result.andThen_ok,Sem.run_pure]
end
end Go.Proofs.YtaoocidchclpnaaGreat
