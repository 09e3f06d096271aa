/- The program logic's rules for slices whose array the call has made: append, make, stores, conversions. Its conditions: none. -/
import Derived.Test.YtnofgfobljadbaaGreatMemW
import Derived.Lib.ConvBytes
import Derived.Laws.BytesString
import Derived.OwnWalk
import Derived.Laws.StructEq
import Derived.Lib.Bytealg
import Derived.Laws.Externs
open List renaming getElem?_take→a_, getElem?_drop→d_, length_take→i_, length_drop→j_, mem_of_getElem?→l_, length_append→p_, ext_getElem?→q_, eq_nil_of_length_eq_zero→x_, mem_cons→y_, replicate→B_, getElem?_eq_some_iff→C_, getElem?_eq_getElem→E_, size_toArray→H_, getElem?_append_left→J_, getElem?_append_right→K_, length_set→L_, length_replicate→R_, toList_toArray→S_
open Nat renaming mul_le_mul_right→f_, add_mul→g_, one_mul→t_, le_refl→v_, mul_comm→D_, add_zero→F_, sub_mul→M_, eq_zero_or_pos→N_, zero_le→P_, min_eq_left→Q_
open Option renaming some→u_
open Array renaming getElem?_eq_getElem→z_, length_toList→G_, getElem?_toList→O_
open Bool renaming eq_iff_iff→I_
namespace Go.Proofs.YtnofgfobljadbaaGreat
set_option linter.unusedSimpArgs false
set_option linter.unusedVariables false
section
open Go.RowKit
section
variable {α:Type} {E:Enc α} {V:View} {l:List α}
theorem kv {β:Type} (xs vs:List β) (a j:Nat) (h:a + vs.length<=xs.length):(xs.take a++vs++xs.drop (a + vs.length))[j]? = if a<=j/\j<a + vs.length then vs[j - a]? else xs[j]?:=by
 have hta:(xs.take a).length=a:=by rw[i_];omega
 by_cases h1:j<a
 . rw[if_neg o_,List.append_assoc,J_ o_,a_,if_pos h1]
 . by_cases h2:j<a + vs.length
   . rw[if_pos ⟨by omega,h2⟩,J_ (by rw[p_];omega),K_ o_,hta]
   . rw[if_neg o_,K_ (by rw[p_];omega),p_,hta,d_];congr 1;omega
theorem uS {xs ys:List Value} {i s:Nat} (h:∀j,i * s<=j->j<i * s + s->xs[j]? = ys[j]?):(xs.drop (i * s)).take s=(ys.drop (i * s)).take s:=by
 apply q_;intro j;rw[a_,a_];split
 . rw[d_,d_];exact h _ o_ o_
 . rfl
theorem iH.set {xs vs:List Value} {k off:Nat} {e e':α} (h:iH V E xs l) (hk:l[k]? = some e) (ho:off + vs.length<=E.size)
 (hst:∀cs,E.rep V cs e->E.rep V (cs.take off++vs++cs.drop (off + vs.length)) e'):iH V E (xs.take (k * E.size + off)++vs++xs.drop (k * E.size + off + vs.length)) (l.set k e'):=by
 have hkl:k<l.length:=(C_.1 hk).1;have hfit:k * E.size + off + vs.length<=xs.length:=by rw[h.1];have:=f_ E.size (show k + 1<=l.length from hkl);rw[g_,t_] at this;omega
 refine⟨by rw[L_,<-h.1];simp only[p_,i_,j_];omega,λi x hx=>?_⟩;rw[List.getElem?_set] at hx;split at hx
 . rename_i hik;subst hik;obtain rfl:=u_.inj hx;have h1:=hst _ (h.2 k e hk);have hlen:=E.len (h.2 k e hk);refine(congrArg (λz=>E.rep V z e') ?_).mp h1;apply q_;intro j;have e1:=kv ((xs.drop (k * E.size)).take E.size) vs off j (by rw[hlen];exact ho);rw[e1]
   conv=>rhs;rw[a_,d_,kv xs vs (k * E.size + off) _ hfit]
   conv=>lhs;rw[a_,d_]
   by_cases hj:j<E.size
   . rw[if_pos hj];by_cases h2:off<=j/\j<off + vs.length
     . rw[if_pos h2,if_pos hj,if_pos o_];congr 1;omega
     . rw[if_neg h2,if_pos hj,if_neg o_]
   . rw[if_neg hj,if_neg hj,if_neg o_]
 . rename_i hik;have h1:=h.2 i x hx;refine(congrArg (λz=>E.rep V z x) (uS λj hj1 hj2=>?_)).mp h1;rw[kv xs vs (k * E.size + off) _ hfit,if_neg ?_];rintro⟨h2,h3⟩;rcases Nat.lt_or_ge i k with h4|h4
   . have:=f_ E.size (show i + 1<=k from h4);rw[g_,t_] at this;omega
   . have:=f_ E.size (show k + 1<=i by omega);rw[g_,t_] at this;omega
theorem iH.append {xs ys:List Value} {m:List α} (h:iH V E xs l) (k:iH V E ys m):iH V E (xs++ys) (l++m):=by
 refine⟨by simp[h.1,k.1,g_],λi x hx=>?_⟩;by_cases hi:i<l.length
 . rw[J_ hi] at hx;have h1:=h.2 i x hx;have hle:i * E.size + E.size<=xs.length:=by rw[h.1];have:=f_ E.size (show i + 1<=l.length from hi);rw[g_,t_] at this;exact this
   rw[List.drop_append_of_le_length o_,List.take_append_of_le_length (by rw[j_];omega)];exact h1
 . rw[K_ o_] at hx;have h1:=k.2 _ x hx;have hmul:(i - l.length) * E.size=i * E.size - xs.length:=by rw[h.1,M_]
   rw[hmul] at h1;have hge:xs.length<=i * E.size:=(by rw[h.1];exact f_ E.size o_);rw[List.drop_append,List.drop_eq_nil_of_le hge,List.nil_append];exact h1
theorem iH.one {xs:List Value} (h:iH V E xs l):∀u∈xs,u.oneCell'=true:=λu hu=>by
 obtain⟨j,hj,rfl⟩:=List.getElem_of_mem hu
 have hs:0<E.size:=by
  rcases N_ E.size with h0|h0
  . rw[h.1,h0] at hj;simp at hj
  . exact h0
 have hk:j / E.size<l.length:=Nat.div_lt_of_lt_mul (by rw[h.1] at hj;rw[D_];exact hj);have h1:=h.2 (j / E.size) _ (E_ hk);refine E.one h1 _ ?_;have hm:j % E.size<E.size:=Nat.mod_lt _ hs;have hj':j / E.size * E.size + j % E.size=j:=by rw[D_];exact Nat.div_add_mod j E.size
 refine l_ (i:=j % E.size) ?_;rw[a_,if_pos hm,d_,hj'];exact E_ hj
theorem iH.nil:iH V E [] []:=⟨by simp,λk x hk=>by simp at hk⟩
end
def jc (A:Option Addr) (c lo size:Nat):Option Addr:=if c=lo then A else A.map (·.add (lo * size))
def uX (fz:Nat×Nat) (n:Nat):Prop:=∀i,i<n->¬ (fz.1<=i/\i<fz.2)
structure RowAt {α:Type} (p:Bool) (t:TypeId) (E:Enc α) (A:Option Addr) (c:Nat) (l:List α) (V:View) (w:World) (g:Nat) (cur:Array Value) (fz:Nat×Nat) (xs:List Value):Prop where
 adr:A=some ⟨g,0,none⟩
 heap:w.heap[g]? = some (.cells cur t fz)
 plain:p=true->fz=(0,0)
 unfrz:uX fz cur.size
 size:cur.size=c * E.size
 take:cur.toList.take (l.length * E.size)=xs
 rep:iH V E xs l
def jd (A:Option Addr) (c:Nat):Option Nat:=if c=0 then none else A.map (·.block)
def kJ {α:Type} (p:Bool) (t:TypeId) (E:Enc α) (A:Option Addr) (c:Nat) (l:List α):HObj where
 own:=λb'=>jd A c=some b'
 ok:=λV w=>l.length<=c/\c<=maxLen/\(c=0\/∃g cur fz xs,RowAt p t E A c l V w g cur fz xs)
 loc:=λV w w' hb ⟨h1,h2,h3⟩=>by
  by_cases hc:c=0
  . exact⟨h1,h2,.inl hc⟩
  . rcases h3 with h3|⟨g,cur,fz,xs,h⟩
    . exact absurd h3 hc
    . exact⟨h1,h2,.inr ⟨g,cur,fz,xs,{ h with heap:=by rw[hb g (by unfold jd;rw[if_neg hc,h.adr];rfl)];exact h.heap }⟩⟩
 mono:=λV V' w hv ⟨h1,h2,h3⟩=>⟨h1,h2,h3.imp id λ⟨g,cur,fz,xs,h⟩=>⟨g,cur,fz,xs,{ h with rep:=h.rep.mono hv }⟩⟩
 lt:=λV w b ⟨_,_,h3⟩ hb=>by
  unfold jd at hb
  split at hb
  . cases hb
  . rename_i hc
    rcases h3 with h3|⟨g,cur,fz,xs,h⟩
    . exact absurd h3 hc
    . rw[h.adr] at hb
      injection hb with hb
      subst hb
      exact jU h.heap
abbrev row {α:Type} (t:TypeId) (E:Enc α) (A:Option Addr) (c:Nat) (l:List α):HObj:=kJ true t E A c l
theorem RowAt.cells {α:Type} {p:Bool} {t:TypeId} {E:Enc α} {A:Option Addr} {c:Nat} {l:List α} {V:View} {w:World} {g:Nat} {cur:Array Value} {fz:Nat×Nat} {xs:List Value}
 (h:RowAt p t E A c l V w g cur fz xs):nF (vw w) A xs:=λj u hu=>by
 refine⟨_,h.adr,?_⟩;have hadd:(⟨g,0,none⟩:Addr).add j=⟨g,j,none⟩:=by unfold Addr.add;split <;> simp_all
 rw[hadd,py,cell_of_row w g j cur t fz h.heap];have hx:=hu;rw[<-h.take,a_] at hx;split at hx
 . rw[<-O_];exact hx
 . cases hx
theorem Hp.fresh_obj {w0:World} {V:View} {H:List HObj} {w w':World} (h:Hp w0 V H w) (x:HObj) (hg:w.grownBy w' none) (hok:x.ok V w') (hb:∀b,x.own b->w.heap.size<=b):Hp w0 V (x::H) w':=by
 have hold:∀b,b<w.heap.size->w'.heap[b]? = w.heap[b]?:=λb hb'=>hg.block b hb' s_;refine⟨hg.os.trans h.os,hg.tape.trans h.tape,hg.output.trans h.output,Nat.le_trans h.size hg.size,λb o hv=>?_,h.base,λy hy=>?_,λy hy b hyb=>?_,?_⟩
 . show w'.heap[b]? = some o;have:=h.view b o hv;rw[hold b (jU this)];exact this
 . rcases y_.1 hy with rfl|hy
   . exact hok
   . exact y.loc V w w' (λb hyb=>hold b (y.lt V w b (h.objs y hy) hyb)) (h.objs y hy)
 . rcases y_.1 hy with rfl|hy
   . cases hv:V b with
     |none=>rfl
     |some o=>exact absurd (jU (h.view _ _ hv)) (by have:=hb b hyb;omega)
   . exact h.apart y hy b hyb
 . refine List.Pairwise.cons (λy hy b hxb hyb=>?_) h.sep;have:=y.lt V w b (h.objs y hy) hyb;have:=hb b hxb;omega
section
variable {P:Program} {α:Type} {N:Sz} {w0:World} {V:View} {H:List HObj} {M:List (Nat×Value)} {ops:Array Oper} {Q:Exit->Act->World->Prop} {o:Oper} {K:Act->World->Prop} {E:Enc α} {p:Bool} {t e:TypeId} {A:Option Addr} {c:Nat} {l:List α}
theorem T.iM (t:TypeId) (E:Enc α) (h:T N w0 V (row t E none 0 []::H) M K):T N w0 V H M K:=λa w hf hh =>
 h a w hf (hh.fresh_obj _ ⟨rfl,rfl,rfl,v_ _,λ_ _ _=>rfl⟩ ⟨v_ _,by decide,.inl rfl⟩ (λb hb=>by cases hb))
theorem W1.i8 (t:TypeId) (E:Enc α) (h:W1 P Q ops o N w0 V (row t E none 0 []::H) M K):W1 P Q ops o N w0 V H M K:=λa w hf hh =>
 h a w hf (hh.fresh_obj _ ⟨rfl,rfl,rfl,v_ _,λ_ _ _=>rfl⟩ ⟨v_ _,by decide,.inl rfl⟩ (λb hb=>by cases hb))
theorem Hp.row_slOk {w:World} (h:Hp w0 V H w) {i:Nat} (hi:nth H i=some (kJ p t E A c l)):hJ (vw w) E A c l:=by
 rw[jJ] at hi;obtain⟨h1,h2,h3⟩:=h.objs _ (l_ hi);rcases h3 with h3|⟨g,cur,fz,xs,h3⟩
 . have hl:l=[]:=x_ o_;subst hl;exact⟨h1,h2,[],iH.nil,λj u hu=>by simp at hu⟩
 . exact⟨h1,h2,xs,h3.rep.mono h.view,h3.cells⟩
theorem Hp.row_fresh {w:World} (h:Hp w0 V H w) {i:Nat} (hi:nth H i=some (kJ p t E A c l)) (hflat:∀xs,iH V E xs l->iH (pW w0 w) E xs l):hJ (pW w0 w) E A c l:=by
 rw[jJ] at hi;obtain⟨h1,h2,h3⟩:=h.objs _ (l_ hi);by_cases hc:c=0
 . have hl:l=[]:=x_ o_;subst hl;exact⟨h1,h2,[],iH.nil,λj u hu=>by simp at hu⟩
 rcases h3 with h3|⟨g,cur,fz,xs,h3⟩
 . exact absurd h3 hc
 . refine⟨h1,h2,xs,hflat xs h3.rep,λj u hu=>?_⟩;obtain⟨a,ha,hcell⟩:=h3.cells j u hu;refine⟨a,ha,?_⟩;have hag:a=⟨g,0,none⟩:=u_.inj (ha.symm.trans h3.adr);have hnew:¬ g<w0.heap.size:=λhlt=>by have hb:=h.apart _ (l_ hi) g (by show jd A c=some g;unfold jd;rw[if_neg hc,h3.adr];rfl);have hw:(vw w0) g=some w0.heap[g]:=z_ hlt;rw[h.base g _ hw] at hb;cases hb
   subst hag;have e1:((⟨g,0,none⟩:Addr).add j).block=g:=mn _ _;unfold View.cell pW;rw[e1,if_neg hnew];rw[py,World.cell?,e1] at hcell;exact hcell
theorem nh (w:World) (t ty e:TypeId) (i:TypeInfo) (ht:P.underlying t=some (.slice e)) (hi:P.info? e=some i)
 (A B:Option Addr) (n c1:Nat) (hn:n<=c1) (c:Nat):(Builtin.append_ #[t,t] ty #[.slice A n c1,.slice B 0 c]).run P w=.ok (.slice A n c1) w:=by
 cases A <;> cases B <;> simp[Builtin.append_,run_underlying ht,sizeOf,typeInfo,hi,Builtin.lenOf,Builtin.firstCells,hn,storeCells,loadCells,loadCellsFrom]
theorem qi (w:World) (t ty e:TypeId) (i:TypeInfo) (ht:P.underlying t=some (.slice e)) (hi:P.info? e=some i)
 (a b:Addr) (m c:Nat) (hm:0<m) (h63:m<=maxLen) (hb:m * i.bytes<=140737488355328) :
 (Builtin.append_ #[t,t] ty #[.slice (some a) 0 0,.slice (some b) m c]).run P w=(Builtin.append_ #[t,t] ty #[.slice none 0 0,.slice (some b) m c]).run P w:=by
 have hf:¬ (281474976710656<Builtin.nextslicecap m 0 * i.bytes):=by have:=growslice_fits (need:=m) (old:=0) (bytes:=i.bytes) hm hb;omega
 have h0:¬ m=0:=o_;have h1:¬ ((9223372036854775807:Int)<m):=by simp[maxLen] at h63;omega
 simp[Builtin.append_,run_underlying ht,sizeOf,typeInfo,hi,Builtin.lenOf,Builtin.firstCells,h0,h1,hf,loadCells,loadCellsFrom]
def oX (n bytes:Nat):Bool:=decide (n * bytes<=140737488355328)
theorem RowAt.owns {w:World} {g:Nat} {cur:Array Value} {fz:Nat×Nat} {xs:List Value} (h:RowAt true t E A c l V w g cur fz xs) (hl:l.length<=c) (hc:c<=maxLen) :
 w.ownsRow 0 t E.size (.slice A l.length c) l.length xs:=by
 refine⟨h.rep.1,.inr ⟨g,c,cur,by rw[h.adr],P_ _,?_,hl,hc,h.size,h.take⟩⟩;rw[h.heap,h.plain rfl]
theorem pu {w:World} {xs:List Value} (h:w.ownsRow 0 t E.size (.slice A l.length c) l.length xs) (hr:iH V E xs l):(kJ p t E A c l).ok V w:=by
 rcases h.2 with ⟨hv,hn⟩|⟨g,cap,cur,hv,_,hg,hnc,hcap,hcs,htake⟩
 . injection hv with _ _ hc;exact⟨by omega,by rw[hc];decide,.inl hc⟩
 . injection hv with hA _ hc;subst hc;exact⟨hnc,hcap,.inr ⟨g,cur,(0,0),xs,⟨hA,hg,λ_=>rfl,λi _ hi=>by have:=hi.2;simp at this,hcs,htake,hr⟩⟩⟩
theorem iH.takeN {V:View} {E:Enc α} {l:List α} {xs:List Value} (h:iH V E xs l) (n:Nat):iH V E (xs.take (n * E.size)) (l.take n):=by
 refine⟨?_,λk x hk=>?_⟩
 . rw[i_,i_,h.1];rcases Nat.le_total n l.length with hn|hn
   . rw[Q_ hn,Q_ (f_ _ hn)]
   . rw[Nat.min_eq_right hn,Nat.min_eq_right (f_ _ hn)]
 . rw[a_] at hk;split at hk
   . rename_i hkn;have h1:=h.2 k x hk;refine(congrArg (λz=>E.rep V z x) ?_).mp h1;have:=f_ E.size (show k + 1<=n from hkn);rw[g_,t_] at this;apply q_;intro j;rw[a_,a_];split
     . rw[d_,d_,a_,if_pos o_]
     . rfl
   . cases hk
theorem iH.dropN {V:View} {E:Enc α} {l:List α} {xs:List Value} (h:iH V E xs l) (n:Nat):iH V E (xs.drop (n * E.size)) (l.drop n):=by refine⟨by rw[j_,j_,h.1,M_],λk x hk=>?_⟩;rw[d_] at hk;have h1:=h.2 _ x hk;rw[List.drop_drop,<-g_];exact h1
theorem nX {V:View} {E:Enc α} {A:Option Addr} {c:Nat} {l l0:List α} {p:Bool} {e:TypeId} {w:World} (h:(kJ p e E A c l0).ok V w) (hp:l <+: l0):(kJ p e E A c l).ok V w:=by
 obtain⟨h1,h2,h3⟩:=h;have hle:=hp.length_le;refine⟨by omega,h2,h3.imp id λ⟨g,cur,fz,xs,h⟩=>⟨g,cur,fz,xs.take (l.length * E.size),{ h with take:=?_,rep:=?_ }⟩⟩
 . rw[<-h.take,List.take_take];have:=f_ E.size hle;rw[Q_ this]
 . have:=h.rep.takeN l.length;rwa[show l0.take l.length=l from (List.prefix_iff_eq_take.1 hp).symm] at this
theorem W1.rQ (i:Nat) {l0 m:List α} {A2:Option Addr} {c2:Nat} (s x:Operand) (bytes:Nat) (ti:TypeInfo) (z:Value) (hi:nth H i=some (row e E A c l0)) (hpre:l <+: l0)
 (hc:okO N ops M o=true) (ho:o.op=.call { callee:=.builtin .append,args:=#[s,x],argTypes:=#[t,t] })
 (ht:P.underlying t=some (.slice e)) (hti:P.info? e=some ti) (hz:ti.zero=some z) (hsize:ti.size=E.size) (hby:ti.bytes=bytes) (hzs:z.cells.size=E.size) (hsz:0<E.size)
 (hs:evM M s=.slice A l.length c) (hx:evM M x=.slice A2 m.length c2) (hsrc:∀w,Hp w0 V H w->∃news,iH V E news m/\nF (vw w) A2 news)
 (hroom:oX (l.length + m.length) bytes=true) (hmax:l.length + m.length<=maxLen)
 (h:∀A' c',T N w0 V (H.set i (row e E A' c' (l++m))) (ju o.dst (.slice A' (l++m).length c') M) K):W1 P Q ops o N w0 V H M K:=λa w hf hh=>by
 obtain⟨h1,_,_,h4⟩:=jk hc;rw[jJ] at hi;refine⟨jb hf h1,?_⟩;have hok:=nX (hh.objs _ (l_ hi)) hpre;obtain⟨hlc,hcm,hrow⟩:=hok;obtain⟨news,hnr,hl2⟩:=hsrc w hh;have hbytes:(l.length + m.length) * bytes<=140737488355328:=of_decide_eq_true hroom;have hlen:(l++m).length=l.length + m.length:=p_
 have key:∃A' c' w',(Builtin.append_ #[t,t] o.type #[.slice A l.length c,.slice A2 m.length c2]).run P w=.ok (.slice A' (l++m).length c') w'/\(row e E A' c' (l++m)).ok V w' /\
  w.grownBy w' (jd A c)/\(∀b,jd A' c'=some b->jd A c=some b\/w.heap.size<=b):=by
  have same:m.length=0->(Builtin.append_ #[t,t] o.type #[.slice A l.length c,.slice A2 m.length c2]).run P w=.ok (.slice A l.length c) w->∃A' c' w',(Builtin.append_ #[t,t] o.type #[.slice A l.length c,.slice A2 m.length c2]).run P w=.ok (.slice A' (l++m).length c') w'/\(row e E A' c' (l++m)).ok V w' /\
   w.grownBy w' (jd A c)/\(∀b,jd A' c'=some b->jd A c=some b\/w.heap.size<=b):=λhm hr=>by
   obtain rfl:=x_ hm;refine⟨A,c,w,by simpa using hr,by rw[List.append_nil];exact⟨hlc,hcm,hrow⟩,⟨rfl,rfl,rfl,v_ _,λ_ _ _=>rfl⟩,λb hb=>.inl hb⟩
  rcases N_ m.length with hm0|hm0
  . refine same hm0 ?_;rw[hm0];exact nh w t o.type e ti ht hti A A2 _ c hlc c2
  obtain⟨ad,rfl⟩:∃ad,A2=some ad:=by have hp:0<news.length:=(by rw[hnr.1];exact Nat.mul_pos hm0 hsz);obtain⟨ad,h2,_⟩:=hl2 0 _ (E_ hp);exact⟨ad,h2⟩
  have hnews:∀j u,news[j]? = some u->w.cell? (ad.add j)=some u:=λj u hu=>by obtain⟨a',ha,hcell⟩:=hl2 j u hu;injection ha with ha;subst ha;exact hcell
  have fin:∀(A0:Option Addr) (c0:Nat) (xs:List Value),w.ownsRow 0 e E.size (.slice A0 l.length c0) l.length xs->iH V E xs l->(∀b,A0.map (·.block)=some b->jd A c=some b) ->
   (Builtin.append_ #[t,t] o.type #[.slice A l.length c,.slice (some ad) m.length c2]).run P w=(Builtin.append_ #[t,t] o.type #[.slice A0 l.length c0,.slice (some ad) m.length c2]).run P w ->
   ∃A' c' w',(Builtin.append_ #[t,t] o.type #[.slice A l.length c,.slice (some ad) m.length c2]).run P w=.ok (.slice A' (l++m).length c') w'/\(row e E A' c' (l++m)).ok V w' /\
    w.grownBy w' (jd A c)/\(∀b,jd A' c'=some b->jd A c=some b\/w.heap.size<=b):=λA0 c0 xs hown hrep hblk heq=>by
   obtain⟨v',w',hr,h2,h3,_,h5⟩:=run_append_own_at (P:=P) w 0 t o.type e ti z E.size bytes ht hti hz hsize hby hzs hsz _ _ xs hown ad m.length c2 news hnr.1
    hnews hnr.one hmax hbytes (P_ _)
   have hob:Value.ownBlock (.slice A0 l.length c0)=A0.map (·.block):=(by cases A0 <;> rfl);rw[hob] at h3 h5;rcases h2.2 with ⟨hv,hn⟩|⟨g,cap,cur,hv,_,hg,_⟩
   . omega
   . subst hv;rw[<-hlen] at h2;refine⟨_,_,w',heq.trans (hr.trans (by rw[hlen])),pu h2 (hrep.append hnr),⟨h3.os,h3.tape,h3.output,h3.size,λk hk hne=>h3.block k hk (λe=>hne ?_)⟩,λb hb=>?_⟩
     . exact(hblk k e.symm).symm
     . unfold jd at hb;split at hb
       . cases hb
       . rcases h5 with h5|h5
         . left;injection hb with hb;subst hb;exact hblk _ (by rw[<-h5];rfl)
         . right;injection hb with hb;injection h5 with h5;subst hb;exact Nat.le_of_eq h5.symm
  by_cases hc0:c=0
  . subst hc0;have hl0:l=[]:=x_ o_;subst hl0;refine fin none 0 [] (World.ownsRow_nil w 0 e E.size) iH.nil (λb hb=>by cases hb) ?_
    cases A with
    |none=>rfl
    |some a=>exact qi w t o.type e ti ht hti a ad m.length c2 hm0 (by simpa using hmax) (by rw[hby];simpa using hbytes)
  . rcases hrow with h0|⟨g,cur,fz,xs,hrow⟩
    . exact absurd h0 hc0
    . exact fin A c xs (hrow.owns hlc hcm) hrow.rep (λb hb=>by unfold jd;rw[if_neg hc0];exact hb) rfl
 obtain⟨A',c',w',hr,hok,hg,hb⟩:=key;unfold Oper.wp;rw[jG hc hf];have hrun:(execOp (evM M) o).run P w=.ok (.value (.slice A' (l++m).length c')) w':=by simp only[execOp,ho,resolve,invoke,builtin,Sem.run_bind,Sem.run_pure,Result.andThen_ok,List.map_toArray,List.map_cons,List.map_nil,hs,hx,hr]
 rw[hrun];exact h A' c' _ _ (hf.put h4 _) (hh.turn hi hg hok hb)
theorem W1.oq (i:Nat) {m:List α} {A2:Option Addr} {c2:Nat} (s x:Operand) (bytes:Nat) (ti:TypeInfo) (z:Value) (hi:nth H i=some (row e E A c l))
 (hc:okO N ops M o=true) (ho:o.op=.call { callee:=.builtin .append,args:=#[s,x],argTypes:=#[t,t] })
 (ht:P.underlying t=some (.slice e)) (hti:P.info? e=some ti) (hz:ti.zero=some z) (hsize:ti.size=E.size) (hby:ti.bytes=bytes) (hzs:z.cells.size=E.size) (hsz:0<E.size)
 (hs:evM M s=.slice A l.length c) (hx:evM M x=.slice A2 m.length c2) (hsrc:∀w,Hp w0 V H w->∃news,iH V E news m/\nF (vw w) A2 news)
 (hroom:oX (l.length + m.length) bytes=true) (hmax:l.length + m.length<=maxLen)
 (h:∀A' c',T N w0 V (H.set i (row e E A' c' (l++m))) (ju o.dst (.slice A' (l++m).length c') M) K):W1 P Q ops o N w0 V H M K :=
 W1.rQ i s x bytes ti z hi (List.prefix_refl l) hc ho ht hti hz hsize hby hzs hsz hs hx hsrc hroom hmax h
theorem W1.rk (n:Nat) (x:α) (ln cp:Operand) (kl kc:IntKind) (bytes:Nat) (ti:TypeInfo) (z:Value)
 (hc:okO N ops M o=true) (ho:o.op=.makeSlice t ln cp) (ht:P.underlying t=some (.slice e)) (hti:P.info? e=some ti) (hz:ti.zero=some z) (hsize:ti.size=E.size) (hby:ti.bytes=bytes)
 (hl:evM M ln=.int kl (n:Int)) (hcp:evM M cp=.int kc (n:Int)) (hrep:∀V,E.rep V z.cells.toList x) (hzs:z.cells.size=E.size)
 (hroom:oX n bytes=true) (hmax:n<=maxLen)
 (h:∀A,T N w0 V (row e E A n (B_ n x)::H) (ju o.dst (.slice A (B_ n x).length n) M) K):W1 P Q ops o N w0 V H M K:=λa w hf hh=>by
 obtain⟨h1,_,_,h4⟩:=jk hc;refine⟨jb hf h1,?_⟩;have hbytes:n * bytes<=140737488355328:=of_decide_eq_true hroom;obtain⟨w',hr,hown,hg⟩:=run_make_full (P:=P) w 0 t e ti z E.size ht hti hz hsize kl kc n (by rw[hby,D_];omega) hmax (P_ _);unfold Oper.wp;rw[jG hc hf];have hrun:(execOp (evM M) o).run P w=.ok (.value (.slice (some ⟨w.heap.size,0,none⟩) n n)) w':=by simp only[execOp,ho,hl,hcp,Sem.run_bind,Sem.run_pure,Result.andThen_ok,hr]
 have hlr:Value.slice (some ⟨w.heap.size,0,none⟩) n n=Value.slice (some ⟨w.heap.size,0,none⟩) (B_ n x).length n:=by rw[R_]
 rw[hlr] at hrun;rw[hrun];have hown':w'.ownsRow 0 e E.size (.slice (some ⟨w.heap.size,0,none⟩) (B_ n x).length n) (B_ n x).length (madeCells z.cells (n * E.size)).toList:=by rw[R_];exact hown
 refine h _ _ _ (hf.put h4 _) (hh.fresh_obj _ hg (pu hown' ⟨by rw[R_];exact hown.1,λk y hk=>?_⟩) (λb hb=>?_))
 . have hkn:k<n:=by have:=(C_.1 hk).1;simpa using this
   have hyx:y=x:=List.eq_of_mem_replicate (l_ hk);subst hyx;refine(congrArg (λq=>E.rep V q y) ?_).mpr (hrep V);apply q_;intro j;rw[a_];have hkk:k * E.size + E.size<=n * E.size:=(by have:=f_ E.size (show k + 1<=n from hkn);rw[g_,t_] at this;exact this);split
   . rename_i hj;have hjz:j<z.cells.size:=o_;have hlt:k * E.size + j<n * E.size:=o_;have hmod:(k * E.size + j) % E.size=j:=(by rw[D_,Nat.mul_add_mod,Nat.mod_eq_of_lt hj]);rw[d_,O_,O_];have he:z.cells[j]? = some z.cells[j]!:=(by rw[z_ hjz,getElem!_pos z.cells j hjz]);simp[madeCells,hzs,hmod,hlt,he]
   . rename_i hj;rw[List.getElem?_eq_none];simp;omega
 . have hb':jd (some ⟨w.heap.size,0,none⟩) n=some b:=hb;unfold jd at hb';split at hb'
   . cases hb'
   . injection hb' with hb';exact Nat.le_of_eq hb'
def fits (s:ByteArray):Option Unit:=if s.size<=maxLen then some () else none
def sd (bytes:Nat) (n:Int):Option Unit:=if 0<=n/\n.toNat * bytes<=140737488355328/\n.toNat<=maxLen then some () else none
theorem oS {bytes:Nat} {n:Int} {u:Unit} (h:sd bytes n=some u):(n.toNat:Int)=n/\oX n.toNat bytes=true/\n.toNat<=maxLen:=by
 unfold sd at h;split at h
 . rename_i hc;exact⟨by omega,decide_eq_true hc.2.1,hc.2.2⟩
 . cases h
theorem iW (a:Addr):a.add 0=a:=by unfold Addr.add;simp
theorem T.io {φ:Act->World->Prop} {v:Value} (k:Nat) (v':Value) (hk:lk M k=some v) (he:v=v') (h:T N w0 V H ((k,v')::M) φ):T N w0 V H M φ :=
 λa w hf hh=>h a w (hf.pick hf k (by rw[hk,he])) hh
theorem T.iS {φ:Act->World->Prop} {H':List HObj} (he:H=H') (h:T N w0 V H' M φ):T N w0 V H M φ:=he▸h
theorem kA (g o:Nat) (t:TypeId) (fz:Nat×Nat):∀(vs:List Value) (i:Nat) (cur:Array Value) (w:World),w.heap[g]? = some (.cells cur t fz)->uX fz cur.size->o + i + vs.length<=cur.size->(∀v∈vs,v.oneCell'=true) ->
 (storeCells ⟨g,o,none⟩ vs i).run P w=.ok () (w.setRow g (cur.toList.take (o + i)++vs++cur.toList.drop (o + i + vs.length)).toArray)
 |[],i,cur,w,hg,_,_,_=>by simp only[storeCells,List.append_nil,List.length_nil,F_,List.take_append_drop,Array.toArray_toList];rw[setRow_self w g cur t fz hg];rfl
 |v::rest,i,cur,w,hg,hu,hl,h1=>by
  have hi:o + i<cur.size:=by simp at hl;omega
  have hadd:(⟨g,o,none⟩:Addr).add i=⟨g,o + i,none⟩:=by unfold Addr.add;split <;> simp_all
  have hcell:w.cell? ⟨g,o + i,none⟩=some cur[o + i]:=by simp[World.cell?,hg,hi]
  have hfro:w.frozen? ⟨g,o + i,none⟩=false:=by have:=hu (o + i) hi;obtain⟨lo,hi'⟩:=fz;simp only[World.frozen?,hg];simpa using this
  have hst:(store ((⟨g,o,none⟩:Addr).add i) v).run P w=.ok () (w.setRow g (cur.setIfInBounds (o + i) v)):=by rw[hadd,run_store P w _ v _ (h1 v s_),hcell];simp[hfro,setCell_eq_setRow w g (o + i) cur t fz v hg]
  have ih:=kA g o t fz rest (i + 1) (cur.setIfInBounds (o + i) v) (w.setRow g (cur.setIfInBounds (o + i) v)) (setRow_heap w g cur _ t _ hg) (by simpa using hu) (by simp at hl ⊢;omega) (λx hx=>h1 x (by simp[hx]));simp only[storeCells,Sem.run_bind,hst,Result.andThen_ok,ih,setRow_setRow];congr 3;have e:=list_seg_step cur.toList (o + i) v rest (by simp at hl ⊢;omega);simpa[Array.toList_setIfInBounds,Nat.add_assoc] using e
theorem W1.iJ (i k off:Nat) (x x':α) (a:Addr) {vs:List Value} {t':TypeId} {q y:Operand} {v:Value} (hi:nth H i=some (kJ p e E A c l)) (hc:okO N ops M o=true) (ho:o.op=.store t' q y)
 (hq:evM M q=.pointer (some a)) (ha:a=((iz A).add (k * E.size)).add off) (hy:evM M y=v) (hvs:v.cells=vs.toArray) (hs:∀w,(sizeOf t').run P w=.ok vs.length w) (h1:∀u∈vs,u.oneCell'=true)
 (hk:l[k]? = some x) (ho':off + vs.length<=E.size) (hst:∀V cs,E.rep V cs x->E.rep V (cs.take off++vs++cs.drop (off + vs.length)) x')
 (h:T N w0 V (H.set i (kJ p e E A c (l.set k x'))) (ju o.dst undef M) K):W1 P Q ops o N w0 V H M K:=λa' w hf hh=>by
 obtain⟨g1,_,_,h4⟩:=jk hc;rw[jJ] at hi;refine⟨jb hf g1,?_⟩;obtain⟨hlc,hcm,hrow⟩:=hh.objs _ (l_ hi);have hkl:k<l.length:=(C_.1 hk).1;have hc0:c≠0:=o_;rcases hrow with h0|⟨g,cur,fz,xs,hrow⟩
 . exact absurd h0 hc0
 have hadr:a=⟨g,k * E.size + off,none⟩:=by rw[ha,hrow.adr];simp only[iz,Option.getD_some,mE];unfold Addr.add;split <;> simp_all
 have hfitl:k * E.size + off + vs.length<=l.length * E.size:=by have:=f_ E.size (show k + 1<=l.length from hkl);rw[g_,t_] at this;omega
 have hfit:k * E.size + off + vs.length<=cur.size:=by have:=f_ E.size hlc;rw[hrow.size];omega
 have hsto:=kA (P:=P) g (k * E.size + off) e fz vs 0 cur w hrow.heap hrow.unfrz (by simpa using hfit) h1;simp only[F_] at hsto;have hrun:(execOp (evM M) o).run P w=.ok .skip (w.setRow g (cur.toList.take (k * E.size + off)++vs++cur.toList.drop (k * E.size + off + vs.length)).toArray):=by simp[execOp,ho,hq,hy,hadr,Instr.storeAt,Instr.sureAddr,storeVar,hvs,hs w,hsto]
 unfold Oper.wp;rw[jG hc hf,hrun];have hblk:∀l:List α,(kJ p e E A c l).own g:=λl=>by show jd A c=some g;unfold jd;rw[if_neg hc0,hrow.adr];rfl
 refine h _ _ (hf.put h4 _) (hh.turn (o:=some g) hi ?_ ?_ (λb hb=>.inl hb) (λb e=>by rw[<-u_.inj e];exact hblk _))
 . exact⟨rfl,rfl,rfl,by simp,λb _ hb=>setRow_other w g b _ (λe=>hb (by rw[e]))⟩
 . have hlen:(cur.toList.take (k * E.size + off)++vs++cur.toList.drop (k * E.size + off + vs.length)).length=cur.size:=by simp only[p_,i_,j_,G_];omega
   refine⟨by rw[L_];exact hlc,hcm,.inr ⟨g,_,fz,_,⟨hrow.adr,setRow_heap w g cur _ e _ hrow.heap,hrow.plain,?_,?_,rfl,?_⟩⟩⟩
   . rw[H_,hlen];exact hrow.unfrz
   . rw[H_,hlen];exact hrow.size
   . have hset:=hrow.rep.set hk ho' (λcs hcs=>hst V cs hcs);refine(congrArg (λq=>iH V E q (l.set k x')) ?_).mp hset;have hxl:xs.length=l.length * E.size:=hrow.rep.1;rw[L_];apply q_;intro j;rw[kv xs vs (k * E.size + off) j (by rw[hxl];omega),a_];simp only[S_];rw[kv cur.toList vs (k * E.size + off) j (by rw[G_];omega),<-hrow.take,a_];by_cases hj:j<l.length * E.size
     . rw[if_pos hj,if_pos hj]
     . rw[if_neg hj,if_neg hj,if_neg o_]
def over (l:List α) (lo:Nat) (m:List α):List α:=l.take lo++m++l.drop (lo + m.length)
theorem kz (l:List α) (lo:Nat) (m:List α) (h:lo + m.length<=l.length):(over l lo m).length=l.length:=by unfold over;simp only[p_,i_,j_];omega
theorem iH.over {V:View} {E:Enc α} {l m:List α} {xs ys:List Value} (h:iH V E xs l) (k:iH V E ys m) (lo:Nat):iH V E (xs.take (lo * E.size)++ys++xs.drop (lo * E.size + ys.length)) (over l lo m):=by rw[k.1,<-g_];exact((h.takeN lo).append k).append (h.dropN _)
theorem W1.mj (i lo dn:Nat) {m:List α} {A2:Option Addr} {c2 dc:Nat} {t':TypeId} (d x:Operand) (hi:nth H i=some (kJ p e E A c l))
 (hc:okO N ops M o=true) (ho:o.op=.call { callee:=.builtin .copy,args:=#[d,x],argTypes:=#[t,t'] })
 (ht:P.underlying t=some (.slice e)) (hsz:∀w,(sizeOf e).run P w=.ok E.size w) (hs0:0<E.size)
 (hd:evM M d=.slice (jc A c lo E.size) dn dc) (hx:evM M x=.slice A2 m.length c2) (hdn:lo + dn<=l.length) (hsrc:∀w,Hp w0 V H w->∃news,iH V E news m/\nF (vw w) A2 news)
 (h:T N w0 V (H.set i (kJ p e E A c (over l lo (m.take dn)))) (ju o.dst (.int .i64 ((m.take dn).length:Int)) M) K):W1 P Q ops o N w0 V H M K:=λa w hf hh=>by
 obtain⟨g1,_,_,h4⟩:=jk hc;rw[jJ] at hi;refine⟨jb hf g1,?_⟩;obtain⟨hlc,hcm,hrow⟩:=hh.objs _ (l_ hi);obtain⟨news,hnr,hnl⟩:=hsrc w hh;have hmin:Nat.min m.length dn=(m.take dn).length:=by rw[i_,Nat.min_comm]
 have key:(kJ p e E A c (over l lo (m.take dn))).ok V w/\(Builtin.copy_ #[t,t'] o.type #[.slice (jc A c lo E.size) dn dc,.slice A2 m.length c2]).run P w=.ok (.int .i64 ((m.take dn).length:Int)) w \/
  ∃w',(Builtin.copy_ #[t,t'] o.type #[.slice (jc A c lo E.size) dn dc,.slice A2 m.length c2]).run P w=.ok (.int .i64 ((m.take dn).length:Int)) w'/\(kJ p e E A c (over l lo (m.take dn))).ok V w'/\w.grownBy w' (jd A c):=by
  rcases N_ (m.take dn).length with h0|h0
  . left;have hnil:m.take dn=[]:=x_ h0;have hov:over l lo (m.take dn)=l:=by rw[hnil];simp[over]
    refine⟨by rw[hov];exact⟨hlc,hcm,hrow⟩,?_⟩;cases hca:jc A c lo E.size <;> cases A2 <;> simp[Builtin.copy_,run_underlying ht,Builtin.lenOf,Builtin.firstCells,hsz,hmin,h0,loadCells,loadCellsFrom,storeCells,goInt]
  . right;have hl1:(m.take dn).length<=dn:=by rw[i_];omega
    have hc0:c≠0:=o_;rcases hrow with hz|⟨g,cur,fz,xs,hrow⟩
    . exact absurd hz hc0
    have hml:0<m.length:=(by rw[i_] at h0;omega);obtain⟨ad,rfl⟩:∃ad,A2=some ad:=(by have hp:0<news.length:=(by rw[hnr.1];exact Nat.mul_pos hml hs0);obtain⟨ad,h2,_⟩:=hnl 0 _ (E_ hp);exact⟨ad,h2⟩);have hT:=hnr.takeN dn;have hTl:(news.take (dn * E.size)).length=(m.take dn).length * E.size:=hT.1
    have hload:=run_loadCells_list (P:=P) w ad (news.take (dn * E.size)) (λj u hu=>by
     rw[a_] at hu;split at hu
     . obtain⟨a',ha,hcell⟩:=hnl j u hu;injection ha with ha;subst ha;exact hcell
     . cases hu)
    rw[hTl] at hload;have hcut:jc A c lo E.size=some ⟨g,lo * E.size,none⟩:=(by have:(⟨g,0,none⟩:Addr).add (lo * E.size)=⟨g,lo * E.size,none⟩:=(by unfold Addr.add;split <;> simp_all);unfold jc;rw[if_neg o_,hrow.adr,Option.map_some,this]);have hfl:lo * E.size + (news.take (dn * E.size)).length<=l.length * E.size:=(by rw[hTl,<-g_];exact f_ _ o_);have hlcs:=f_ E.size hlc;have hfit:lo * E.size + 0 + (news.take (dn * E.size)).length<=cur.size:=(by rw[hrow.size];omega);have hst:=kA (P:=P) g (lo * E.size) e fz (news.take (dn * E.size)) 0 cur w hrow.heap hrow.unfrz hfit (λu hu=>hT.one u hu);simp only[F_] at hst;refine⟨w.setRow g (cur.toList.take (lo * E.size)++news.take (dn * E.size)++cur.toList.drop (lo * E.size + (news.take (dn * E.size)).length)).toArray,?_,?_,?_⟩
    . rw[hcut];generalize news.take (dn * E.size)=ns at hload hst;generalize (m.take dn).length=kk at hmin hload;have hmin':min m.length dn=kk:=hmin;simp only[Builtin.copy_,Sem.run_bind,Sem.run_pure,Result.andThen_ok,run_underlying ht,Builtin.lenOf,Builtin.firstCells,hsz,hmin,hload,hst,goInt,List.getElem?_toArray,List.getElem?_cons_zero,List.getElem?_cons_succ]
    . have hlen:(cur.toList.take (lo * E.size)++news.take (dn * E.size)++cur.toList.drop (lo * E.size + (news.take (dn * E.size)).length)).length=cur.size:=(by simp only[p_,i_ (l:=cur.toList),j_,G_];omega);have hol:(over l lo (m.take dn)).length=l.length:=kz _ _ _ o_;refine⟨by rw[hol];exact hlc,hcm,.inr ⟨g,_,fz,_,⟨hrow.adr,setRow_heap w g cur _ e _ hrow.heap,hrow.plain,?_,?_,rfl,?_⟩⟩⟩
      . rw[H_,hlen];exact hrow.unfrz
      . rw[H_,hlen];exact hrow.size
      . have hset:=hrow.rep.over hT lo;refine(congrArg (λq=>iH V E q _) ?_).mp hset;have hxl:xs.length=l.length * E.size:=hrow.rep.1;rw[hol];apply q_;intro j;have hfit2:lo * E.size + (news.take (dn * E.size)).length<=cur.toList.length:=(by rw[G_];omega);generalize news.take (dn * E.size)=ns at hfl hfit2;rw[kv xs ns (lo * E.size) j (by rw[hxl];omega),a_];simp only[S_];rw[kv cur.toList ns (lo * E.size) j hfit2,<-hrow.take,a_];by_cases hj:j<l.length * E.size
        . rw[if_pos hj,if_pos hj]
        . rw[if_neg hj,if_neg hj,if_neg o_]
    . have:jd A c=some g:=(by unfold jd;rw[if_neg hc0,hrow.adr];rfl);rw[this];exact⟨rfl,rfl,rfl,by simp,λb _ hb=>setRow_other w g b _ (λe=>hb (by rw[e]))⟩
 have fin:∃w',(Builtin.copy_ #[t,t'] o.type #[.slice (jc A c lo E.size) dn dc,.slice A2 m.length c2]).run P w=.ok (.int .i64 ((m.take dn).length:Int)) w'/\(kJ p e E A c (over l lo (m.take dn))).ok V w'/\w.grownBy w' (jd A c):=by
  rcases key with ⟨k1,k2⟩|key
  . exact⟨w,k2,k1,rfl,rfl,rfl,v_ _,λ_ _ _=>rfl⟩
  . exact key
 obtain⟨w',hr,hok,hg⟩:=fin;unfold Oper.wp;rw[jG hc hf];have hrun:(execOp (evM M) o).run P w=.ok (.value (.int .i64 ((m.take dn).length:Int))) w':=by simp only[execOp,ho,resolve,invoke,builtin,Sem.run_bind,Sem.run_pure,Result.andThen_ok,List.map_toArray,List.map_cons,List.map_nil,hd,hx,hr]
 rw[hrun];exact h _ _ (hf.put h4 _) (hh.turn hi hg hok (λb hb=>.inl hb))
def lW (l:List Int):ByteArray:=l.foldl (λs n=>s.push (UInt8.ofNat n.toNat)) ByteArray.empty
theorem sB {k:IntKind} {V:View} {xs:List Value} {l:List Int} (h:iH V (eK k) xs l):xs=l.map (Value.int k):=by
 have hl:xs.length=l.length:=by have:=h.1;simpa[eK,m8] using this
 apply q_;intro j;rw[List.getElem?_map]
 cases hj:l[j]? with
 |none=>rw[List.getElem?_eq_none_iff] at hj;simp[hl,hj]
 |some x =>
  have h1:(xs.drop (j * 1)).take 1=[.int k x]:=h.2 j x hj;rw[Nat.mul_one] at h1;have h2:((xs.drop j).take 1)[0]? = some (.int k x):=by rw[h1];rfl
  rw[a_,if_pos c_,d_,F_] at h2;rw[h2];rfl
theorem lc {o:Oper} {src dst e:TypeId} {x:Operand} {A:Option Addr} {c:Nat} {l:List Int} {w:World} (ho:o.op=.convert src dst x) (hx:evM M x=.slice A l.length c)
 (hs:P.underlying src=some (.slice e)) (he:P.underlying e=some (.int .u8)) (hd:P.underlying dst=some .string) (hl:hJ (vw w) (eK .u8) A c l) :
 (execOp (evM M) o).run P w=.ok (.value (.string (lW l))) w:=by
 obtain⟨_,_,xs,h1,h2⟩:=hl;have hxs:=sB h1;subst hxs
 have key:(Conv.bytesToString (.slice A l.length c)).run P w=.ok (.string (lW l)) w:=by
  cases A with
  |none =>
   have:l=[]:=by
    cases l with
    |nil=>rfl
    |cons y l=>obtain⟨a,ha,_⟩:=h2 0 _ rfl;cases ha
   subst this;rfl
  |some a=>refine run_bytesToString w a _ c l ?_;have:=run_loadCells_list (P:=P) w a (l.map (Value.int .u8)) (λj u hu=>by obtain⟨a',ha,hc⟩:=h2 j u hu;injection ha with ha;subst ha;exact hc);rwa[List.length_map] at this
 simp only[execOp,ho,hx,Sem.run_bind,run_convert_bytes_string w src dst e A l.length c hs he hd,key,Result.andThen_ok,Sem.run_pure]
end
end
structure DKey where
 pfs:Int
 obj:Int
 off:Int
 deriving DecidableEq
structure DSpot where
 key:DKey
 made:Int
 deriving DecidableEq
structure DElem where
 key:DKey
 made:Int
 gone:Int
 val:ByteArray
 deriving DecidableEq
structure DFrame where
 kind:Int
 body:ByteArray
 deriving DecidableEq
structure DWrite where
 page:Int
 text:ByteArray
 deriving DecidableEq
structure DSnap where
 name:ByteArray
 tid:Int
 deriving DecidableEq
structure DChange where
 key:DKey
 had:Bool
 has:Bool
 was:ByteArray
 is_:ByteArray
 deriving DecidableEq
structure DNode where
 kind:Int
 elems:List DElem
 kids:List Int
 seps:List DSpot
 tids:List Int
 deriving DecidableEq
theorem jz {l:List Value} (h:l.all Value.oneCell'=true):∀u∈l,u.oneCell'=true:=List.all_eq_true.1 h
def DKey.cells (x:DKey):List Value:=[.int .i64 x.pfs,.int .i64 x.obj,.int .i64 x.off]
def vR:Enc DKey:=m8 3 DKey.cells (λ_=>rfl) (λ_=>jz rfl)
def DSpot.cells (x:DSpot):List Value:=[.int .i64 x.key.pfs,.int .i64 x.key.obj,.int .i64 x.key.off,.int .i64 x.made]
def eSpot:Enc DSpot:=m8 4 DSpot.cells (λ_=>rfl) (λ_=>jz rfl)
def DElem.cells (x:DElem):List Value:=[.int .i64 x.key.pfs,.int .i64 x.key.obj,.int .i64 x.key.off,.int .i64 x.made,.int .i64 x.gone,.string x.val]
def eElem:Enc DElem:=m8 6 DElem.cells (λ_=>rfl) (λ_=>jz rfl)
def DFrame.cells (x:DFrame):List Value:=[.int .i64 x.kind,.string x.body]
def qA:Enc DFrame:=m8 2 DFrame.cells (λ_=>rfl) (λ_=>jz rfl)
def DWrite.cells (x:DWrite):List Value:=[.int .i64 x.page,.string x.text]
def ij:Enc DWrite:=m8 2 DWrite.cells (λ_=>rfl) (λ_=>jz rfl)
def DSnap.cells (x:DSnap):List Value:=[.string x.name,.int .i64 x.tid]
def DChange.cells (x:DChange):List Value:=[.int .i64 x.key.pfs,.int .i64 x.key.obj,.int .i64 x.key.off,.bool x.had,.bool x.has,.string x.was,.string x.is_]
theorem jo:kg (vAg eSpot) (λx=>.agg (DSpot.cells x).toArray):=kg.flatN
theorem lf:kg (vAg eElem) (λx=>.agg (DElem.cells x).toArray):=kg.flatN
theorem pN:kg (vAg qA) (λx=>.agg (DFrame.cells x).toArray):=kg.flatN
def iy:Enc DNode where
 size:=5
 rep:=λV cs x=>∃(A1:Option Addr) (c1:Nat) (A2:Option Addr) (c2:Nat) (A3:Option Addr) (c3:Nat) (A4:Option Addr) (c4:Nat),
  cs=[.int .i64 x.kind,.slice A1 x.elems.length c1,.slice A2 x.kids.length c2,.slice A3 x.seps.length c3,.slice A4 x.tids.length c4] /\
   hJ V eElem A1 c1 x.elems/\hJ V hO A2 c2 x.kids/\hJ V eSpot A3 c3 x.seps/\hJ V hO A4 c4 x.tids
 mono:=λhv ⟨A1,c1,A2,c2,A3,c3,A4,c4,h,h1,h2,h3,h4⟩=>⟨A1,c1,A2,c2,A3,c3,A4,c4,h,h1.mono hv,h2.mono hv,h3.mono hv,h4.mono hv⟩
 len:=λ⟨_,_,_,_,_,_,_,_,h,_⟩=>by rw[h];rfl
 one:=λ⟨_,_,_,_,_,_,_,_,h,_⟩=>by rw[h];exact jz rfl
structure DTree where
 root:Int
 nodes:List DNode
 deriving DecidableEq
structure DDisk where
 pages:List ByteArray
 writes:List DWrite
 deriving DecidableEq
def na:Enc DTree where
 size:=2
 rep:=λV cs x=>∃(A1:Option Addr) (c1:Nat),
  cs=[.int .i64 x.root,.slice A1 x.nodes.length c1]/\hJ V iy A1 c1 x.nodes
 mono:=λhv ⟨A1,c1,h,h1⟩=>⟨A1,c1,h,h1.mono hv⟩
 len:=λ⟨_,_,h,_⟩=>by rw[h];rfl
 one:=λ⟨_,_,h,_⟩=>by rw[h];exact jz rfl
def iC:Enc DDisk where
 size:=2
 rep:=λV cs x=>∃(A1:Option Addr) (c1:Nat) (A2:Option Addr) (c2:Nat),
  cs=[.slice A1 x.pages.length c1,.slice A2 x.writes.length c2]/\hJ V eStr A1 c1 x.pages/\hJ V ij A2 c2 x.writes
 mono:=λhv ⟨A1,c1,A2,c2,h,h1,h2⟩=>⟨A1,c1,A2,c2,h,h1.mono hv,h2.mono hv⟩
 len:=λ⟨_,_,_,_,h,_⟩=>by rw[h];rfl
 one:=λ⟨_,_,_,_,h,_⟩=>by rw[h];exact jz rfl
structure DA16 where
 x0:Int
 x1:Int
 x2:Int
 x3:Int
 x4:Int
 x5:Int
 x6:Int
 x7:Int
 x8:Int
 x9:Int
 x10:Int
 x11:Int
 x12:Int
 x13:Int
 x14:Int
 x15:Int
 deriving DecidableEq
def DA16.list (a:DA16):List Int:=[a.x0,a.x1,a.x2,a.x3,a.x4,a.x5,a.x6,a.x7,a.x8,a.x9,a.x10,a.x11,a.x12,a.x13,a.x14,a.x15]
def DA16.of (l:List Int):DA16:=⟨l.getD 0 0,l.getD 1 0,l.getD 2 0,l.getD 3 0,l.getD 4 0,l.getD 5 0,l.getD 6 0,l.getD 7 0,l.getD 8 0,l.getD 9 0,l.getD 10 0,l.getD 11 0,l.getD 12 0,l.getD 13 0,l.getD 14 0,l.getD 15 0⟩
def DA16.set (a:DA16) (k:Nat) (v:Int):DA16:=DA16.of (a.list.set k v)
def DA16.cells (a:DA16):List Value:=[.int .i64 a.x0,.int .i64 a.x1,.int .i64 a.x2,.int .i64 a.x3,.int .i64 a.x4,.int .i64 a.x5,.int .i64 a.x6,.int .i64 a.x7,.int .i64 a.x8,.int .i64 a.x9,.int .i64 a.x10,.int .i64 a.x11,.int .i64 a.x12,.int .i64 a.x13,.int .i64 a.x14,.int .i64 a.x15]
section
open Go.RowKit
def qS (n:Int):Option Int:=if n=0 then none else some n
theorem qT {n k:Int} (h:qS n=some k):n≠0/\n=k:=by
 unfold qS at h;split at h
 . cases h
 . exact⟨by assumption,u_.inj h⟩
def slt (x y:ByteArray):Bool:=Op.bytesLess x.toList y.toList
def grow {α:Type} (bytes:Nat) (l m:List α):Option (List α):=if (l.length + m.length) * bytes<=140737488355328/\l.length + m.length<=maxLen then some (l++m) else none
theorem ii {α:Type} {bytes:Nat} {l m r:List α} (h:grow bytes l m=some r):oX (l.length + m.length) bytes=true/\l.length + m.length<=maxLen/\l++m=r:=by
 unfold grow at h;split at h
 . rename_i hc;exact⟨decide_eq_true hc.1,hc.2,u_.inj h⟩
 . cases h
section
variable {P:Program} {M:List (Nat×Value)} {o:Oper} {w:World}
theorem rY {t t':TypeId} {x y:Operand} {k:IntKind} {a b d:Int} (ho:o.op=.binOp .quo t x y t') (hx:evM M x=.int k a) (hy:evM M y=.int k b) (hn:qS b=some d) :
 (execOp (evM M) o).run P w=.ok (.value (.int k (k.wrap (a.tdiv d)))) w:=by
 obtain⟨h0,rfl⟩:=qT hn;simp[execOp,ho,hx,hy,eqGuard,binOp,Op.intDiv,h0]
theorem ut {t t':TypeId} {x y:Operand} {k:IntKind} {a b d:Int} (ho:o.op=.binOp .rem t x y t') (hx:evM M x=.int k a) (hy:evM M y=.int k b) (hn:qS b=some d) :
 (execOp (evM M) o).run P w=.ok (.value (.int k (a.tmod d))) w:=by
 obtain⟨h0,rfl⟩:=qT hn;simp[execOp,ho,hx,hy,eqGuard,binOp,Op.intDiv,h0]
end
section
variable {P:Program} {M:List (Nat×Value)} {o:Oper} {w:World}
end
theorem uz {cs seg:List Value} {off n:Nat} {j:Nat} {u:Value} (h:(cs.drop off).take n=seg) (hj:seg[j]? = some u):cs[off + j]? = some u:=by
 rw[<-h,a_] at hj;split at hj
 . rw[d_] at hj;exact hj
 . cases hj
theorem uU {cs seg:List Value} {n:Nat} {j:Nat} {u:Value} (h:cs.take n=seg) (hj:seg[j]? = some u):cs[j]? = some u:=by
 rw[<-h,a_] at hj;split at hj
 . exact hj
 . cases hj
section
variable {α:Type} {w0 w:World} {V:View} {H:List HObj} {E:Enc α} {A:Option Addr} {c:Nat} {l:List α}
theorem Hp.cellBox (h:Hp w0 V H w) {i b:Nat} {t:TypeId} {cs:List Value} (hi:nth H i=some (box b t cs)) (j:Nat):w.cell? ⟨b,j,none⟩=cs[j]?:=h.cell_box (by rw[<-jJ];exact hi) j
theorem Hp.box_at (h:Hp w0 V H w) {i b:Nat} {t:TypeId} {cs:List Value} (hi:nth H i=some (box b t cs)) (off j:Nat):w.cell? ((⟨b,off,none⟩:Addr).add j)=cs[off + j]?:=by
 have hadd:(⟨b,off,none⟩:Addr).add j=⟨b,off + j,none⟩:=by unfold Addr.add;split <;> simp_all
 rw[hadd,h.cellBox hi]
theorem hJ.cellF (h:hJ V E A c l) {k:Nat} {x:α} (hk:l[k]? = some x) (j:Nat) {f:α->List Value} {u:Value} (hE:∀V cs x,E.rep V cs x->cs=f x) (hu:(f x)[j]? = some u) :
 V.cell (((iz A).add (k * E.size)).add j)=some u:=h.cell hk λcs hr=>by rw[hE _ _ _ hr];exact hu
theorem hJ.cellF0 (h:hJ V E A c l) {k:Nat} {x:α} (hk:l[k]? = some x) {f:α->List Value} {u:Value} (hE:∀V cs x,E.rep V cs x->cs=f x) (hu:(f x)[0]? = some u) :
 V.cell ((iz A).add (k * E.size))=some u:=by
 have:=h.cellF hk 0 hE hu;rwa[iW] at this
theorem hJ.wcellF0 (h:hJ (vw w) E A c l) {k:Nat} {x:α} (hk:l[k]? = some x) {f:α->List Value} {u:Value} (hE:∀V cs x,E.rep V cs x->cs=f x) (hu:(f x)[0]? = some u) :
 w.cell? ((iz A).add (k * E.size))=some u:=h.cellF0 hk hE hu
theorem hJ.wcellF (h:hJ (vw w) E A c l) {k:Nat} {x:α} (hk:l[k]? = some x) (j:Nat) {f:α->List Value} {u:Value} (hE:∀V cs x,E.rep V cs x->cs=f x) (hu:(f x)[j]? = some u) :
 w.cell? (((iz A).add (k * E.size)).add j)=some u:=h.cellF hk j hE hu
theorem hJ.cellFG (h:hJ V E A c l) {k:Nat} {x:α} (hk:l[k]? = some x) (off j:Nat) {f:α->List Value} {u:Value} (hE:∀V cs x,E.rep V cs x->cs=f x) (hu:(f x)[off + j]? = some u) :
 V.cell ((((iz A).add (k * E.size)).add off).add j)=some u:=by
 rw[mE _ off j];exact h.cellF hk (off + j) hE hu
theorem hJ.src (h:hJ V E A c l) (hh:Hp w0 V H w):∃news,iH V E news l/\nF (vw w) A news:=by obtain⟨_,_,xs,h1,h2⟩:=h;exact⟨xs,h1,h2.mono hh.view⟩
theorem hJ.srcF {V':View} (h:hJ V' E A c l) (hE:∀V V' cs x,E.rep V cs x->E.rep V' cs x):∃news,iH V E news l/\nF V' A news:=by obtain⟨_,_,xs,h1,h2⟩:=h;exact⟨xs,⟨h1.1,λk x hk=>hE _ _ _ _ (h1.2 k x hk)⟩,h2⟩
theorem sc {b:Nat} {cs:List Value} (h:∀j,w.cell? ⟨b,j,none⟩=cs[j]?):nF (vw w) (some ⟨b,0,none⟩) cs:=λj u hu=>by
 refine⟨_,rfl,?_⟩;have hadd:(⟨b,0,none⟩:Addr).add j=⟨b,j,none⟩:=by unfold Addr.add;split <;> simp_all
 rw[hadd,py,h j,hu]
theorem sC {cs:List Value} {x:α} (h:E.rep V cs x):iH V E cs [x]:=by
 have hl:=E.len h;refine⟨by simp[hl],λk y hk=>?_⟩
 match k,hk with
 |0,hk =>
  have:x=y:=by simpa using hk
  subst this;rw[Nat.zero_mul,List.drop_zero,<-hl,List.take_length];exact h
theorem i9 {u:Value} (h:(vSc (ku E)).rep V u l):∃A c,u=.slice A l.length c/\hJ V E A c l:=by obtain⟨A,c,h1,h2⟩:=h;exact⟨A,c,by simpa using h1,h2⟩
theorem jS {u:Value} {x:α} (h:(vAg E).rep V u x):∃cs:List Value,u=.agg cs.toArray/\E.rep V cs x:=h
theorem iP {α β:Type} {X:VEnc α} {Y:VEnc β} {u:Value} {r:α×β} (h:(vT2 X Y).rep V u r):∃u1 u2,u=.tuple #[u1,u2]/\X.rep V u1 r.1/\Y.rep V u2 r.2:=h
theorem sE {α β γ:Type} {X:VEnc α} {Y:VEnc β} {Z:VEnc γ} {u:Value} {r:α×β×γ} (h:(vT3 X Y Z).rep V u r) :
 ∃u1 u2 u3,u=.tuple #[u1,u2,u3]/\X.rep V u1 r.1/\Y.rep V u2 r.2.1/\Z.rep V u3 r.2.2:=h
end
theorem nY {α:Type} {E:Enc α} {V:View} {f:α->List Value} (hf:∀V x,E.rep V (f x) x):∀l:List α,iH V E (l.flatMap f) l
 |[]=>iH.nil
 |x::l=>by have:=iH.append (sC (hf V x)) (nY hf l);simpa using this
theorem iE {α:Type} {E:Enc α} {w:World} {b:Nat} {f:α->List Value} (l:List α) (hf:∀V x,E.rep V (f x) x) (hm:l.length<=maxLen) (h:∀j,w.cell? ⟨b,j,none⟩=(l.flatMap f)[j]?) :
 hJ (vw w) E (some ⟨b,0,none⟩) l.length l:=⟨v_ _,hm,_,nY hf l,sc h⟩
def js {α:Type} (l:List α) (lo hi:Int):Option (List α):=if 0<=lo/\lo<=hi/\hi<=l.length then some ((l.take hi.toNat).drop lo.toNat) else none
theorem mS {α:Type} {l r:List α} {lo hi:Int} (h:js l lo hi=some r):0<=lo/\lo<=hi/\hi<=l.length/\r=(l.take hi.toNat).drop lo.toNat/\r.length=hi.toNat - lo.toNat:=by
 unfold js at h;split at h
 . rename_i hc;have:=u_.inj h;refine⟨hc.1,hc.2.1,hc.2.2,this.symm,?_⟩;rw[<-this,j_,i_];omega
 . cases h
section
variable {α:Type} {V:View} {E:Enc α} {A:Option Addr} {c:Nat} {l r:List α} {lo hi:Int}
theorem hJ.cut (h:hJ V E A c l) (hr:js l lo hi=some r):hJ V E (jc A c lo.toNat E.size) (c - lo.toNat) r:=by
 obtain⟨h0,h1,h2,hrl,hlen⟩:=mS hr;obtain⟨hc,hm,xs,hrep,hlies⟩:=h;have hxl:=hrep.1;refine⟨by omega,by omega,((xs.take (hi.toNat * E.size)).drop (lo.toNat * E.size)),⟨?_,λk x hk=>?_⟩,λj u hu=>?_⟩
 . rw[j_,i_,hlen,M_,hxl];have:=f_ E.size (show hi.toNat<=l.length by omega);omega
 . subst hrl
   have hk':l[lo.toNat + k]? = some x:=by
    rw[d_,a_] at hk;split at hk
    . exact hk
    . cases hk
   have hkl:k<hi.toNat - lo.toNat:=(by rw[<-hlen];exact(C_.1 hk).1);have h3:=hrep.2 _ x hk';refine(congrArg (λq=>E.rep V q x) ?_).mp h3;apply q_;intro j;rw[a_,a_];split
   . rename_i hj;rw[d_,d_,d_,a_,g_];have hle:(lo.toNat + k + 1) * E.size<=hi.toNat * E.size:=f_ E.size o_;rw[g_,g_,t_] at hle;rw[if_pos o_];congr 1;omega
   . rfl
 . rw[d_,a_] at hu;split at hu
   . rename_i hlt;obtain⟨a,ha,hcell⟩:=hlies _ u hu;have hne:c≠lo.toNat:=λe=>by have:hi.toNat=lo.toNat:=o_;rw[this] at hlt;omega
     refine⟨a.add (lo.toNat * E.size),by unfold jc;rw[if_neg hne,ha];rfl,?_⟩;rw[mE];exact hcell
   . cases hu
end
section
variable {P:Program} {M:List (Nat×Value)} {o:Oper} {w:World}
theorem jj {α:Type} {t e:TypeId} {x:Operand} {lx hx:Option Operand} {A:Option Addr} {c s:Nat} {l r:List α} {lo hi:Int} {k k':IntKind} (ho:o.op=.slice t x lx hx none)
 (hxv:evM M x=.slice A l.length c) (ht:P.underlying t=some (.slice e)) (hs:(sizeOf e).run P w=.ok s w) (hlc:l.length<=c)
 (hlo:match lx with|some y=>evM M y=.int k lo|none=>lo=0) (hhi:match hx with|some y=>evM M y=.int k' hi|none=>hi=l.length) (hr:js l lo hi=some r) :
 (execOp (evM M) o).run P w=.ok (.value (.slice (jc A c lo.toNat s) r.length (c - lo.toNat))) w:=by
 obtain⟨h0,h1,h2,_,hlen⟩:=mS hr;have e1:=@jK P w k' hi c .sliceAcap o_ o_;have e2:=@jK P w k lo hi.toNat .sliceB h0 o_;rw[hlen]
 cases lx with
 |none =>
  dsimp only at hlo;subst hlo
  cases hx with
  |none=>dsimp only at hhi;subst hhi;simp[execOp,ho,hxv,Instr.sliceAt,run_underlying ht,Instr.slice,Instr.sliceBounds,hs,jc]
  |some y=>dsimp only at hhi;simp[execOp,ho,hxv,hhi,Instr.sliceAt,run_underlying ht,Instr.slice,Instr.sliceBounds,hs,jc,e1]
 |some z =>
  dsimp only at hlo
  cases hx with
  |none=>dsimp only at hhi;subst hhi;rw[show ((l.length:Int)).toNat=l.length from Int.toNat_natCast _] at e2;simp[execOp,ho,hxv,hlo,Instr.sliceAt,run_underlying ht,Instr.slice,Instr.sliceBounds,hs,jc,e2]
  |some y=>dsimp only at hhi;simp[execOp,ho,hxv,hlo,hhi,Instr.sliceAt,run_underlying ht,Instr.slice,Instr.sliceBounds,hs,jc,e1,e2]
end
theorem kT (A:Option Addr) (c s:Nat):jc A c 0 s=A:=by
 unfold jc;split
 . rfl
 . cases A with
   |none=>rfl
   |some a=>simp[iW]
theorem lq {α:Type} {l r:List α} {hi:Int} (h:js l 0 hi=some r):r <+: l:=by obtain⟨_,_,_,rfl,_⟩:=mS h;exact List.take_prefix _ _
theorem hJ.cut0 {α:Type} {V:View} {E:Enc α} {A:Option Addr} {c:Nat} {l r:List α} {hi:Int} (h:hJ V E A c l) (hr:js l 0 hi=some r):hJ V E A c r:=by have:=h.cut hr;rwa[show (0:Int).toNat=0 from rfl,kT,Nat.sub_zero] at this
section
variable {P:Program} {M:List (Nat×Value)} {o:Oper} {w:World}
theorem lU {α:Type} {t e:TypeId} {x:Operand} {lx hx:Option Operand} {A:Option Addr} {c s:Nat} {l r:List α} {hi:Int} {k k':IntKind} (ho:o.op=.slice t x lx hx none)
 (hxv:evM M x=.slice A l.length c) (ht:P.underlying t=some (.slice e)) (hs:(sizeOf e).run P w=.ok s w) (hlc:l.length<=c)
 (hlo:match lx with|some y=>evM M y=.int k 0|none=>(0:Int)=0) (hhi:match hx with|some y=>evM M y=.int k' hi|none=>hi=l.length) (hr:js l 0 hi=some r) :
 (execOp (evM M) o).run P w=.ok (.value (.slice A r.length c)) w:=by
 have:(execOp (evM M) o).run P w=.ok (.value (.slice (jc A c (0:Int).toNat s) r.length (c - (0:Int).toNat))) w:=by
  cases lx with
  |none=>cases hx with
   |none=>exact jj (k:=k) (k':=k') (lx:=none) (hx:=none) ho hxv ht hs hlc rfl hhi hr
   |some y=>exact jj (k:=k) (k':=k') (lx:=none) (hx:=some y) ho hxv ht hs hlc rfl hhi hr
  |some z=>cases hx with
   |none=>exact jj (k:=k) (k':=k') (lx:=some z) (hx:=none) ho hxv ht hs hlc hlo hhi hr
   |some y=>exact jj (k:=k) (k':=k') (lx:=some z) (hx:=some y) ho hxv ht hs hlc hlo hhi hr
 rwa[show (0:Int).toNat=0 from rfl,kT,Nat.sub_zero] at this
theorem qE {α:Type} {l r:List α} {lo hi:Int} (h:js l lo hi=some r):lo.toNat + r.length<=l.length:=by obtain⟨h0,h1,h2,_,h4⟩:=mS h;omega
end
inductive OldAll:List HObj->Prop
 |nil:OldAll []
 |box {b:Nat} {t:TypeId} {cs:List Value} {H:List HObj}:OldAll H->OldAll (box b t cs::H)
 |row {α:Type} {p:Bool} {t:TypeId} {E:Enc α} {A:Option Addr} {c:Nat} {l:List α} {H:List HObj}:(∀V V' cs x,E.rep V cs x->E.rep V' cs x)->OldAll H->OldAll (kJ p t E A c l::H)
theorem OldAll.ok:∀ {H:List HObj},OldAll H->∀x∈H,∀V V' w,x.ok V w->x.ok V' w
 |_,.nil=>λ_ hx=>by cases hx
 |_,.box h=>λx hx V V' w hk=>by
  rcases y_.1 hx with rfl|hx
  . exact hk
  . exact h.ok x hx V V' w hk
 |_,.row hE h=>λx hx V V' w hk=>by
  rcases y_.1 hx with rfl|hx
  . obtain⟨h1,h2,h3⟩:=hk;exact⟨h1,h2,h3.imp id λ⟨g,cur,fz,xs,h⟩=>⟨g,cur,fz,xs,{ h with rep:=⟨h.rep.1,λk x hx=>hE V V' _ _ (h.rep.2 k x hx)⟩ }⟩⟩
  . exact h.ok x hx V V' w hk
theorem Hp.old {w0:World} {V V0:View} {H H0:List HObj} (hv:View.le V0 V) (hb:View.le (vw w0) V0) (hs:H0.Sublist H) (ho:OldAll H0):∀w,Hp w0 V H w->Hp w0 V0 H0 w :=
 λ_ h=>Hp.older hv hb hs (λx hx w hk=>ho.ok x hx V V0 w hk) h
theorem Hp.perm {w0 w:World} {V:View} {H H':List HObj} (h:Hp w0 V H w) (hp:H.Perm H'):Hp w0 V H' w :=
 ⟨h.os,h.tape,h.output,h.size,h.view,h.base,λx hx=>h.objs x (hp.mem_iff.2 hx),λx hx=>h.apart x (hp.mem_iff.2 hx),
  (hp.pairwise_iff (λhxy b hy hx=>hxy b hx hy)).1 h.sep⟩
section
variable {P:Program} {N:Sz} {w0:World} {V V0:View} {H H0:List HObj} {M:List (Nat×Value)} {ops:Array Oper} {Q:Exit->Act->World->Prop} {fuel:Nat} {listed:Array Bool}
def TB (P:Program) (Q:Exit->Act->World->Prop) (ops:Array Oper) (N:Sz) (w0:World) (V V0:View) (H H0:List HObj) (M:List (Nat×Value)) (fuel:Nat) (listed:Array Bool) (i:Nat):Prop:=∀o,ops[i]? = some o->W1 P Q ops o N w0 V H M (λa' w'=>Hp w0 V0 H0 w'/\wpAnyH P .any ops Q (Hp w0 V0 H0) fuel (listed.setIfInBounds i true) a' w')
def TBs (φ:Nat->Prop):List Nat->Prop
 |[]=>True
 |i::l=>φ i/\TBs φ l
theorem TBs.get {φ:Nat->Prop}:∀ {l:List Nat},TBs φ l->∀i∈l,φ i
 |_::_,h,i,hi=>by
  rcases y_.1 hi with rfl|hi
  . exact h.1
  . exact TBs.get h.2 i hi
theorem TA.qn (rs:List Nat) (hr:Region.ready .any ops listed=rs) (hne:rs.isEmpty=false) (h:TBs (TB P Q ops N w0 V V0 H H0 M fuel listed) rs) :
 T N w0 V H M (wpAnyH P .any ops Q (Hp w0 V0 H0) (fuel + 1) listed):=λa w hf hh=>by
 refine wpAnyH_all hr (λe=>by rw[e] at hne;cases hne) (λi hi=>?_);have hlt:i<ops.size:=by rw[<-hr] at hi;have h1:=(List.mem_filter.1 hi).1;simpa using h1
 obtain⟨h1,h2⟩:=h.get i hi ops[i] (z_ hlt) a w hf hh;unfold wpOp;simp only[z_ hlt];rw[if_pos h1];exact .inl h2
theorem TA.br {i:Nat} {o:Oper} (ho:ops[i]? = some o)
 (h:W1 P Q ops o N w0 V H M (λa' w'=>Hp w0 V0 H0 w'/\wpAnyH P .any ops Q (Hp w0 V0 H0) fuel (listed.setIfInBounds i true) a' w')):TB P Q ops N w0 V V0 H H0 M fuel listed i:=λo' ho'=>by
 obtain rfl:=u_.inj (ho.symm.trans ho');exact h
theorem TA.on {V':View} {H':List HObj} {M':List (Nat×Value)} {ψ:Act->World->Prop} (hS:∀w,Hp w0 V' H' w->Hp w0 V0 H0 w) (h:T N w0 V' H' M' ψ):T N w0 V' H' M' (λa w=>Hp w0 V0 H0 w/\ψ a w) :=
 λa w hf hh=>⟨hS w hh,h a w hf hh⟩
end
theorem qB {β:Type _}:∀(l:List β) (i:Nat) (x:β),l[i]? = some x->(x::l.eraseIdx i).Perm l
 |[],_,_,h=>by simp at h
 |y::l,0,x,h=>by
  obtain rfl:y=x:=by simpa using h
  exact List.Perm.refl _
 |y::l,i + 1,x,h=>by have:=qB l i x (by simpa using h);exact(List.Perm.swap y x _).trans (this.cons y)
section
variable {α:Type} {N:Sz} {w0:World} {V:View} {H H':List HObj} {M:List (Nat×Value)} {φ:Act->World->Prop} {p:Bool} {e:TypeId} {E:Enc α} {A:Option Addr} {c:Nat} {l:List α}
theorem Hp.freeze {w:World} (h:Hp w0 V H w) (i:Nat) (hi:nth H i=some (kJ p e E A c l)) (hH:H.eraseIdx i=H') :
 ∃V',View.le V V'/\Hp w0 V' H' w/\hJ V' E A c l/\((∀V V' cs x,E.rep V cs x->E.rep V' cs x)->hJ (made w0 V') E A c l):=by
 rw[jJ] at hi;have hp:(kJ p e E A c l::H').Perm H:=by rw[<-hH];exact qB _ _ _ hi
 have hh:=h.perm hp.symm;have hsep:=List.pairwise_cons.1 hh.sep;obtain⟨h1,h2,h3⟩:=hh.objs _ (List.mem_cons_self);have htail:Hp w0 V H' w:=hh.sub (List.sublist_cons_self _ _);by_cases hc:c=0
 . have hl:l=[]:=x_ o_;subst hl;exact⟨V,View.le_refl _,htail,⟨h1,h2,[],iH.nil,λj u hu=>by simp at hu⟩,λ_=>⟨h1,h2,[],iH.nil,λj u hu=>by simp at hu⟩⟩
 . rcases h3 with h3|⟨g,cur,fz,xs,h3⟩
   . exact absurd h3 hc
   have hblk:(kJ p e E A c l).own g:=(by show jd A c=some g;unfold jd;rw[if_neg hc,h3.adr];rfl);have hVg:V g=none:=hh.apart _ (List.mem_cons_self) g hblk
   have hle:View.le V (λb=>if b=g then w.heap[g]? else V b):=λb o hb=>by
    have:b≠g:=λe=>by rw[e,hVg] at hb;cases hb
    simp only[if_neg this];exact hb
   have hnew:¬ g<w0.heap.size:=λhlt=>by have hw:(vw w0) g=some w0.heap[g]:=z_ hlt;rw[h.base g _ hw] at hVg;cases hVg
   have hlies:∀V':View,V' g=w.heap[g]?->nF V' A xs:=λV' hV j u hu=>by obtain⟨a,ha,hcell⟩:=h3.cells j u hu;refine⟨a,ha,?_⟩;have hag:a=⟨g,0,none⟩:=u_.inj (ha.symm.trans h3.adr);subst hag;have e1:((⟨g,0,none⟩:Addr).add j).block=g:=mn _ _;unfold View.cell;rw[e1,hV];rw[py,World.cell?,e1] at hcell;exact hcell
   refine⟨λb=>if b=g then w.heap[g]? else V b,hle,⟨htail.os,htail.tape,htail.output,htail.size,λb o hb=>?_,View.le_trans h.base hle,λx hx=>x.mono V _ w hle (htail.objs x hx),λx hx b hxb=>?_,htail.sep⟩,⟨h1,h2,xs,h3.rep.mono hle,hlies _ s_⟩,λhflat=>⟨h1,h2,xs,⟨h3.rep.1,λk x hk=>hflat _ _ _ _ (h3.rep.2 k x hk)⟩,hlies _ ?_⟩⟩
   . by_cases hbg:b=g
     . subst hbg;simp only[if_pos] at hb;exact hb
     . simp only[if_neg hbg] at hb;exact htail.view b o hb
   . have hbg:b≠g:=λe=>hsep.1 x hx g hblk (by rw[<-e];exact hxb);simp only[if_neg hbg];exact htail.apart x hx b hxb
   . unfold made;rw[if_neg hnew];simp
theorem T.je (i:Nat) (hi:nth H i=some (kJ p e E A c l)) (hH:H.eraseIdx i=H') (hflat:∀V V' cs x,E.rep V cs x->E.rep V' cs x) (h:∀V',View.le V V'->hJ (made w0 V') E A c l->T N w0 V' H' M φ):T N w0 V H M φ:=λa w hf hh=>by obtain⟨V',h1,h2,_,h4⟩:=hh.freeze i hi hH;exact h V' h1 (h4 hflat) a w hf h2
end
section
variable {α:Type} {N:Sz} {w0:World} {V:View} {H H':List HObj} {M:List (Nat×Value)} {φ:Act->World->Prop} {p:Bool} {e:TypeId} {E:Enc α} {A:Option Addr} {c:Nat} {l l0:List α}
theorem T.mC (i:Nat) (hi:nth H i=some (kJ p e E A c l0)) (hp:l <+: l0) (h:T N w0 V (H.set i (kJ p e E A c l)) M φ):T N w0 V H M φ:=λa w hf hh=>by refine h a w hf ?_;rw[jJ] at hi;exact hh.turn (o:=none) hi ⟨rfl,rfl,rfl,v_ _,λ_ _ _=>rfl⟩ (nX (hh.objs _ (l_ hi)) hp) (λb hb=>.inl hb) (λb e=>by cases e)
end
section
variable {P:Program} {N:Sz} {N':Nat} {w0:World} {V:View} {H:List HObj} {M:List (Nat×Value)} {ops:Array Oper} {Q:Exit->Act->World->Prop} {o:Oper} {K:Act->World->Prop} {fn:Func} {c:Code}
theorem W1.im (f:FuncId) (l:List Value) (I:Value->World->Prop) (hfn:P.funcs[f]? = some fn) (hb:fn.body=some c) (hN:fn.ntmps=N') (hc:okO N ops M o=true)
 (hv:∀w,(execOp (evM M) o).run P w=.ok (.enter f l.toArray) w) (hn:Nat.ble l.length N'=true)
 (h:T ⟨N',[]⟩ w0 V H (rR 0 l) (c.wpIn (RF none) 0 P (bodyPost P fn (λe w'=>∃v,e=.returned v/\I v w'))))
 (k:∀v w',I v w'->∃V' H',Hp w0 V' H' w'/\T N w0 V' H' (ju o.dst v M) K):W1 P Q ops o N w0 V H M K :=
 W1.tJ f l.toArray (rR 0 l) hfn hb hN hc hv (by simpa using Nat.le_of_ble_eq_true hn) (λt v hv=>by simpa using (pp l 0 t v hv).2)
  (λa w hf hh=>Code.wpIn_mono (λe a w hq=>by
   have kk:∀e w,(∃v,e=Ending.returned v/\I v w)->∃v,e=Ending.returned v/\∀a,Fr N (ju o.dst v M) a->K a w:=λe w ⟨v,hv,hI⟩=>⟨v,hv,λa hfr=>by obtain⟨V',H',hh',ht⟩:=k v w hI;exact ht a w hfr hh'⟩
   cases e with
   |ret=>exact⟨hq.1,hq.2.imp λv hv=>⟨hv.1,kk _ _ hv.2⟩⟩
   |normal=>exact⟨hq.1,hq.2.imp λv hv=>⟨hv.1,kk _ _ hv.2⟩⟩
   |panic ch=>exact⟨hq.1,kk _ _ hq.2⟩
   |outgrown=>exact kk _ _ hq
   |_=>exact hq) (h a w hf hh))
end
theorem tF (x y:ByteArray):seq x y=true↔x=y:=by unfold seq;rw[beq_iff_eq,ByteArray.toList_eq,ByteArray.toList_eq];obtain⟨⟨x⟩⟩:=x;obtain⟨⟨y⟩⟩:=y;simp
theorem nJ (x y:DKey):(x==y)=(x.pfs==y.pfs&&(x.obj==y.obj&&x.off==y.off)):=by obtain⟨a,b,c⟩:=x;obtain⟨a',b',c'⟩:=y;rw[I_];simp[DKey.mk.injEq]
theorem tK (x y:DSpot):(x==y)=(x.key==y.key&&x.made==y.made):=by obtain⟨a,b⟩:=x;obtain⟨a',b'⟩:=y;rw[I_];simp[DSpot.mk.injEq]
theorem rd (x y:DElem):(x==y)=(x.key==y.key&&(x.made==y.made&&(x.gone==y.gone&&seq x.val y.val))):=by obtain⟨a,b,c,d⟩:=x;obtain⟨a',b',c',d'⟩:=y;rw[I_];simp[DElem.mk.injEq,tF]
theorem sM (x y:DWrite):(x==y)=(x.page==y.page&&seq x.text y.text):=by obtain⟨a,b⟩:=x;obtain⟨a',b'⟩:=y;rw[I_];simp[DWrite.mk.injEq,tF]
end
end Go.Proofs.YtnofgfobljadbaaGreat
