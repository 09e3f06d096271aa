/- The program logic's rules for slices whose array the call has made: append, make, stores, conversions. Its conditions: none. -/
import Derived.Test.YtnofgfobljadbaaGreatMemO
import Derived.Lib.ConvBytes
import Derived.Laws.BytesString
open List renaming getElem?_take→a_, getElem?_drop→f_, length_take→i_, length_append→j_, mem_of_getElem?→l_, ext_getElem?→p_, length_drop→t_, eq_nil_of_length_eq_zero→v_, replicate→x_, getElem?_eq_getElem→z_, size_toArray→D_, getElem?_append_left→E_, getElem?_append_right→F_, getElem?_eq_some_iff→G_, length_set→H_, length_replicate→N_, toList_toArray→P_
open Nat renaming mul_le_mul_right→d_, add_mul→g_, one_mul→q_, le_refl→u_, mul_comm→y_, add_zero→B_, eq_zero_or_pos→J_, zero_le→L_, min_eq_left→M_
open Array renaming length_toList→C_, getElem?_toList→K_, getElem?_eq_getElem→O_
open Option renaming some→I_
namespace Go.Proofs.YtnofgfobljadbaaGreat
set_option linter.unusedSimpArgs false
set_option linter.unusedVariables false
section
open Go.RowKit
section
variable {α:Type} {E:Enc α} {V:View} {l:List α}
theorem jO {β:Type} (xs vs:List β) (a j:Nat) (h:a + vs.length<=xs.length):(xs.take a++vs++xs.drop (a + vs.length))[j]? = if a<=j/\j<a + vs.length then vs[j - a]? else xs[j]?:=by
 have hta:(xs.take a).length=a:=by rw[i_];omega
 by_cases h1:j<a
 . rw[if_neg o_,List.append_assoc,E_ o_,a_,if_pos h1]
 . by_cases h2:j<a + vs.length
   . rw[if_pos ⟨by omega,h2⟩,E_ (by rw[j_];omega),F_ o_,hta]
   . rw[if_neg o_,F_ (by rw[j_];omega),j_,hta,f_];congr 1;omega
theorem uK {xs ys:List Value} {i s:Nat} (h:∀j,i * s<=j->j<i * s + s->xs[j]? = ys[j]?):(xs.drop (i * s)).take s=(ys.drop (i * s)).take s:=by
 apply p_;intro j;rw[a_,a_];split
 . rw[f_,f_];exact h _ o_ o_
 . rfl
theorem io.set {xs vs:List Value} {k off:Nat} {e e':α} (h:io V E xs l) (hk:l[k]? = some e) (ho:off + vs.length<=E.size)
 (hst:∀cs,E.rep V cs e->E.rep V (cs.take off++vs++cs.drop (off + vs.length)) e'):io V E (xs.take (k * E.size + off)++vs++xs.drop (k * E.size + off + vs.length)) (l.set k e'):=by
 have hkl:k<l.length:=(G_.1 hk).1;have hfit:k * E.size + off + vs.length<=xs.length:=by rw[h.1];have:=d_ E.size (show k + 1<=l.length from hkl);rw[g_,q_] at this;omega
 refine⟨by rw[H_,<-h.1];simp only[j_,i_,t_];omega,λi x hx=>?_⟩;rw[List.getElem?_set] at hx;split at hx
 . rename_i hik;subst hik;obtain rfl:=I_.inj hx;have h1:=hst _ (h.2 k e hk);have hlen:=E.len (h.2 k e hk);refine(congrArg (λz=>E.rep V z e') ?_).mp h1;apply p_;intro j;have e1:=jO ((xs.drop (k * E.size)).take E.size) vs off j (by rw[hlen];exact ho);rw[e1]
   conv=>rhs;rw[a_,f_,jO xs vs (k * E.size + off) _ hfit]
   conv=>lhs;rw[a_,f_]
   by_cases hj:j<E.size
   . rw[if_pos hj];by_cases h2:off<=j/\j<off + vs.length
     . rw[if_pos h2,if_pos hj,if_pos o_];congr 1;omega
     . rw[if_neg h2,if_pos hj,if_neg o_]
   . rw[if_neg hj,if_neg hj,if_neg o_]
 . rename_i hik;have h1:=h.2 i x hx;refine(congrArg (λz=>E.rep V z x) (uK λj hj1 hj2=>?_)).mp h1;rw[jO xs vs (k * E.size + off) _ hfit,if_neg ?_];rintro⟨h2,h3⟩;rcases Nat.lt_or_ge i k with h4|h4
   . have:=d_ E.size (show i + 1<=k from h4);rw[g_,q_] at this;omega
   . have:=d_ E.size (show k + 1<=i by omega);rw[g_,q_] at this;omega
theorem io.append {xs ys:List Value} {m:List α} (h:io V E xs l) (k:io V E ys m):io V E (xs++ys) (l++m):=by
 refine⟨by simp[h.1,k.1,g_],λi x hx=>?_⟩;by_cases hi:i<l.length
 . rw[E_ hi] at hx;have h1:=h.2 i x hx;have hle:i * E.size + E.size<=xs.length:=by rw[h.1];have:=d_ E.size (show i + 1<=l.length from hi);rw[g_,q_] at this;exact this
   rw[List.drop_append_of_le_length o_,List.take_append_of_le_length (by rw[t_];omega)];exact h1
 . rw[F_ o_] at hx;have h1:=k.2 _ x hx;have hmul:(i - l.length) * E.size=i * E.size - xs.length:=by rw[h.1,Nat.sub_mul]
   rw[hmul] at h1;have hge:xs.length<=i * E.size:=(by rw[h.1];exact d_ E.size o_);rw[List.drop_append,List.drop_eq_nil_of_le hge,List.nil_append];exact h1
theorem io.one {xs:List Value} (h:io V E xs l):∀u∈xs,u.oneCell'=true:=λu hu=>by
 obtain⟨j,hj,rfl⟩:=List.getElem_of_mem hu
 have hs:0<E.size:=by
  rcases J_ E.size with h0|h0
  . rw[h.1,h0] at hj;simp at hj
  . exact h0
 have hk:j / E.size<l.length:=Nat.div_lt_of_lt_mul (by rw[h.1] at hj;rw[y_];exact hj);have h1:=h.2 (j / E.size) _ (z_ hk);refine E.one h1 _ ?_;have hm:j % E.size<E.size:=Nat.mod_lt _ hs;have hj':j / E.size * E.size + j % E.size=j:=by rw[y_];exact Nat.div_add_mod j E.size
 refine l_ (i:=j % E.size) ?_;rw[a_,if_pos hm,f_,hj'];exact z_ hj
theorem io.nil:io V E [] []:=⟨by simp,λk x hk=>by simp at hk⟩
end
def iN (A:Option Addr) (c lo size:Nat):Option Addr:=if c=lo then A else A.map (·.add (lo * size))
def uP (fz:Nat×Nat) (n:Nat):Prop:=∀i,i<n->¬ (fz.1<=i/\i<fz.2)
structure RowAt {α:Type} (p:Bool) (t:TypeId) (E:Enc α) (A:Option Addr) (c:Nat) (l:List α) (V:View) (w:World) (g:Nat) (cur:Array Value) (fz:Nat×Nat) (xs:List Value):Prop where
 adr:A=some ⟨g,0,none⟩
 heap:w.heap[g]? = some (.cells cur t fz)
 plain:p=true->fz=(0,0)
 unfrz:uP fz cur.size
 size:cur.size=c * E.size
 take:cur.toList.take (l.length * E.size)=xs
 rep:io V E xs l
def iJ (A:Option Addr) (c:Nat):Option Nat:=if c=0 then none else A.map (·.block)
def jQ {α:Type} (p:Bool) (t:TypeId) (E:Enc α) (A:Option Addr) (c:Nat) (l:List α):HObj where
 own:=λb'=>iJ A c=some b'
 ok:=λV w=>l.length<=c/\c<=maxLen/\(c=0\/∃g cur fz xs,RowAt p t E A c l V w g cur fz xs)
 loc:=λV w w' hb ⟨h1,h2,h3⟩=>by
  by_cases hc:c=0
  . exact⟨h1,h2,.inl hc⟩
  . rcases h3 with h3|⟨g,cur,fz,xs,h⟩
    . exact absurd h3 hc
    . exact⟨h1,h2,.inr ⟨g,cur,fz,xs,{ h with heap:=by rw[hb g (by unfold iJ;rw[if_neg hc,h.adr];rfl)];exact h.heap }⟩⟩
 mono:=λV V' w hv ⟨h1,h2,h3⟩=>⟨h1,h2,h3.imp id λ⟨g,cur,fz,xs,h⟩=>⟨g,cur,fz,xs,{ h with rep:=h.rep.mono hv }⟩⟩
 lt:=λV w b ⟨_,_,h3⟩ hb=>by
  unfold iJ at hb
  split at hb
  . cases hb
  . rename_i hc
    rcases h3 with h3|⟨g,cur,fz,xs,h⟩
    . exact absurd h3 hc
    . rw[h.adr] at hb
      injection hb with hb
      subst hb
      exact jr h.heap
abbrev row {α:Type} (t:TypeId) (E:Enc α) (A:Option Addr) (c:Nat) (l:List α):HObj:=jQ true t E A c l
theorem RowAt.cells {α:Type} {p:Bool} {t:TypeId} {E:Enc α} {A:Option Addr} {c:Nat} {l:List α} {V:View} {w:World} {g:Nat} {cur:Array Value} {fz:Nat×Nat} {xs:List Value}
 (h:RowAt p t E A c l V w g cur fz xs):m5 (vw w) A xs:=λj u hu=>by
 refine⟨_,h.adr,?_⟩;have hadd:(⟨g,0,none⟩:Addr).add j=⟨g,j,none⟩:=by unfold Addr.add;split <;> simp_all
 rw[hadd,oO,cell_of_row w g j cur t fz h.heap];have hx:=hu;rw[<-h.take,a_] at hx;split at hx
 . rw[<-K_];exact hx
 . cases hx
theorem Hp.fresh_obj {w0:World} {V:View} {H:List HObj} {w w':World} (h:Hp w0 V H w) (x:HObj) (hg:w.grownBy w' none) (hok:x.ok V w') (hb:∀b,x.own b->w.heap.size<=b):Hp w0 V (x::H) w':=by
 have hold:∀b,b<w.heap.size->w'.heap[b]? = w.heap[b]?:=λb hb'=>hg.block b hb' s_;refine⟨hg.os.trans h.os,hg.tape.trans h.tape,hg.output.trans h.output,Nat.le_trans h.size hg.size,λb o hv=>?_,h.base,λy hy=>?_,λy hy b hyb=>?_,?_⟩
 . show w'.heap[b]? = some o;have:=h.view b o hv;rw[hold b (jr this)];exact this
 . rcases List.mem_cons.1 hy with rfl|hy
   . exact hok
   . exact y.loc V w w' (λb hyb=>hold b (y.lt V w b (h.objs y hy) hyb)) (h.objs y hy)
 . rcases List.mem_cons.1 hy with rfl|hy
   . cases hv:V b with
     |none=>rfl
     |some o=>exact absurd (jr (h.view _ _ hv)) (by have:=hb b hyb;omega)
   . exact h.apart y hy b hyb
 . refine List.Pairwise.cons (λy hy b hxb hyb=>?_) h.sep;have:=y.lt V w b (h.objs y hy) hyb;have:=hb b hxb;omega
section
variable {P:Program} {α:Type} {N:Sz} {w0:World} {V:View} {H:List HObj} {M:List (Nat×Value)} {ops:Array Oper} {Q:Exit->Act->World->Prop} {o:Oper} {K:Act->World->Prop} {E:Enc α} {p:Bool} {t e:TypeId} {A:Option Addr} {c:Nat} {l:List α}
theorem T.il (t:TypeId) (E:Enc α) (h:T N w0 V (row t E none 0 []::H) M K):T N w0 V H M K:=λa w hf hh =>
 h a w hf (hh.fresh_obj _ ⟨rfl,rfl,rfl,u_ _,λ_ _ _=>rfl⟩ ⟨u_ _,by decide,.inl rfl⟩ (λb hb=>by cases hb))
theorem W1.jH (t:TypeId) (E:Enc α) (h:W1 P Q ops o N w0 V (row t E none 0 []::H) M K):W1 P Q ops o N w0 V H M K:=λa w hf hh =>
 h a w hf (hh.fresh_obj _ ⟨rfl,rfl,rfl,u_ _,λ_ _ _=>rfl⟩ ⟨u_ _,by decide,.inl rfl⟩ (λb hb=>by cases hb))
theorem Hp.row_slOk {w:World} (h:Hp w0 V H w) {i:Nat} (hi:nth H i=some (jQ p t E A c l)):fI (vw w) E A c l:=by
 rw[i9] at hi;obtain⟨h1,h2,h3⟩:=h.objs _ (l_ hi);rcases h3 with h3|⟨g,cur,fz,xs,h3⟩
 . have hl:l=[]:=v_ o_;subst hl;exact⟨h1,h2,[],io.nil,λj u hu=>by simp at hu⟩
 . exact⟨h1,h2,xs,h3.rep.mono h.view,h3.cells⟩
theorem Hp.row_fresh {w:World} (h:Hp w0 V H w) {i:Nat} (hi:nth H i=some (jQ p t E A c l)) (hflat:∀xs,io V E xs l->io (pp w0 w) E xs l):fI (pp w0 w) E A c l:=by
 rw[i9] at hi;obtain⟨h1,h2,h3⟩:=h.objs _ (l_ hi);by_cases hc:c=0
 . have hl:l=[]:=v_ o_;subst hl;exact⟨h1,h2,[],io.nil,λj u hu=>by simp at hu⟩
 rcases h3 with h3|⟨g,cur,fz,xs,h3⟩
 . exact absurd h3 hc
 . refine⟨h1,h2,xs,hflat xs h3.rep,λj u hu=>?_⟩;obtain⟨a,ha,hcell⟩:=h3.cells j u hu;refine⟨a,ha,?_⟩;have hag:a=⟨g,0,none⟩:=I_.inj (ha.symm.trans h3.adr);have hnew:¬ g<w0.heap.size:=λhlt=>by have hb:=h.apart _ (l_ hi) g (by show iJ A c=some g;unfold iJ;rw[if_neg hc,h3.adr];rfl);have hw:(vw w0) g=some w0.heap[g]:=O_ hlt;rw[h.base g _ hw] at hb;cases hb
   subst hag;have e1:((⟨g,0,none⟩:Addr).add j).block=g:=lL _ _;unfold View.cell pp;rw[e1,if_neg hnew];rw[oO,World.cell?,e1] at hcell;exact hcell
theorem mH (w:World) (t ty e:TypeId) (i:TypeInfo) (ht:P.underlying t=some (.slice e)) (hi:P.info? e=some i)
 (A B:Option Addr) (n c1:Nat) (hn:n<=c1) (c:Nat):(Builtin.append_ #[t,t] ty #[.slice A n c1,.slice B 0 c]).run P w=.ok (.slice A n c1) w:=by
 cases A <;> cases B <;> simp[Builtin.append_,run_underlying ht,sizeOf,typeInfo,hi,Builtin.lenOf,Builtin.firstCells,hn,storeCells,loadCells,loadCellsFrom]
theorem pG (w:World) (t ty e:TypeId) (i:TypeInfo) (ht:P.underlying t=some (.slice e)) (hi:P.info? e=some i)
 (a b:Addr) (m c:Nat) (hm:0<m) (h63:m<=maxLen) (hb:m * i.bytes<=140737488355328) :
 (Builtin.append_ #[t,t] ty #[.slice (some a) 0 0,.slice (some b) m c]).run P w=(Builtin.append_ #[t,t] ty #[.slice none 0 0,.slice (some b) m c]).run P w:=by
 have hf:¬ (281474976710656<Builtin.nextslicecap m 0 * i.bytes):=by have:=growslice_fits (need:=m) (old:=0) (bytes:=i.bytes) hm hb;omega
 have h0:¬ m=0:=o_;have h1:¬ ((9223372036854775807:Int)<m):=by simp[maxLen] at h63;omega
 simp[Builtin.append_,run_underlying ht,sizeOf,typeInfo,hi,Builtin.lenOf,Builtin.firstCells,h0,h1,hf,loadCells,loadCellsFrom]
def mY (n bytes:Nat):Bool:=decide (n * bytes<=140737488355328)
theorem RowAt.owns {w:World} {g:Nat} {cur:Array Value} {fz:Nat×Nat} {xs:List Value} (h:RowAt true t E A c l V w g cur fz xs) (hl:l.length<=c) (hc:c<=maxLen) :
 w.ownsRow 0 t E.size (.slice A l.length c) l.length xs:=by
 refine⟨h.rep.1,.inr ⟨g,c,cur,by rw[h.adr],L_ _,?_,hl,hc,h.size,h.take⟩⟩;rw[h.heap,h.plain rfl]
theorem oH {w:World} {xs:List Value} (h:w.ownsRow 0 t E.size (.slice A l.length c) l.length xs) (hr:io V E xs l):(jQ p t E A c l).ok V w:=by
 rcases h.2 with ⟨hv,hn⟩|⟨g,cap,cur,hv,_,hg,hnc,hcap,hcs,htake⟩
 . injection hv with _ _ hc;exact⟨by omega,by rw[hc];decide,.inl hc⟩
 . injection hv with hA _ hc;subst hc;exact⟨hnc,hcap,.inr ⟨g,cur,(0,0),xs,⟨hA,hg,λ_=>rfl,λi _ hi=>by have:=hi.2;simp at this,hcs,htake,hr⟩⟩⟩
theorem io.takeN {V:View} {E:Enc α} {l:List α} {xs:List Value} (h:io V E xs l) (n:Nat):io V E (xs.take (n * E.size)) (l.take n):=by
 refine⟨?_,λk x hk=>?_⟩
 . rw[i_,i_,h.1];rcases Nat.le_total n l.length with hn|hn
   . rw[M_ hn,M_ (d_ _ hn)]
   . rw[Nat.min_eq_right hn,Nat.min_eq_right (d_ _ hn)]
 . rw[a_] at hk;split at hk
   . rename_i hkn;have h1:=h.2 k x hk;refine(congrArg (λz=>E.rep V z x) ?_).mp h1;have:=d_ E.size (show k + 1<=n from hkn);rw[g_,q_] at this;apply p_;intro j;rw[a_,a_];split
     . rw[f_,f_,a_,if_pos o_]
     . rfl
   . cases hk
theorem io.dropN {V:View} {E:Enc α} {l:List α} {xs:List Value} (h:io V E xs l) (n:Nat):io V E (xs.drop (n * E.size)) (l.drop n):=by refine⟨by rw[t_,t_,h.1,Nat.sub_mul],λk x hk=>?_⟩;rw[f_] at hk;have h1:=h.2 _ x hk;rw[List.drop_drop,<-g_];exact h1
theorem nq {V:View} {E:Enc α} {A:Option Addr} {c:Nat} {l l0:List α} {p:Bool} {e:TypeId} {w:World} (h:(jQ p e E A c l0).ok V w) (hp:l <+: l0):(jQ p e E A c l).ok V w:=by
 obtain⟨h1,h2,h3⟩:=h;have hle:=hp.length_le;refine⟨by omega,h2,h3.imp id λ⟨g,cur,fz,xs,h⟩=>⟨g,cur,fz,xs.take (l.length * E.size),{ h with take:=?_,rep:=?_ }⟩⟩
 . rw[<-h.take,List.take_take];have:=d_ E.size hle;rw[M_ this]
 . have:=h.rep.takeN l.length;rwa[show l0.take l.length=l from (List.prefix_iff_eq_take.1 hp).symm] at this
theorem W1.rm (i:Nat) {l0 m:List α} {A2:Option Addr} {c2:Nat} (s x:Operand) (bytes:Nat) (ti:TypeInfo) (z:Value) (hi:nth H i=some (row e E A c l0)) (hpre:l <+: l0)
 (hc:okO N ops M o=true) (ho:o.op=.call { callee:=.builtin .append,args:=#[s,x],argTypes:=#[t,t] })
 (ht:P.underlying t=some (.slice e)) (hti:P.info? e=some ti) (hz:ti.zero=some z) (hsize:ti.size=E.size) (hby:ti.bytes=bytes) (hzs:z.cells.size=E.size) (hsz:0<E.size)
 (hs:evM M s=.slice A l.length c) (hx:evM M x=.slice A2 m.length c2) (hsrc:∀w,Hp w0 V H w->∃news,io V E news m/\m5 (vw w) A2 news)
 (hroom:mY (l.length + m.length) bytes=true) (hmax:l.length + m.length<=maxLen)
 (h:∀A' c',T N w0 V (H.set i (row e E A' c' (l++m))) (ic o.dst (.slice A' (l++m).length c') M) K):W1 P Q ops o N w0 V H M K:=λa w hf hh=>by
 obtain⟨h1,_,_,h4⟩:=iP hc;rw[i9] at hi;refine⟨iM hf h1,?_⟩;have hok:=nq (hh.objs _ (l_ hi)) hpre;obtain⟨hlc,hcm,hrow⟩:=hok;obtain⟨news,hnr,hl2⟩:=hsrc w hh;have hbytes:(l.length + m.length) * bytes<=140737488355328:=of_decide_eq_true hroom;have hlen:(l++m).length=l.length + m.length:=j_
 have key:∃A' c' w',(Builtin.append_ #[t,t] o.type #[.slice A l.length c,.slice A2 m.length c2]).run P w=.ok (.slice A' (l++m).length c') w'/\(row e E A' c' (l++m)).ok V w' /\
  w.grownBy w' (iJ A c)/\(∀b,iJ A' c'=some b->iJ A c=some b\/w.heap.size<=b):=by
  have same:m.length=0->(Builtin.append_ #[t,t] o.type #[.slice A l.length c,.slice A2 m.length c2]).run P w=.ok (.slice A l.length c) w->∃A' c' w',(Builtin.append_ #[t,t] o.type #[.slice A l.length c,.slice A2 m.length c2]).run P w=.ok (.slice A' (l++m).length c') w'/\(row e E A' c' (l++m)).ok V w' /\
   w.grownBy w' (iJ A c)/\(∀b,iJ A' c'=some b->iJ A c=some b\/w.heap.size<=b):=λhm hr=>by
   obtain rfl:=v_ hm;refine⟨A,c,w,by simpa using hr,by rw[List.append_nil];exact⟨hlc,hcm,hrow⟩,⟨rfl,rfl,rfl,u_ _,λ_ _ _=>rfl⟩,λb hb=>.inl hb⟩
  rcases J_ m.length with hm0|hm0
  . refine same hm0 ?_;rw[hm0];exact mH w t o.type e ti ht hti A A2 _ c hlc c2
  obtain⟨ad,rfl⟩:∃ad,A2=some ad:=by have hp:0<news.length:=(by rw[hnr.1];exact Nat.mul_pos hm0 hsz);obtain⟨ad,h2,_⟩:=hl2 0 _ (z_ hp);exact⟨ad,h2⟩
  have hnews:∀j u,news[j]? = some u->w.cell? (ad.add j)=some u:=λj u hu=>by obtain⟨a',ha,hcell⟩:=hl2 j u hu;injection ha with ha;subst ha;exact hcell
  have fin:∀(A0:Option Addr) (c0:Nat) (xs:List Value),w.ownsRow 0 e E.size (.slice A0 l.length c0) l.length xs->io V E xs l->(∀b,A0.map (·.block)=some b->iJ A c=some b) ->
   (Builtin.append_ #[t,t] o.type #[.slice A l.length c,.slice (some ad) m.length c2]).run P w=(Builtin.append_ #[t,t] o.type #[.slice A0 l.length c0,.slice (some ad) m.length c2]).run P w ->
   ∃A' c' w',(Builtin.append_ #[t,t] o.type #[.slice A l.length c,.slice (some ad) m.length c2]).run P w=.ok (.slice A' (l++m).length c') w'/\(row e E A' c' (l++m)).ok V w' /\
    w.grownBy w' (iJ A c)/\(∀b,iJ A' c'=some b->iJ A c=some b\/w.heap.size<=b):=λA0 c0 xs hown hrep hblk heq=>by
   obtain⟨v',w',hr,h2,h3,_,h5⟩:=run_append_own_at (P:=P) w 0 t o.type e ti z E.size bytes ht hti hz hsize hby hzs hsz _ _ xs hown ad m.length c2 news hnr.1
    hnews hnr.one hmax hbytes (L_ _)
   have hob:Value.ownBlock (.slice A0 l.length c0)=A0.map (·.block):=(by cases A0 <;> rfl);rw[hob] at h3 h5;rcases h2.2 with ⟨hv,hn⟩|⟨g,cap,cur,hv,_,hg,_⟩
   . omega
   . subst hv;rw[<-hlen] at h2;refine⟨_,_,w',heq.trans (hr.trans (by rw[hlen])),oH h2 (hrep.append hnr),⟨h3.os,h3.tape,h3.output,h3.size,λk hk hne=>h3.block k hk (λe=>hne ?_)⟩,λb hb=>?_⟩
     . exact(hblk k e.symm).symm
     . unfold iJ at hb;split at hb
       . cases hb
       . rcases h5 with h5|h5
         . left;injection hb with hb;subst hb;exact hblk _ (by rw[<-h5];rfl)
         . right;injection hb with hb;injection h5 with h5;subst hb;exact Nat.le_of_eq h5.symm
  by_cases hc0:c=0
  . subst hc0;have hl0:l=[]:=v_ o_;subst hl0;refine fin none 0 [] (World.ownsRow_nil w 0 e E.size) io.nil (λb hb=>by cases hb) ?_
    cases A with
    |none=>rfl
    |some a=>exact pG w t o.type e ti ht hti a ad m.length c2 hm0 (by simpa using hmax) (by rw[hby];simpa using hbytes)
  . rcases hrow with h0|⟨g,cur,fz,xs,hrow⟩
    . exact absurd h0 hc0
    . exact fin A c xs (hrow.owns hlc hcm) hrow.rep (λb hb=>by unfold iJ;rw[if_neg hc0];exact hb) rfl
 obtain⟨A',c',w',hr,hok,hg,hb⟩:=key;unfold Oper.wp;rw[ja hc hf];have hrun:(execOp (evM M) o).run P w=.ok (.value (.slice A' (l++m).length c')) w':=by simp only[execOp,ho,resolve,invoke,builtin,Sem.run_bind,Sem.run_pure,Result.andThen_ok,List.map_toArray,List.map_cons,List.map_nil,hs,hx,hr]
 rw[hrun];exact h A' c' _ _ (hf.put h4 _) (hh.turn hi hg hok hb)
theorem W1.kE (i:Nat) {m:List α} {A2:Option Addr} {c2:Nat} (s x:Operand) (bytes:Nat) (ti:TypeInfo) (z:Value) (hi:nth H i=some (row e E A c l))
 (hc:okO N ops M o=true) (ho:o.op=.call { callee:=.builtin .append,args:=#[s,x],argTypes:=#[t,t] })
 (ht:P.underlying t=some (.slice e)) (hti:P.info? e=some ti) (hz:ti.zero=some z) (hsize:ti.size=E.size) (hby:ti.bytes=bytes) (hzs:z.cells.size=E.size) (hsz:0<E.size)
 (hs:evM M s=.slice A l.length c) (hx:evM M x=.slice A2 m.length c2) (hsrc:∀w,Hp w0 V H w->∃news,io V E news m/\m5 (vw w) A2 news)
 (hroom:mY (l.length + m.length) bytes=true) (hmax:l.length + m.length<=maxLen)
 (h:∀A' c',T N w0 V (H.set i (row e E A' c' (l++m))) (ic o.dst (.slice A' (l++m).length c') M) K):W1 P Q ops o N w0 V H M K :=
 W1.rm i s x bytes ti z hi (List.prefix_refl l) hc ho ht hti hz hsize hby hzs hsz hs hx hsrc hroom hmax h
theorem W1.qM (n:Nat) (x:α) (ln cp:Operand) (kl kc:IntKind) (bytes:Nat) (ti:TypeInfo) (z:Value)
 (hc:okO N ops M o=true) (ho:o.op=.makeSlice t ln cp) (ht:P.underlying t=some (.slice e)) (hti:P.info? e=some ti) (hz:ti.zero=some z) (hsize:ti.size=E.size) (hby:ti.bytes=bytes)
 (hl:evM M ln=.int kl (n:Int)) (hcp:evM M cp=.int kc (n:Int)) (hrep:∀V,E.rep V z.cells.toList x) (hzs:z.cells.size=E.size)
 (hroom:mY n bytes=true) (hmax:n<=maxLen)
 (h:∀A,T N w0 V (row e E A n (x_ n x)::H) (ic o.dst (.slice A (x_ n x).length n) M) K):W1 P Q ops o N w0 V H M K:=λa w hf hh=>by
 obtain⟨h1,_,_,h4⟩:=iP hc;refine⟨iM hf h1,?_⟩;have hbytes:n * bytes<=140737488355328:=of_decide_eq_true hroom;obtain⟨w',hr,hown,hg⟩:=run_make_full (P:=P) w 0 t e ti z E.size ht hti hz hsize kl kc n (by rw[hby,y_];omega) hmax (L_ _);unfold Oper.wp;rw[ja hc hf];have hrun:(execOp (evM M) o).run P w=.ok (.value (.slice (some ⟨w.heap.size,0,none⟩) n n)) w':=by simp only[execOp,ho,hl,hcp,Sem.run_bind,Sem.run_pure,Result.andThen_ok,hr]
 have hlr:Value.slice (some ⟨w.heap.size,0,none⟩) n n=Value.slice (some ⟨w.heap.size,0,none⟩) (x_ n x).length n:=by rw[N_]
 rw[hlr] at hrun;rw[hrun];have hown':w'.ownsRow 0 e E.size (.slice (some ⟨w.heap.size,0,none⟩) (x_ n x).length n) (x_ n x).length (madeCells z.cells (n * E.size)).toList:=by rw[N_];exact hown
 refine h _ _ _ (hf.put h4 _) (hh.fresh_obj _ hg (oH hown' ⟨by rw[N_];exact hown.1,λk y hk=>?_⟩) (λb hb=>?_))
 . have hkn:k<n:=by have:=(G_.1 hk).1;simpa using this
   have hyx:y=x:=List.eq_of_mem_replicate (l_ hk);subst hyx;refine(congrArg (λq=>E.rep V q y) ?_).mpr (hrep V);apply p_;intro j;rw[a_];have hkk:k * E.size + E.size<=n * E.size:=(by have:=d_ E.size (show k + 1<=n from hkn);rw[g_,q_] at this;exact this);split
   . rename_i hj;have hjz:j<z.cells.size:=o_;have hlt:k * E.size + j<n * E.size:=o_;have hmod:(k * E.size + j) % E.size=j:=(by rw[y_,Nat.mul_add_mod,Nat.mod_eq_of_lt hj]);rw[f_,K_,K_];have he:z.cells[j]? = some z.cells[j]!:=(by rw[O_ hjz,getElem!_pos z.cells j hjz]);simp[madeCells,hzs,hmod,hlt,he]
   . rename_i hj;rw[List.getElem?_eq_none];simp;omega
 . have hb':iJ (some ⟨w.heap.size,0,none⟩) n=some b:=hb;unfold iJ at hb';split at hb'
   . cases hb'
   . injection hb' with hb';exact Nat.le_of_eq hb'
def fits (s:ByteArray):Option Unit:=if s.size<=maxLen then some () else none
def qH (bytes:Nat) (n:Int):Option Unit:=if 0<=n/\n.toNat * bytes<=140737488355328/\n.toNat<=maxLen then some () else none
theorem oa {bytes:Nat} {n:Int} {u:Unit} (h:qH bytes n=some u):(n.toNat:Int)=n/\mY n.toNat bytes=true/\n.toNat<=maxLen:=by
 unfold qH at h;split at h
 . rename_i hc;exact⟨by omega,decide_eq_true hc.2.1,hc.2.2⟩
 . cases h
theorem iI (a:Addr):a.add 0=a:=by unfold Addr.add;simp
theorem T.gC {φ:Act->World->Prop} {v:Value} (k:Nat) (v':Value) (hk:lk M k=some v) (he:v=v') (h:T N w0 V H ((k,v')::M) φ):T N w0 V H M φ :=
 λa w hf hh=>h a w (hf.pick hf k (by rw[hk,he])) hh
theorem T.iA {φ:Act->World->Prop} {H':List HObj} (he:H=H') (h:T N w0 V H' M φ):T N w0 V H M φ:=he▸h
theorem jI (g o:Nat) (t:TypeId) (fz:Nat×Nat):∀(vs:List Value) (i:Nat) (cur:Array Value) (w:World),w.heap[g]? = some (.cells cur t fz)->uP fz cur.size->o + i + vs.length<=cur.size->(∀v∈vs,v.oneCell'=true) ->
 (storeCells ⟨g,o,none⟩ vs i).run P w=.ok () (w.setRow g (cur.toList.take (o + i)++vs++cur.toList.drop (o + i + vs.length)).toArray)
 |[],i,cur,w,hg,_,_,_=>by simp only[storeCells,List.append_nil,List.length_nil,B_,List.take_append_drop,Array.toArray_toList];rw[setRow_self w g cur t fz hg];rfl
 |v::rest,i,cur,w,hg,hu,hl,h1=>by
  have hi:o + i<cur.size:=by simp at hl;omega
  have hadd:(⟨g,o,none⟩:Addr).add i=⟨g,o + i,none⟩:=by unfold Addr.add;split <;> simp_all
  have hcell:w.cell? ⟨g,o + i,none⟩=some cur[o + i]:=by simp[World.cell?,hg,hi]
  have hfro:w.frozen? ⟨g,o + i,none⟩=false:=by have:=hu (o + i) hi;obtain⟨lo,hi'⟩:=fz;simp only[World.frozen?,hg];simpa using this
  have hst:(store ((⟨g,o,none⟩:Addr).add i) v).run P w=.ok () (w.setRow g (cur.setIfInBounds (o + i) v)):=by rw[hadd,run_store P w _ v _ (h1 v s_),hcell];simp[hfro,setCell_eq_setRow w g (o + i) cur t fz v hg]
  have ih:=jI g o t fz rest (i + 1) (cur.setIfInBounds (o + i) v) (w.setRow g (cur.setIfInBounds (o + i) v)) (setRow_heap w g cur _ t _ hg) (by simpa using hu) (by simp at hl ⊢;omega) (λx hx=>h1 x (by simp[hx]));simp only[storeCells,Sem.run_bind,hst,Result.andThen_ok,ih,setRow_setRow];congr 3;have e:=list_seg_step cur.toList (o + i) v rest (by simp at hl ⊢;omega);simpa[Array.toList_setIfInBounds,Nat.add_assoc] using e
theorem W1.iu (i k off:Nat) (x x':α) (a:Addr) {vs:List Value} {t':TypeId} {q y:Operand} {v:Value} (hi:nth H i=some (jQ p e E A c l)) (hc:okO N ops M o=true) (ho:o.op=.store t' q y)
 (hq:evM M q=.pointer (some a)) (ha:a=((ij A).add (k * E.size)).add off) (hy:evM M y=v) (hvs:v.cells=vs.toArray) (hs:∀w,(sizeOf t').run P w=.ok vs.length w) (h1:∀u∈vs,u.oneCell'=true)
 (hk:l[k]? = some x) (ho':off + vs.length<=E.size) (hst:∀V cs,E.rep V cs x->E.rep V (cs.take off++vs++cs.drop (off + vs.length)) x')
 (h:T N w0 V (H.set i (jQ p e E A c (l.set k x'))) (ic o.dst undef M) K):W1 P Q ops o N w0 V H M K:=λa' w hf hh=>by
 obtain⟨g1,_,_,h4⟩:=iP hc;rw[i9] at hi;refine⟨iM hf g1,?_⟩;obtain⟨hlc,hcm,hrow⟩:=hh.objs _ (l_ hi);have hkl:k<l.length:=(G_.1 hk).1;have hc0:c≠0:=o_;rcases hrow with h0|⟨g,cur,fz,xs,hrow⟩
 . exact absurd h0 hc0
 have hadr:a=⟨g,k * E.size + off,none⟩:=by rw[ha,hrow.adr];simp only[ij,Option.getD_some,lY];unfold Addr.add;split <;> simp_all
 have hfitl:k * E.size + off + vs.length<=l.length * E.size:=by have:=d_ E.size (show k + 1<=l.length from hkl);rw[g_,q_] at this;omega
 have hfit:k * E.size + off + vs.length<=cur.size:=by have:=d_ E.size hlc;rw[hrow.size];omega
 have hsto:=jI (P:=P) g (k * E.size + off) e fz vs 0 cur w hrow.heap hrow.unfrz (by simpa using hfit) h1;simp only[B_] at hsto;have hrun:(execOp (evM M) o).run P w=.ok .skip (w.setRow g (cur.toList.take (k * E.size + off)++vs++cur.toList.drop (k * E.size + off + vs.length)).toArray):=by simp[execOp,ho,hq,hy,hadr,Instr.storeAt,Instr.sureAddr,storeVar,hvs,hs w,hsto]
 unfold Oper.wp;rw[ja hc hf,hrun];have hblk:∀l:List α,(jQ p e E A c l).own g:=λl=>by show iJ A c=some g;unfold iJ;rw[if_neg hc0,hrow.adr];rfl
 refine h _ _ (hf.put h4 _) (hh.turn (o:=some g) hi ?_ ?_ (λb hb=>.inl hb) (λb e=>by rw[<-I_.inj e];exact hblk _))
 . exact⟨rfl,rfl,rfl,by simp,λb _ hb=>setRow_other w g b _ (λe=>hb (by rw[e]))⟩
 . have hlen:(cur.toList.take (k * E.size + off)++vs++cur.toList.drop (k * E.size + off + vs.length)).length=cur.size:=by simp only[j_,i_,t_,C_];omega
   refine⟨by rw[H_];exact hlc,hcm,.inr ⟨g,_,fz,_,⟨hrow.adr,setRow_heap w g cur _ e _ hrow.heap,hrow.plain,?_,?_,rfl,?_⟩⟩⟩
   . rw[D_,hlen];exact hrow.unfrz
   . rw[D_,hlen];exact hrow.size
   . have hset:=hrow.rep.set hk ho' (λcs hcs=>hst V cs hcs);refine(congrArg (λq=>io V E q (l.set k x')) ?_).mp hset;have hxl:xs.length=l.length * E.size:=hrow.rep.1;rw[H_];apply p_;intro j;rw[jO xs vs (k * E.size + off) j (by rw[hxl];omega),a_];simp only[P_];rw[jO cur.toList vs (k * E.size + off) j (by rw[C_];omega),<-hrow.take,a_];by_cases hj:j<l.length * E.size
     . rw[if_pos hj,if_pos hj]
     . rw[if_neg hj,if_neg hj,if_neg o_]
def over (l:List α) (lo:Nat) (m:List α):List α:=l.take lo++m++l.drop (lo + m.length)
theorem jW (l:List α) (lo:Nat) (m:List α) (h:lo + m.length<=l.length):(over l lo m).length=l.length:=by unfold over;simp only[j_,i_,t_];omega
theorem io.over {V:View} {E:Enc α} {l m:List α} {xs ys:List Value} (h:io V E xs l) (k:io V E ys m) (lo:Nat):io V E (xs.take (lo * E.size)++ys++xs.drop (lo * E.size + ys.length)) (over l lo m):=by rw[k.1,<-g_];exact((h.takeN lo).append k).append (h.dropN _)
theorem W1.lJ (i lo dn:Nat) {m:List α} {A2:Option Addr} {c2 dc:Nat} {t':TypeId} (d x:Operand) (hi:nth H i=some (jQ p e E A c l))
 (hc:okO N ops M o=true) (ho:o.op=.call { callee:=.builtin .copy,args:=#[d,x],argTypes:=#[t,t'] })
 (ht:P.underlying t=some (.slice e)) (hsz:∀w,(sizeOf e).run P w=.ok E.size w) (hs0:0<E.size)
 (hd:evM M d=.slice (iN A c lo E.size) dn dc) (hx:evM M x=.slice A2 m.length c2) (hdn:lo + dn<=l.length) (hsrc:∀w,Hp w0 V H w->∃news,io V E news m/\m5 (vw w) A2 news)
 (h:T N w0 V (H.set i (jQ p e E A c (over l lo (m.take dn)))) (ic o.dst (.int .i64 ((m.take dn).length:Int)) M) K):W1 P Q ops o N w0 V H M K:=λa w hf hh=>by
 obtain⟨g1,_,_,h4⟩:=iP hc;rw[i9] at hi;refine⟨iM hf g1,?_⟩;obtain⟨hlc,hcm,hrow⟩:=hh.objs _ (l_ hi);obtain⟨news,hnr,hnl⟩:=hsrc w hh;have hmin:Nat.min m.length dn=(m.take dn).length:=by rw[i_,Nat.min_comm]
 have key:(jQ p e E A c (over l lo (m.take dn))).ok V w/\(Builtin.copy_ #[t,t'] o.type #[.slice (iN A c lo E.size) dn dc,.slice A2 m.length c2]).run P w=.ok (.int .i64 ((m.take dn).length:Int)) w \/
  ∃w',(Builtin.copy_ #[t,t'] o.type #[.slice (iN A c lo E.size) dn dc,.slice A2 m.length c2]).run P w=.ok (.int .i64 ((m.take dn).length:Int)) w'/\(jQ p e E A c (over l lo (m.take dn))).ok V w'/\w.grownBy w' (iJ A c):=by
  rcases J_ (m.take dn).length with h0|h0
  . left;have hnil:m.take dn=[]:=v_ h0;have hov:over l lo (m.take dn)=l:=by rw[hnil];simp[over]
    refine⟨by rw[hov];exact⟨hlc,hcm,hrow⟩,?_⟩;cases hca:iN A c lo E.size <;> cases A2 <;> simp[Builtin.copy_,run_underlying ht,Builtin.lenOf,Builtin.firstCells,hsz,hmin,h0,loadCells,loadCellsFrom,storeCells,goInt]
  . right;have hl1:(m.take dn).length<=dn:=by rw[i_];omega
    have hc0:c≠0:=o_;rcases hrow with hz|⟨g,cur,fz,xs,hrow⟩
    . exact absurd hz hc0
    have hml:0<m.length:=(by rw[i_] at h0;omega);obtain⟨ad,rfl⟩:∃ad,A2=some ad:=(by have hp:0<news.length:=(by rw[hnr.1];exact Nat.mul_pos hml hs0);obtain⟨ad,h2,_⟩:=hnl 0 _ (z_ hp);exact⟨ad,h2⟩);have hT:=hnr.takeN dn;have hTl:(news.take (dn * E.size)).length=(m.take dn).length * E.size:=hT.1
    have hload:=run_loadCells_list (P:=P) w ad (news.take (dn * E.size)) (λj u hu=>by
     rw[a_] at hu;split at hu
     . obtain⟨a',ha,hcell⟩:=hnl j u hu;injection ha with ha;subst ha;exact hcell
     . cases hu)
    rw[hTl] at hload;have hcut:iN A c lo E.size=some ⟨g,lo * E.size,none⟩:=(by have:(⟨g,0,none⟩:Addr).add (lo * E.size)=⟨g,lo * E.size,none⟩:=(by unfold Addr.add;split <;> simp_all);unfold iN;rw[if_neg o_,hrow.adr,Option.map_some,this]);have hfl:lo * E.size + (news.take (dn * E.size)).length<=l.length * E.size:=(by rw[hTl,<-g_];exact d_ _ o_);have hlcs:=d_ E.size hlc;have hfit:lo * E.size + 0 + (news.take (dn * E.size)).length<=cur.size:=(by rw[hrow.size];omega);have hst:=jI (P:=P) g (lo * E.size) e fz (news.take (dn * E.size)) 0 cur w hrow.heap hrow.unfrz hfit (λu hu=>hT.one u hu);simp only[B_] at hst;refine⟨w.setRow g (cur.toList.take (lo * E.size)++news.take (dn * E.size)++cur.toList.drop (lo * E.size + (news.take (dn * E.size)).length)).toArray,?_,?_,?_⟩
    . rw[hcut];generalize news.take (dn * E.size)=ns at hload hst;generalize (m.take dn).length=kk at hmin hload;have hmin':min m.length dn=kk:=hmin;simp only[Builtin.copy_,Sem.run_bind,Sem.run_pure,Result.andThen_ok,run_underlying ht,Builtin.lenOf,Builtin.firstCells,hsz,hmin,hload,hst,goInt,List.getElem?_toArray,List.getElem?_cons_zero,List.getElem?_cons_succ]
    . have hlen:(cur.toList.take (lo * E.size)++news.take (dn * E.size)++cur.toList.drop (lo * E.size + (news.take (dn * E.size)).length)).length=cur.size:=(by simp only[j_,i_ (l:=cur.toList),t_,C_];omega);have hol:(over l lo (m.take dn)).length=l.length:=jW _ _ _ o_;refine⟨by rw[hol];exact hlc,hcm,.inr ⟨g,_,fz,_,⟨hrow.adr,setRow_heap w g cur _ e _ hrow.heap,hrow.plain,?_,?_,rfl,?_⟩⟩⟩
      . rw[D_,hlen];exact hrow.unfrz
      . rw[D_,hlen];exact hrow.size
      . have hset:=hrow.rep.over hT lo;refine(congrArg (λq=>io V E q _) ?_).mp hset;have hxl:xs.length=l.length * E.size:=hrow.rep.1;rw[hol];apply p_;intro j;have hfit2:lo * E.size + (news.take (dn * E.size)).length<=cur.toList.length:=(by rw[C_];omega);generalize news.take (dn * E.size)=ns at hfl hfit2;rw[jO xs ns (lo * E.size) j (by rw[hxl];omega),a_];simp only[P_];rw[jO cur.toList ns (lo * E.size) j hfit2,<-hrow.take,a_];by_cases hj:j<l.length * E.size
        . rw[if_pos hj,if_pos hj]
        . rw[if_neg hj,if_neg hj,if_neg o_]
    . have:iJ A c=some g:=(by unfold iJ;rw[if_neg hc0,hrow.adr];rfl);rw[this];exact⟨rfl,rfl,rfl,by simp,λb _ hb=>setRow_other w g b _ (λe=>hb (by rw[e]))⟩
 have fin:∃w',(Builtin.copy_ #[t,t'] o.type #[.slice (iN A c lo E.size) dn dc,.slice A2 m.length c2]).run P w=.ok (.int .i64 ((m.take dn).length:Int)) w'/\(jQ p e E A c (over l lo (m.take dn))).ok V w'/\w.grownBy w' (iJ A c):=by
  rcases key with ⟨k1,k2⟩|key
  . exact⟨w,k2,k1,rfl,rfl,rfl,u_ _,λ_ _ _=>rfl⟩
  . exact key
 obtain⟨w',hr,hok,hg⟩:=fin;unfold Oper.wp;rw[ja hc hf];have hrun:(execOp (evM M) o).run P w=.ok (.value (.int .i64 ((m.take dn).length:Int))) w':=by simp only[execOp,ho,resolve,invoke,builtin,Sem.run_bind,Sem.run_pure,Result.andThen_ok,List.map_toArray,List.map_cons,List.map_nil,hd,hx,hr]
 rw[hrun];exact h _ _ (hf.put h4 _) (hh.turn hi hg hok (λb hb=>.inl hb))
def lw (l:List Int):ByteArray:=l.foldl (λs n=>s.push (UInt8.ofNat n.toNat)) ByteArray.empty
theorem rH {k:IntKind} {V:View} {xs:List Value} {l:List Int} (h:io V (eK k) xs l):xs=l.map (Value.int k):=by
 have hl:xs.length=l.length:=by have:=h.1;simpa[eK,mq] using this
 apply p_;intro j;rw[List.getElem?_map]
 cases hj:l[j]? with
 |none=>rw[List.getElem?_eq_none_iff] at hj;simp[hl,hj]
 |some x =>
  have h1:(xs.drop (j * 1)).take 1=[.int k x]:=h.2 j x hj;rw[Nat.mul_one] at h1;have h2:((xs.drop j).take 1)[0]? = some (.int k x):=by rw[h1];rfl
  rw[a_,if_pos c_,f_,B_] at h2;rw[h2];rfl
theorem kz {o:Oper} {src dst e:TypeId} {x:Operand} {A:Option Addr} {c:Nat} {l:List Int} {w:World} (ho:o.op=.convert src dst x) (hx:evM M x=.slice A l.length c)
 (hs:P.underlying src=some (.slice e)) (he:P.underlying e=some (.int .u8)) (hd:P.underlying dst=some .string) (hl:fI (vw w) (eK .u8) A c l) :
 (execOp (evM M) o).run P w=.ok (.value (.string (lw l))) w:=by
 obtain⟨_,_,xs,h1,h2⟩:=hl;have hxs:=rH h1;subst hxs
 have key:(Conv.bytesToString (.slice A l.length c)).run P w=.ok (.string (lw l)) w:=by
  cases A with
  |none =>
   have:l=[]:=by
    cases l with
    |nil=>rfl
    |cons y l=>obtain⟨a,ha,_⟩:=h2 0 _ rfl;cases ha
   subst this;rfl
  |some a=>refine run_bytesToString w a _ c l ?_;have:=run_loadCells_list (P:=P) w a (l.map (Value.int .u8)) (λj u hu=>by obtain⟨a',ha,hc⟩:=h2 j u hu;injection ha with ha;subst ha;exact hc);rwa[List.length_map] at this
 simp only[execOp,ho,hx,Sem.run_bind,run_convert_bytes_string w src dst e A l.length c hs he hd,key,Result.andThen_ok,Sem.run_pure]
end
end
end Go.Proofs.YtnofgfobljadbaaGreat
