/- Plain Lean: what the editors' contracts compute is what the plain laws speak of. Its conditions: none. -/
import Derived.Test.YtnofgfobljadbaaGreatPRemO
import Derived.Test.YtnofgfobljadbaaGreatWStoreOwnFO
open Option renaming bind→a_, bind_assoc→d_, some→G_, map_eq_some_iff→p6
open List renaming length_map→f_, mem_filter→g_, length_append→i_, mem_cons_self→j_, mem_append→p_, flatMap_cons→q_, mem_singleton→t_, length_nil→u_, take_length→x_, length_cons→z_, mem_of_getElem?→B_, length_singleton→D_, mem_cons_of_mem→E_, nil_append→H_, length_set→J_, length_take→K_, mem_map→L_, length_filter_le→M_, flatMap_append→N_, take_append_drop→O_, take_add_one→P_, pairwise_map→Q_, length_flatMap→R_, map_cons→S_, flatMap_singleton→U_, length_replicate→W_, getElem_of_mem→X_, set_set→Y_, getElem_mem→Z_, pairwise_append→g6, pairwise_cons→g8, mem_iff_getElem?→g9, find?_cons→l7, length_drop→l9, length_zipIdx→m4, replicate→m9, pairwise_iff_getElem→o8, length_filter_lt_length_iff_exists→p7, filter_cons_of_pos→p8, filter_cons_of_neg→t6, take_of_length_le→t7, drop_eq_getElem_cons→v8, mem_of_mem_drop→w6, mem_take_iff_getElem→w7, mem_zipIdx_iff_getElem?→B1
open Nat renaming le_refl→l_, zero_le→C_, le_trans→V_, lt_or_ge→n9
open Sum renaming inr→v_
open Int renaming le_refl→y_, toNat_natCast→T_
open Bool renaming not_true→F_, true_and→m0
open ByteArray renaming mk→I_
namespace Go.Proofs.YtnofgfobljadbaaGreat
set_option linter.unusedSimpArgs false
set_option linter.unusedVariables false
section
section
variable {F:Nat}
theorem Ex {α:Type}(x:Option α):(x.bind λz=>some z)=x:=by cases x <;> rfl
theorem DU (root:Int)(N:NL)(i:Int)(e:DElem):jA F root N i e=qD (Al F e) F (N,i):=Ex _
theorem H1 (root:Int)(N:NL)(i:Int)(e:DElem):kr F root N i e=qD (Bk F e) F (N,i):=by refine Eq.trans ?_ (Ex (qD (Bk F e) F (N,i)));refine congrArg (λg=>(qD g F (N,i)).bind λz=>some z) (funext λrf=>funext λx=>?_);rfl
theorem Kv (root:Int)(N:NL)(e:DElem):kQ F root N e=Gi F e N root:=by unfold kQ Gi;rw[H1];rfl
theorem Bp (N:NL)(i:Int):(iL N i).length=N.length:=J_
theorem Kd {N:NL}{a b:Int}{x y:DNode}(h:a.toNat≠b.toNat):jb (jb (iL (iL N a) b) a x) b y=jb (jb (iL N a) a x) b y:=by unfold jb;rw[show iL (iL N a) b=(iL N a).set b.toNat (.inl ((((iL N a)[b.toNat]?).map sX).getD 0)) from rfl,List.set_comm _ _ (Ne.symm h),Y_]
theorem Hj {N M:NL}{i:Int}(h:N.length=M.length):kJ N i=kJ M i:=by unfold kJ;rw[h]
theorem KQ {N:NL}{a b:Int}{n:DNode}(h:j9 (iL N a) b=some n):a.toNat≠b.toNat:=λe=>by
 obtain⟨_,h2⟩:=nj h;rw[<-e] at h2;have hl:a.toNat<N.length:=by have:=(ggs.1 h2).1;rwa[Bp] at this
 unfold iL at h2;rw[List.getElem?_set_self hl] at h2;cases h2
theorem J3 (n m:DNode)(s:DSpot):mh n.kind n.elems n.kids n.seps n.tids m.kind m.elems m.kids m.seps m.tids s=FJ n m s:=rfl
theorem JW (root:Int)(n:DNode)(r10 r11:Int)(N:NL):ku F root N n.kind n.elems n.kids n.seps (n.tids.set r10.toNat r11) r10=(Df F n r10 r11 N).bind λz=>some (z.2.2.2,z.1,z.2.1,z.2.2.1):=by
 unfold ku Df;rw[d_];refine congrArg (a_ _) (funext λz=>?_);rw[d_];refine congrArg (a_ _) (funext λa=>?_);rw[d_];refine congrArg (a_ _) (funext λb=>?_);rw[d_]
 cases h1:j9 N a with
 |none=>rfl
 |some n1 =>
 rw[obs,obs,d_]
 cases h2:j9 (iL N a) b with
 |none=>rfl
 |some n2 =>
 have hne:=KQ h2;rw[obs,obs,d_];refine congrArg (a_ _) (funext λx=>?_);rw[d_,J3];refine congrArg (a_ _) (funext λX=>?_);rw[d_];have hh:∀q,kJ (iL (iL N a) b) q=kJ (iL N a) q:=λq=>Hj (Bp _ _);have hp:∀q y,kJ (jb (iL (iL N a) b) a y) q=kJ (jb (iL N a) a y) q:=λq y=>Hj (by rw[wj,wj,Bp]);simp only[hh,hp,Kd hne];refine Eq.trans (b:=(Jm F n r10 r11 N z a b n1 n2 X).bind λz'=>(j9 z'.2.2.2 a).bind λn7=>(iZ F n7).bind λr24=>(idx z'.2.2.1 z).bind λ_=>some (z'.2.2.2,z'.1,z'.2.1,z'.2.2.1.set z.toNat r24)) rfl ?_;refine congrArg (a_ _) (funext λq=>?_);obtain⟨q1,q2,q3,q4⟩:=q;dsimp only;rw[d_];refine congrArg (a_ _) (funext λn7=>?_);rw[d_];refine congrArg (a_ _) (funext λg=>?_);rw[d_];rfl
set_option maxHeartbeats 4000000 in
theorem Io (root:Int)(N:NL)(i:Int)(s:DSpot):ka F root N i s=qD (CM F s) F (N,i):=by
 refine Eq.trans ?_ (Ex (qD (CM F s) F (N,i)));refine congrArg (λg=>(qD g F (N,i)).bind λz=>some z) (funext λrf=>funext λx=>?_);obtain⟨x1,x2⟩:=x;show a_ (j9 x1 x2) _=a_ (j9 x1 x2) _
 cases j9 x1 x2 with
 |none=>rfl
 |some n =>
 rw[obs,obs];refine congr (congrArg (λa b=>bif n.kind==1 then a else b) ?_) ?_
 . exact congrArg (λq=>a_ q _) (show _=JS F n.elems s from rfl)
 . refine congrArg (a_ _) (funext λw=>?_);refine congrArg (a_ _) (funext λk=>?_);refine congrArg (a_ _) (funext λN2=>?_);refine congrArg (a_ _) (funext λk2=>?_);refine congrArg (a_ _) (funext λn4=>?_);refine congrArg (a_ _) (funext λg=>?_);refine congrArg (a_ _) (funext λt=>?_);refine congrFun (congrArg a_ ?_) _;unfold Ke
   cases decide ((IntKind.i64.wrap ((n4.elems.length:Int)+(n4.kids.length:Int)))<4) with
   |false=>rfl
   |true=>rw[cond_true,cond_true,JW,d_];refine congrArg (a_ _) (funext λq=>?_);obtain⟨q1,q2,q3,q4⟩:=q;rfl
theorem Kw (root:Int)(N:NL)(s:DSpot):mA F root N s=Id F s N root:=by unfold mA Id;rw[Io]
end
section
variable {F:Nat} [Big F]
theorem EJ {n:DNode}(h:wy n=0):oW n=some n:=by
 obtain⟨h1,h2⟩:=yq h
 have h3:n.seps.length<=8/\n.tids.length<=8:=by
  rcases wE.1 h with h|h|h
  . rw[h.2.2.2.1,h.2.2.2.2];simp
  . rw[h.2.seps,h.2.tids];simp
  . have:=h.2.seps;have:=h.2.tids;omega
 unfold oW;rw[vM (by simp;omega) (by simp;omega),obs,vM (by simp;omega) (by simp;omega),obs,vM (by simp;omega) (by simp;omega),obs,vM (by simp;omega) (by simp;omega),obs];rfl
theorem CO {N:NL}(h:∀(j:Nat) (k:Int),N[j]?≠some (.inl k)):qP N=some (fN N):=by
 have e:N=(fN N).map v_:=List.ext_getElem? λj=>by
  rw[List.getElem?_map,Am]
  cases hj:N[j]? with
  |none=>rfl
  |some x =>
   cases x with
   |inl k=>exact absurd hj (h j k)
   |inr n=>rfl
 conv=>lhs;rw[e]
 exact vv _
theorem yP {t:DTree}(hl:t.nodes.length<=400)(hc:∀n∈t.nodes,wy n=0):mJ F t=some t:=by
 unfold mJ;rw[qi (λk=>((t.nodes.take k).map (v_:DNode->Int⊕DNode),(k:Int))) t.nodes.length s_ o_ (λk hk=>?_) (r:=t.nodes.map v_) ?_,obs,vv,obs]
 . dsimp only;rw[decide_eq_false o_,cond_false,x_]
 . have hg:t.nodes[k]? = some t.nodes[k]:=gge hk;have hr:sY 104 (((t.nodes.take k).map (v_:DNode->Int⊕DNode)).length+1)=some ():=by unfold sY;rw[f_,K_,if_pos ⟨by omega,by unfold maxLen;omega⟩]
   dsimp only;rw[decide_eq_true o_,cond_true,vD,hg,obs,EJ (hc _ (Z_ _)),obs,hr,obs,w64 o_ o_,P_,hg,List.map_append];rfl
def nlT (t:DTree):NL:=t.nodes.map v_
theorem xg (t:DTree):fN (nlT t)=t.nodes:=KC _
theorem Cn {t:DTree}{j:Nat}{x:Int⊕DNode}(h:(nlT t)[j]? = some x):∃n,t.nodes[j]? = some n/\x=.inr n:=by unfold nlT at h;rw[List.getElem?_map] at h;obtain⟨n,hn,rfl⟩:=p6.1 h;exact⟨n,hn,rfl⟩
theorem Di {t:DTree}{h:Nat}(g:Good t h):xr (nlT t):=λn hn=>by rw[xg] at hn;exact g.chk n hn
theorem Aq {t:DTree}{h:Nat}(g:Good t h):wx (fN (nlT t)) h t.root (mOf 0 h) topS:=by rw[xg];exact(CU g.chk h t.root 0 topS (y_ _)).1 g.ok
theorem FA {α:Type}{p:α->Bool}:∀ {N:List α} {K:List Nat},K.Nodup->(∀(j:Nat) (x:α),N[j]? = some x->p x=true->j∈K)->N.countP p<=K.length
 |[],K,_,_=>C_ _
 |a::N,K,hn,h=>by
  have hK:∀(j:Nat) (x:α),N[j]? = some x->p x=true->j∈(K.filter (λj=>j !=0)).map (· - 1):=λj x hx hp =>
   L_.2 ⟨j+1,g_.2 ⟨h (j+1) x (by simpa using hx) hp,by simp⟩,by simp⟩
  have hnd:((K.filter (λj=>j !=0)).map (· - 1)).Nodup:=by unfold List.Nodup;rw[Q_];refine((hn.filter _).imp_of_mem λ{a b} ha hb hab e=>hab ?_);have h1:=(g_.1 ha).2;have h2:=(g_.1 hb).2;simp only[bne_iff_ne,ne_eq] at h1 h2;omega
  have ih:=FA hnd hK;rw[f_] at ih;rw[List.countP_cons];by_cases hp:p a=true
  . have h0:0∈K:=h 0 a rfl hp;have hlt:(K.filter (λj=>j !=0)).length<K.length:=p7.2 ⟨0,h0,by simp⟩;rw[if_pos hp];omega
  . have:=M_ (λj=>j !=0) K;rw[if_neg hp];omega
theorem HT {t:DTree}{h:Nat}(g:Good t h):used (nlT t)<=(ids t.nodes h t.root).length:=by refine FA g.nodup λj x hx hp=>?_;obtain⟨n,hn,rfl⟩:=Cn hx;have hlt:=(ggs.1 hn).1;exact g.all j hlt (by rw[BX hn];exact yt.1 hp)
theorem JY {ns:List DNode}(hns:∀n∈ns,wy n=0):∀ {h:Nat} {i:Int} {s:Span},wx ns h i 4 s->3*(ids ns h i).length+1<=(wb ns h i).length:=by
 intro h
 induction h with
 |zero=>intro i s c;have:=c.2.2.1;simp only[ids,wb,D_];omega
 |succ h ih =>
  intro i s c;rw[ids,wb,z_,R_,R_]
  have key:∀l:List Int,(∀k∈l,3*(ids ns h k).length+1<=(wb ns h k).length)->3*(l.map λa=>(ids ns h a).length).sum+l.length<=(l.map λa=>(wb ns h a).length).sum:=by
   intro l
   induction l with
   |nil=>intro _;simp
   |cons a l ihl=>intro hk;have:=ihl λk h=>hk k (E_ _ h);have:=hk a j_;simp only[S_,List.sum_cons,z_];omega
  have:=key (nd ns i).kids λk hk=>by obtain⟨t,s',x,_⟩:=c.2.2.2.mem k hk;exact ih x.1
  have:=c.2.2.1;omega
theorem I9 {t:DTree}{h:Nat}(g:Good t h)(hl:(wb t.nodes h t.root).length<=400):(ids t.nodes h t.root).length<=134/\h<134:=by
 have hh:=Bh g.chk h t.root 0 topS g.ok;have c:=Aq g;rw[xg] at c
 have:(ids t.nodes h t.root).length<=134:=by
  cases h with
  |zero=>simp[ids]
  |succ h =>
   have key:∀l:List Int,(∀k∈l,3*(ids t.nodes h k).length+1<=(wb t.nodes h k).length)->3*(l.map λa=>(ids t.nodes h a).length).sum+l.length<=(l.map λa=>(wb t.nodes h a).length).sum:=by
    intro l
    induction l with
    |nil=>intro _;simp
    |cons a l ihl=>intro hk;have:=ihl λk h=>hk k (E_ _ h);have:=hk a j_;simp only[S_,List.sum_cons,z_];omega
   have h1:=key (nd t.nodes t.root).kids λk hk=>by obtain⟨t',s',x,_⟩:=c.2.2.2.mem k hk;exact JY g.chk x.1
   have h2:2<=(nd t.nodes t.root).kids.length:=(by have:=c.2.2.1;unfold mOf at this;simpa using this);rw[wb,R_] at hl;rw[ids,z_,R_];omega
 omega
theorem CR {N:NL}{h:Nat}{root:Int}(hc:xr N)(hl:N.length<=400)(c:wx (fN N) h root (mOf 0 h) topS)(hn:(ids (fN N) h root).Nodup)(hall:∀(j:Nat) (x:Int⊕DNode),N[j]? = some x->sX x≠0->j∈ids (fN N) h root):Good ⟨root,fN N⟩ h:=by
 refine⟨by show (fN N).length<=400;rw[wn];exact hl,hc,(CU hc h root 0 topS (y_ _)).2 c,hn,λi hi hk=>?_⟩;have hi':i<(fN N).length:=hi;rw[wn] at hi';have hg:N[i]? = some N[i]:=gge hi';refine hall i _ hg λh0=>hk ?_;have:nd (fN N) (i:Int)=fN1 N[i]:=by unfold nd;rw[T_,Am,hg];rfl
 rw[this]
 cases hx:N[i] with
 |inl k=>rfl
 |inr n=>rw[hx] at h0;exact h0
theorem KL (d:Int)(h:Nat):mOf d h<=4:=by
 unfold mOf;split
 . exact l_ _
 . split <;> omega
theorem FU {t:DTree}{h:Nat}(g:Good t h){N':NL}{K:List Nat}{c:Nat}(f:Fr2 (nlT t) N' (ids (fN (nlT t)) h t.root) K c)(hK:∀j∈K,∃n:DNode,N'[j]? = some (.inr n)/\n.kind≠0):∀(j:Nat) (k:Int),N'[j]?≠some (.inl k):=λj k hj=>by
 have hold:∀(j:Nat) (x:Int⊕DNode),(nlT t)[j]? = some x->sX x≠0->j∈ids (fN (nlT t)) h t.root:=λj x hx hk=>by obtain⟨n,hn,rfl⟩:=Cn hx;rw[xg];exact g.all j (ggs.1 hn).1 (by rw[BX hn];exact hk)
 by_cases hk:k=0
 . subst hk;obtain⟨n,_,h⟩:=Cn (f.zero j hj);cases h
 . rcases f.all j _ hj hk with h|⟨h,y,hy,hyk⟩
   . obtain⟨n,hn,_⟩:=hK j h;rw[hn] at hj;cases hj
   . exact h (hold j y hy hyk)
theorem He {t:DTree}{h:Nat}(g:Good t h){N':NL}{K:List Nat}{c:Nat}(f:Fr2 (nlT t) N' (ids (fN (nlT t)) h t.root) K c):∀(j:Nat) (x:Int⊕DNode),N'[j]? = some x->sX x≠0->j∈K:=λj x hx hk=>by
 rcases f.all j x hx hk with h|⟨h,y,hy,hyk⟩
 . exact h
 . obtain⟨n,hn,rfl⟩:=Cn hy;exact absurd (by rw[xg];exact g.all j (ggs.1 hn).1 (by rw[BX hn];exact hyk)) h
theorem HF {t:DTree}{h:Nat}{e:DElem}(g:Good t h)(he:wm e=0)(hne:∀x∈wb t.nodes h t.root,wg x≠wg e)(hl:(wb t.nodes h t.root).length<=400) :
 ∃(root:Int) (N:NL),Gi F e (nlT t) t.root=some (root,N)/\qP N=some (fN N)/\∃h',Good ⟨root,fN N⟩ h'/\wb (fN N) h' root=GD (wb t.nodes h t.root) e:=by
 obtain⟨f1,f2⟩:=I9 g hl;have hu:=HT g;have hF:=(inferInstance:Big F).le;have c:=Aq g;have hsort:=(xD g.chk h t.root 0 topS g.ok).1;have hlen:(nlT t).length<=400:=by unfold nlT;rw[f_];exact g.len
 obtain⟨N',sp,r,b,hrun,hpost⟩:=Jc (F:=F) he h F (nlT t) t.root (mOf 0 h) topS o_ (Di g) hlen o_ c (by rw[xg];exact g.nodup) rfl (by rw[xg];exact hne)
 have sorted:∀ {ns:List DNode} {h':Nat} {root:Int},Good ⟨root,ns⟩ h'->(∀x,x∈wb ns h' root↔x=e\/x∈wb t.nodes h t.root)->wb ns h' root=GD (wb t.nodes h t.root) e:=λ{ns h' root} gg hm=>by
  refine EW (xD gg.chk h' root 0 topS gg.ok).1 (CE hsort e) λx=>?_;rw[hm x,FR];constructor
  . rintro(h|h)
    . exact .inl h
    . exact .inr ⟨h,hne x h⟩
  . rintro(h|h)
    . exact .inl h
    . exact .inr h.1
 unfold Gi;rw[hrun,obs];dsimp only;rcases hpost with ⟨rfl,P⟩|⟨rfl,hsp,P⟩
 . obtain⟨k,t',e1,e2,x⟩:=P.ch;obtain rfl:t.root=k:=by simpa using e1
   have hK:[t.root].flatMap (ids (fN N') h)=ids (fN N') h t.root:=U_ ..;have fr:=P.fr;rw[hK] at fr;have hcap:N'.length<=400:=(by have:=fr.cap;have:=fr.use;omega);have gg:=CR fr.chk hcap x.1 fr.nodup (He g fr);refine⟨t.root,N',rfl,CO (FU g fr x.1.used),h,gg,sorted gg λy=>?_⟩;have:=P.elems y;rw[U_,xg] at this;exact this
 . obtain⟨k,ks',t',ts',e1,e2,i1,x,k2,t2,e3,e4,y⟩:=P.ch;obtain⟨rfl,rfl⟩:t.root=k/\[r]=ks':=by simpa using e1
   obtain rfl:r=k2:=(by simpa using e3);have hK:[t.root,r].flatMap (ids (fN N') h)=ids (fN N') h t.root++ids (fN N') h r:=s_;have fr:=P.fr;rw[hK] at fr;have hcap:N'.length<=400:=by have:=fr.cap;have:=fr.use;omega
   have hKu:∀q∈ids (fN N') h t.root++ids (fN N') h r,∃n:DNode,N'[q]? = some (.inr n)/\n.kind≠0:=λq hq=>by
    rcases p_.1 hq with hq|hq
    . exact x.1.used q hq
    . exact y.1.used q hq
   obtain⟨N2,j,hT,tk⟩:=Gd (F:=F) (N:=N') ⟨2,[],[t.root,r],[sp],[wo (nd (fN N') t.root),wo (nd (fN N') r)]⟩ o_;have cc:Ch (BD (fN N') h) [sp] topS [t.root,r] [wo (nd (fN N') t.root),wo (nd (fN N') r)]:=⟨t.root,[r],_,_,rfl,rfl,i1,⟨x.1,rfl⟩,r,_,rfl,rfl,⟨y.1,rfl⟩⟩;have hck:=wN (n:=⟨2,[],[t.root,r],[sp],[wo (nd (fN N') t.root),wo (nd (fN N') r)]⟩) rfl (ye fr.chk hcap cc s_ s_ (List.pairwise_singleton _ _) (by simpa using hsp));have fr2:=fr.take tk (Cs _ _ _ _) hck λq hq=>by obtain⟨n,hn,hk⟩:=hKu q hq;exact⟨_,hn,hk⟩
   have hlen2:N'.length<=N2.length:=(by rcases tk.len with h|⟨h,_⟩ <;> omega);have hjK:∀q∈ids (fN N') h t.root++ids (fN N') h r,N2[q]? = N'[q]?:=λq hq=>tk.same q λe=>by subst e;obtain⟨n,hn,hk⟩:=hKu q hq;exact absurd (tk.free _ hn) hk
   obtain⟨a1,a2,a3⟩:=xw hlen2 cc λq hq=>hjK q (by rw[hK] at hq;exact hq);have hnd:nd (fN N2) (j:Int)=⟨2,[],[t.root,r],[sp],[wo (nd (fN N') t.root),wo (nd (fN N') r)]⟩:=Af (by rw[T_];exact tk.at_);have hjl:j<N2.length:=(ggs.1 tk.at_).1;have hids:ids (fN N2) (h+1) (j:Int)=j::(ids (fN N') h t.root++ids (fN N') h r):=(by rw[ids,hnd,T_];show j::[t.root,r].flatMap _=_;rw[a2,hK]);have sub:wx (fN N2) (h+1) (j:Int) (mOf 0 (h+1)) topS:=⟨by rw[wn];omega,by rw[hnd],by rw[hnd];unfold mOf;simp,by rw[hnd];exact a1⟩;rw[<-hids] at fr2;have hcap2:N2.length<=400:=(by have:=fr2.cap;have:=fr2.use;omega);have gg:=CR fr2.chk hcap2 sub fr2.nodup (He g fr2);refine⟨(j:Int),N2,?_,CO (FU g fr2 sub.used),h+1,gg,sorted gg λz=>?_⟩
   . rw[F_,cond_false,x.1.node.1,obs,y.1.node.1,obs,xc fr.chk x.1.range,obs,xc fr.chk y.1.range,obs,EX,hT,obs]
   . have:=P.elems z;rw[xg] at this;rw[<-this,wb,hnd];show z∈[t.root,r].flatMap _↔_;rw[a3]
theorem Da {t:DTree}{h:Nat}{e:DElem}(g:Good t h)(he:wm e=0) :
 ∃N:NL,qD (Al F e) F (nlT t,t.root)=some N/\qP N=some (fN N)/\Good ⟨t.root,fN N⟩ h/\wb (fN N) h t.root=(wb t.nodes h t.root).map (xT e):=by
 have hF:=(inferInstance:Big F).le;have hh:=yn g;obtain⟨N,hrun,P⟩:=IP (F:=F) he h F (nlT t) t.root (mOf 0 h) topS o_ (Di g) (Aq g) (by rw[xg];exact g.nodup) rfl;have hn:(ids (fN N) h t.root).Nodup:=by rw[P.ids,xg];exact g.nodup
 have hin:∀(j:Nat) (x:Int⊕DNode),N[j]? = some x->(∃n,x=.inr n)/\(sX x≠0->j∈ids (fN N) h t.root):=λj x hx=>by
  by_cases hj:j∈ids (fN N) h t.root
  . obtain⟨n,hn,_⟩:=P.sub.used j hj;rw[hn] at hx;exact⟨⟨n,(G_.inj hx).symm⟩,λ_=>hj⟩
  . rw[P.out j (by rw[<-P.ids];exact hj)] at hx;obtain⟨n,hn,rfl⟩:=Cn hx
    exact⟨⟨n,rfl⟩,λhk=>by
     rw[P.ids,xg]
     exact g.all j (ggs.1 hn).1 (by rw[BX hn];exact hk)⟩
 refine⟨N,hrun,CO λj k hj=>?_,CR P.chk ?_ P.sub hn λj x hx=>(hin j x hx).2,?_⟩
 . obtain⟨⟨n,hn⟩,_⟩:=hin j _ hj;cases hn
 . rw[P.len];unfold nlT;rw[f_];exact g.len
 . rw[P.elems,xg]
theorem HO {α β:Type}(f:α->List β){l:List α}{k:Nat}(hk:k<l.length):(l.take (k+1)).flatMap f=(l.take k).flatMap f++f l[k]/\((l.take k).flatMap f).length+(f l[k]).length<=(l.flatMap f).length:=by
 have h1:(l.take (k+1)).flatMap f=(l.take k).flatMap f++f l[k]:=by rw[P_,gge hk,N_];simp
 refine⟨h1,?_⟩;have h2:l.flatMap f=(l.take (k+1)).flatMap f++(l.drop (k+1)).flatMap f:=by rw[<-N_,O_]
 rw[h2,h1,i_,i_];omega
theorem Cf {t:DTree}{h:Nat}(g:Good t h):(wb t.nodes h t.root).Pairwise SpO:=(xD g.chk h t.root 0 topS g.ok).1
theorem AK {t:DTree}{h:Nat}(g:Good t h):∀n∈t.nodes,Small n:=λn hn=>xp (g.chk n hn)
def zT:DTree:=⟨0,[]⟩
def newT:DTree:=⟨0,[⟨1,[],[],[],[]⟩]⟩
theorem AP:Good newT 0:=by
 have hc:wy ⟨1,[],[],[],[]⟩=0:=wE.2 (.inr (.inl ⟨rfl,⟨rfl,rfl,rfl,C_ _,λe he=>(by cases he),List.Pairwise.nil⟩⟩));refine⟨by simp[newT],λn hn=>?_,⟨⟨by decide,by simp[newT]⟩,rfl,λh=>absurd h c_,λx hx=>(by cases hx)⟩,by simp[newT,ids],λi hi _=>?_⟩
 . obtain rfl:n=⟨1,[],[],[],[]⟩:=by simpa[newT] using hn
   exact hc
 . simp[newT,ids] at hi ⊢;exact hi
end
section
variable {F:Nat} [Big F]
theorem AF {t:DTree}{h h':Nat}{root':Int}{N':NL}(g:Good t h)(len:N'.length=(nlT t).length)(out:∀j:Nat,j∉ids t.nodes h t.root->N'[j]? = (nlT t)[j]?)(chk:xr N')(sub:wx (fN N') h' root' (mOf 0 h') topS)
 (perm:∃Z,(ids t.nodes h t.root).Perm (Z++ids (fN N') h' root')/\∀j∈Z,N'[j]? = some (.inr zN)):qP N'=some (fN N')/\Good ⟨root',fN N'⟩ h':=by
 obtain⟨Z,hZ,hz⟩:=perm
 have key:∀(j:Nat) (x:Int⊕DNode),N'[j]? = some x->(∃n,x=.inr n)/\(sX x≠0->j∈ids (fN N') h' root'):=λj x hx=>by
  by_cases hj:j∈ids t.nodes h t.root
  . rcases p_.1 (hZ.mem_iff.1 hj) with hj|hj
    . rw[hz j hj] at hx;obtain rfl:=G_.inj hx;exact⟨⟨_,rfl⟩,λhk=>absurd rfl hk⟩
    . obtain⟨n,hn,_⟩:=sub.used j hj;rw[hn] at hx;exact⟨⟨n,(G_.inj hx).symm⟩,λ_=>hj⟩
  . rw[out j hj] at hx;obtain⟨n,hn,rfl⟩:=Cn hx;exact⟨⟨n,rfl⟩,λhk=>absurd (g.all j (ggs.1 hn).1 (by rw[BX hn];exact hk)) hj⟩
 refine⟨CO λj k hj=>?_,CR chk ?_ sub ?_ λj x hx=>(key j x hx).2⟩
 . obtain⟨⟨n,hn⟩,_⟩:=key j _ hj;cases hn
 . rw[len];unfold nlT;rw[f_];exact g.len
 . exact(List.nodup_append.1 (hZ.nodup_iff.1 g.nodup)).2.1
theorem F1 {N:NL}{i:Int}{n:DNode}(h:N[i.toNat]? = some (.inr n)):jb (iL N i) i n=N:=by
 refine List.ext_getElem? λj=>?_;by_cases hj:j=i.toNat
 . subst hj;rw[wL _ (by rw[wh];exact(ggs.1 h).1),h]
 . rw[ww _ hj,wF _ hj]
theorem Ie {t:DTree}{h:Nat}{sp:DSpot}(g:Good t h) :
 ∃(root:Int) (N:NL),Id F sp (nlT t) t.root=some (N,root)/\qP N=some (fN N)/\∃h',Good ⟨root,fN N⟩ h'/\wb (fN N) h' root=(wb t.nodes h t.root).filter (yG sp):=by
 have hF:=(inferInstance:Big F).le;have hfu:=yn g;have hc:=Di g;have c:=Aq g;have hlen:(nlT t).length<=400:=by unfold nlT;rw[f_];exact g.len
 have hnd:(ids (fN (nlT t)) h t.root).Nodup:=by rw[xg];exact g.nodup
 have hr:=c.range;rw[wn] at hr;unfold Id
 cases h with
 |zero=>obtain⟨N',hrun,P⟩:=F4 (F:=F) sp 0 F (nlT t) t.root 0 topS o_ hc hlen (.inl rfl) c hnd rfl;have c':wx (fN N') 0 t.root 0 topS:=P.sub;have L:=c'.leaf P.chk;obtain⟨q1,q2⟩:=c'.node;obtain⟨r1,r2⟩:=AF g P.len (λj hj=>P.out j (by rw[xg];exact hj)) P.chk c' (by obtain⟨Z,hZ,hz⟩:=P.perm;rw[xg] at hZ;exact⟨Z,hZ,hz⟩);refine⟨t.root,N',?_,r1,0,r2,by rw[P.elems,xg]⟩;rw[hrun,obs,q1,obs,L.kids,show (((([]:List Int).length:Int))==1)=false from rfl,cond_false,obs,F1 q2]
 |succ h =>
  obtain⟨f,hf⟩:∃f,F=f+1:=⟨F-1,by omega⟩;obtain⟨N3,K,X,T,hrun,M⟩:=Hu (F:=F) (F4 sp h) (mf:=f) o_ hc hlen c hnd rfl;rw[<-hf] at hrun;have hids:ids t.nodes (h+1) t.root=t.root.toNat::(nd t.nodes t.root).kids.flatMap (ids t.nodes h):=rfl;have hels:wb t.nodes (h+1) t.root=(nd t.nodes t.root).kids.flatMap (wb t.nodes h):=rfl;have hMe:=M.elems;obtain⟨Z,hZ,hz⟩:=M.perm;rw[xg] at hMe hZ;have hn1:=g.nodup;rw[hids] at hn1;obtain⟨n1,n2⟩:=List.nodup_cons.1 hn1;have hl3:=M.len;have h2:2<=(nd t.nodes t.root).kids.length:=by have:=c.2.2.1;rw[xg] at this;unfold mOf at this;simpa using this
  have hmore:=M.more;rw[xg] at hmore;have hget:(jb N3 t.root ⟨2,[],K,X,T⟩)[t.root.toNat]? = some (.inr ⟨2,[],K,X,T⟩):=wL _ (by rw[hl3];omega);have hnode:j9 (jb N3 t.root ⟨2,[],K,X,T⟩) t.root=some ⟨2,[],K,X,T⟩:=by unfold j9;rw[if_neg o_,hget];rfl
  rw[hrun,obs,hnode,obs];dsimp only;by_cases h1:K.length=1
  . obtain⟨k,rfl⟩:=List.length_eq_one_iff.1 h1;obtain⟨X0,hX0⟩:∃X0,X0=X:=⟨_,rfl⟩;have hXl:=M.ch.lens.1;obtain rfl:X=[]:=List.eq_nil_of_length_eq_zero (by simpa using hXl);obtain⟨k',t',e1,e2,q⟩:=M.ch;obtain rfl:k=k':=by simpa using e1
    have hkn:∀j∈ids (fN N3) h k,j≠t.root.toNat:=λj hj e=>n1 (hZ.mem_iff.2 (List.mem_append_right _ (by rw[U_,<-e];exact hj)));have hN:jb (iL (jb N3 t.root ⟨2,[],[k],[],T⟩) t.root) t.root zN=jb N3 t.root zN:=(by unfold jb iL;rw[Y_,Y_]);obtain⟨a1,a2,a3,a4⟩:=wx.agree (N':=jb N3 t.root zN) (by rw[wj];exact l_ _) q.1 λj hj=>ww N3 (hkn j hj);rw[U_] at hMe hZ
    obtain⟨r1,r2⟩:=AF (root':=k) g (by rw[wj];exact hl3) (λj hj=>by
     have:=M.out j (by rw[xg];exact hj);rw[hids,List.mem_cons,not_or] at hj
     rw[ww N3 hj.1,this]) (M.chk.put Ha) (a1.weak (KL 0 h)) ⟨t.root.toNat::Z,by rw[hids,a2];exact List.Perm.cons _ hZ,λj hj=>by
     rcases List.mem_cons.1 hj with rfl|hj
     . exact wL _ (by rw[hl3];omega)
     . rw[ww N3 (show j≠t.root.toNat from λe=>n1 (hZ.mem_iff.2 (List.mem_append_left _ (by rw[<-e];exact hj))))]
       exact hz j hj⟩
    refine⟨k,jb N3 t.root zN,?_,r1,h,r2,by rw[a3,hMe,hels]⟩;rw[show ((([k]:List Int).length:Int)==1)=true from rfl,cond_true,zr (by rw[wh,wj,hl3];exact hr),obs,show idx [k] 0=some k from rfl,obs,obs];dsimp only;exact congrArg (λq=>some (q,k)) hN
  . have P:=Hv hlen c hc hnd M o_;have h2K:2<=K.length:=o_;have hck:=wN (n:=⟨2,[],K,X,T⟩) rfl (ye M.chk (by rw[hl3];exact hlen) M.ch h2K (by have:=M.few;rw[xg] at this;have:=(c.inner hc).eight;rw[xg] at this;omega) M.ord M.ok);have hnd2:=Af hget
    have c':wx (fN (jb N3 t.root ⟨2,[],K,X,T⟩)) (h+1) t.root (mOf 0 (h+1)) topS :=
     ⟨P.sub.1,P.sub.2.1,by rw[hnd2];unfold mOf;simpa using h2K,P.sub.2.2.2⟩
    obtain⟨r1,r2⟩:=AF g P.len (λj hj=>P.out j (by rw[xg];exact hj)) P.chk c' (by obtain⟨Z,hZ,hz⟩:=P.perm;rw[xg] at hZ;exact⟨Z,hZ,hz⟩);refine⟨t.root,_,?_,r1,h+1,r2,by rw[P.elems,xg]⟩;rw[show ((K.length:Int)==1)=false by rw[beq_eq_false_iff_ne];omega,cond_false,obs,F1 hget]
theorem KT {l:List DElem}{r:Nat}{x:DElem}(ho:l.Pairwise SpO)(hx:l[r]? = some x):l.filter (yG (wg x))=l.take r++l.drop (r+1):=by
 obtain⟨hr,he⟩:=ggs.1 hx;have e:=zV l hr;rw[he] at e;have hnx:yG (wg x) x=false:=by unfold yG;simp
 have ho':=ho;rw[e] at ho';obtain⟨o1,o2,o3⟩:=g6.1 ho'
 conv=>lhs;rw[e]
 rw[List.filter_append,List.filter_cons,if_neg (by rw[hnx];decide),BZ,BZ]
 . intro y hy hs;have h1:cmpS (wg x) (wg y)<0:=(g8.1 o2).1 y hy;rw[hs,wq.refl] at h1;omega
 . intro y hy hs;have h1:cmpS (wg y) (wg x)<0:=o3 y hy x j_;rw[hs,wq.refl] at h1;omega
end
end
section
section walks
variable {τ α β:Type} {F:Nat}
def w8 (t:τ->α->τ×Nat):List α->τ->τ×Nat
 |[],a=>(a,0)
 |e::l,a=>if (t a e).2=0 then w8 t l (t a e).1 else t a e
theorem yD (t:τ->α->τ×Nat):∀(l m:List α) (a:τ),w8 t (l++m) a=if (w8 t l a).2=0 then w8 t m (w8 t l a).1 else w8 t l a
 |[],m,a=>by simp[w8]
 |e::l,m,a=>by
  rw[List.cons_append,w8,w8];by_cases h:(t a e).2=0
  . rw[if_pos h,if_pos h,yD t l m]
  . rw[if_neg h,if_neg h,if_neg h]
theorem AE (t:τ->α->τ×Nat)(p:α->Bool):∀(l:List α) (a:τ),w8 (λst e=>if p e then t st e else (st,0)) l a=w8 t (l.filter p) a
 |[],a=>rfl
 |e::l,a=>by
  rw[w8];by_cases h:p e=true
  . rw[if_pos h,p8 h,w8];by_cases h0:(t a e).2=0
    . rw[if_pos h0,if_pos h0,AE t p l]
    . rw[if_neg h0,if_neg h0]
  . rw[if_neg h,if_pos rfl,t6 h,AE t p l]
theorem zX (t:τ->α->τ×Nat)(g:β->List α):∀(l:List β) (a:τ),w8 (λst k=>w8 t (g k) st) l a=w8 t (l.flatMap g) a
 |[],a=>rfl
 |b::l,a=>by rw[w8,q_,yD,zX t g l]
theorem Dx (t:τ->α->τ×Nat)(len:τ->Nat)(ht:∀a e,len (t a e).1<=len a+1):∀(l:List α) (a:τ),len (w8 t l a).1<=len a+l.length
 |[],a=>l_ _
 |e::l,a=>by
  rw[w8,z_];have h1:=ht a e;by_cases h:(t a e).2=0
  . rw[if_pos h];have:=Dx t len ht l (t a e).1;omega
  . rw[if_neg h];omega
theorem Ea {S R:Type}[Big F]{f:S->Option (S⊕R)}(t:τ->α->τ×Nat)(l:List α)(enc:τ->Int->S)(o0:τ->R)(o1:τ->Nat->R)(a:τ)(hn:l.length<=9223372036854775807){s:S}(h0:s=enc a 0)
 (hs:∀(k:Nat) (e:α) (st:τ),l[k]? = some e->w8 t (l.take k) a=(st,0)->f (enc st (k:Int))=some (lz (t st e).2 (.inl (enc (t st e).1 ((k:Int)+1))) (λn=>.inr (o1 (t st e).1 n))))
 (he:∀st,w8 t l a=(st,0)->f (enc st (l.length:Int))=some (.inr (o0 st))) :
 iter f F s=some (lz (w8 t l a).2 (o0 (w8 t l a).1) (λn=>o1 (w8 t l a).1 n)):=by
 subst h0
 have key:∀(m k N:Nat) (st:τ),k+m=l.length->m<N->w8 t (l.take k) a=(st,0)->iter f N (enc st (k:Int))=some (lz (w8 t l a).2 (o0 (w8 t l a).1) (λn=>o1 (w8 t l a).1 n)):=by
  intro m
  induction m with
  |zero=>intro k N st hk hN hr;obtain⟨N,rfl⟩:∃M,N=M+1:=⟨N-1,by omega⟩;rw[t7 o_] at hr;rw[iter,show k=l.length by omega,he st hr,hr];rfl
  |succ m ih =>
   intro k N st hk hN hr;obtain⟨N,rfl⟩:∃M,N=M+1:=⟨N-1,by omega⟩;have hkl:k<l.length:=o_;have hg:=gge hkl;have hsplit:w8 t l a=w8 t (l[k]::l.drop (k+1)) st:=(by have h1:=yD t (l.take k) (l.drop k) a;rw[O_,hr,if_pos rfl,v8 hkl] at h1;exact h1);rw[iter,hs k l[k] st hg hr];rw[w8] at hsplit
   cases hz:(t st l[k]).2 with
   |zero=>rw[jC];refine ih (k+1) N _ o_ o_ ?_;rw[P_,hg,yD,hr,if_pos rfl];show w8 t [l[k]] st=_;rw[w8,if_pos hz];rfl
   |succ n=>rw[if_neg o_] at hsplit;rw[jV,hsplit,hz,jV]
 exact key l.length 0 F a o_ (sv hn) rfl
end walks
def geB (s:DSpot)(e:DElem):Bool:=decide (0<=cmpS (wg e) s)
def xL (ns:List DNode)(s:DSpot):Nat->Int->List DElem
 |0,_=>[]
 |m+1,i=>(nd ns i).elems.filter (geB s)++(if (nd ns i).kind=1 then [] else ((nd ns i).kids.drop (yE (nd ns i).seps s)).flatMap (xL ns s m))
theorem HQ (ns:List DNode)(s:DSpot):∀(m:Nat) (i:Int),(xL ns s m i).Sublist (wB ns m i):=by
 intro m
 induction m with
 |zero=>intro i;exact List.Sublist.refl _
 |succ m ih =>
  intro i;rw[xL,wB];refine List.Sublist.append List.filter_sublist ?_;split
  . exact List.nil_sublist _
  . have h1:∀l:List Int,(l.flatMap (xL ns s m)).Sublist (l.flatMap (wB ns m)):=by
     intro l
     induction l with
     |nil=>exact List.Sublist.refl _
     |cons a l ihl=>rw[q_,q_];exact(ih a).append ihl
    refine(h1 _).trans ?_
    have h2:∀(l:List Int) (k:Nat),((l.drop k).flatMap (wB ns m)).Sublist (l.flatMap (wB ns m)):=by
     intro l k
     conv=>rhs;rw[<-O_ k l,N_]
     exact List.sublist_append_right _ _
    exact h2 _ _
theorem Ad {α β:Type}(p:β->Bool)(f:α->List β):∀l:List α,(l.flatMap f).filter p=l.flatMap λa=>(f a).filter p
 |[]=>rfl
 |a::l=>by rw[q_,q_,List.filter_append,Ad p f l]
theorem I7 {ns:List DNode}(hns:∀n∈ns,wy n=0)(s:DSpot):∀(h m:Nat) (i d:Int) (sp:Span),okN ns h i d sp->h<m->xL ns s m i=(wb ns h i).filter (geB s):=by
 intro h
 induction h with
 |zero=>intro m i d sp hok hm;obtain⟨m,rfl⟩:∃q,m=q+1:=⟨m-1,by omega⟩;rw[xL,wb,if_pos hok.2.1,List.append_nil]
 |succ h ih =>
  intro m i d sp hok hm;obtain⟨m,rfl⟩:∃q,m=q+1:=⟨m-1,by omega⟩;have hI:=(yf hns hok.1 hok.2.1).2;rw[xL,wb,if_neg hok.2.1.2,hI.elems,List.filter_nil,H_,Ad];have hk:∀k∈(nd ns i).kids,xL ns s m k=(wb ns h k).filter (geB s):=λk hk=>by obtain⟨q,hq⟩:=g9.1 hk;exact ih m k _ _ (hok.2.2.2 (k,q) (Ab hq)).1 o_
  have hcong:∀l:List Int,(∀k∈l,k∈(nd ns i).kids)->l.flatMap (xL ns s m)=l.flatMap λk=>(wb ns h k).filter (geB s):=by
   intro l
   induction l with
   |nil=>intro _;rfl
   |cons a l ihl=>intro hl;rw[q_,q_,hk a (hl a j_),ihl λk hk=>hl k (E_ _ hk)]
  rw[hcong _ λk hk=>w6 hk];have hnil:((nd ns i).kids.take (yE (nd ns i).seps s)).flatMap (λk=>(wb ns h k).filter (geB s))=[]:=by rw[List.flatMap_eq_nil_iff];intro k hk;rw[w7] at hk;obtain⟨q,hq,rfl⟩:=hk;rw[List.filter_eq_nil_iff];intro e he;have hqk:(nd ns i).kids[q]? = some (nd ns i).kids[q]:=gge o_;have h1:=(hok.2.2.2 (_,q) (Ab hqk)).1;have h2:=((xD hns h _ _ _ h1).2 e he).1;have hw:=CZ (nd ns i).seps s;have hx:(nd ns i).seps[q]? = some (nd ns i).seps[q]:=gge o_;have h3:=Dp hx h2;have h4:=(Fe (nd ns i).seps s).1 q _ o_ hx;have h5:=xP h3 h4;unfold geB;rw[decide_eq_true_eq];omega
  conv=>rhs;rw[<-O_ (yE (nd ns i).seps s) (nd ns i).kids,N_,hnil,H_]
def Ka {τ:Type}(ns:List DNode)(s:DSpot)(len:τ->Nat)(m:Nat)(x:τ×Int):Prop:=Ec ns m x.2/\len x.1+(xL ns s m x.2).length<=100000
theorem Ij {τ:Type}{t:DTree}{h:Nat}(hg:Good t h)(s:DSpot)(len:τ->Nat)(a:τ)(ha:len a=0){F:Nat}[Big F]:Ka t.nodes s len F (a,t.root):=by have hF:=(inferInstance:Big F).le;have h4:=yn hg;refine⟨⟨h,0,topS,by omega,hg.ok⟩,?_⟩;dsimp only;have h1:=(HQ t.nodes s F t.root).length_le;rw[Ce hg.chk h F t.root 0 topS hg.ok o_] at h1;have:=Be hg;omega
theorem HS {t:DTree}{h:Nat}(hg:Good t h)(s:DSpot){F:Nat}[Big F]:xL t.nodes s F t.root=(wb t.nodes h t.root).filter (geB s):=by have hF:=(inferInstance:Big F).le;have h4:=yn hg;exact I7 hg.chk s h F t.root 0 topS hg.ok o_
theorem Js {τ:Type}{ns:List DNode}(hns:∀n∈ns,wy n=0){s:DSpot}{len:τ->Nat}{m:Nat}{a b:τ}{i:Int}(h:Ka ns s len (m+1) (a,i))(h1:(nd ns i).kind≠1){t:τ->DElem->τ×Nat}(ht:∀a e,len (t a e).1<=len a+1)
 (hb:w8 t ((nd ns i).elems.filter (geB s)) a=(b,0)) {k:Nat} {e:Int} (hk:((nd ns i).kids.drop (yE (nd ns i).seps s))[k]? = some e) {st:τ}
 (hr:w8 (λst k=>w8 t (xL ns s m k) st) (((nd ns i).kids.drop (yE (nd ns i).seps s)).take k) b=(st,0)):Ka ns s len m (st,e):=by
 have hkids:=(h.1.kids hns).2;refine⟨hkids e (w6 (B_ hk)),?_⟩;rw[zX] at hr;have q1:=Dx t len ht ((nd ns i).elems.filter (geB s)) a;rw[hb] at q1;have q2:=Dx t len ht ((((nd ns i).kids.drop (yE (nd ns i).seps s)).take k).flatMap (xL ns s m)) b;rw[hr] at q2;have h2:=h.2;dsimp only at q1 q2 h2 ⊢;rw[xL,if_neg h1,i_] at h2;obtain⟨hkl,rfl⟩:=ggs.1 hk;have h3:(((nd ns i).kids.drop (yE (nd ns i).seps s)).flatMap (xL ns s m)).length=((((nd ns i).kids.drop (yE (nd ns i).seps s)).take k).flatMap (xL ns s m)).length+(((((nd ns i).kids.drop (yE (nd ns i).seps s)).drop k)).flatMap (xL ns s m)).length:=by rw[<-i_,<-N_,O_]
 rw[v8 hkl,q_,i_] at h3;omega
theorem KV {ns:List DNode}{i:Int}(hI:Inner (nd ns i))(s:DSpot):yE (nd ns i).seps s<=(nd ns i).kids.length:=by have:=CZ (nd ns i).seps s;have:=hI.seps;omega
end
section
section
theorem DZ {t:DTree}{h:Nat}(hg:Good t h){F:Nat}[Big F]:wB t.nodes F t.root=wb t.nodes h t.root:=by have hF:=(inferInstance:Big F).le;have h4:=yn hg;exact Ce hg.chk h F t.root 0 topS hg.ok o_
end
section

end
section
variable {F:Nat} [Big F]
theorem CL {t:DTree}(hs:∀n∈t.nodes,Small n){h:Nat}(hg:Good t h):mg F t=some (AV (wb t.nodes h t.root)):=by unfold mg;rw[zA hs hg,obs];dsimp only;rw[show ((0:Int) !=0)=false from rfl,cond_false,zY];rfl
theorem KK {l:List DElem}(hp:l.Pairwise SpO){i j:Nat}{a b:DElem}(hij:i<=j)(ha:l[i]? = some a)(hb:l[j]? = some b):cmpK a.key b.key<=0:=by
 by_cases e:i=j
 . subst e;rw[ha] at hb;obtain rfl:=G_.inj hb;rw[wv.refl];exact y_ _
 . have:=xl hp (show i<j by omega) ha hb;unfold SpO at this;rcases BI.1 this with h|⟨h,_⟩
   . exact Int.le_of_lt h
   . unfold wg at h;dsimp only at h;rw[h,wv.refl];exact y_ _
theorem IE {l:List DElem}(ho:∀e∈l,wm e=0)(k:DKey)(u:Int):(l.filter (geB ⟨k,0⟩)).find? (λe=>e.key==k&&Ah e u)=atR l k u:=by
 unfold atR;rw[List.find?_filter]
 have:∀m:List DElem,(∀e∈m,e∈l)->m.find? (λa=>decide (geB ⟨k,0⟩ a=true/\(a.key==k&&Ah a u)=true))=m.find? λe=>e.key==k&&Ah e u:=by
  intro m
  induction m with
  |nil=>intro _;rfl
  |cons e m ih =>
   intro hm;rw[l7,l7,ih λx hx=>hm x (E_ _ hx)];by_cases hk:e.key=k
   . obtain⟨_,h1,_⟩:=xN (ho e (hm e j_));have hge:geB ⟨k,0⟩ e=true:=(by refine decide_eq_true ?_;have h2:=wq.neg (wg e) ⟨k,0⟩;have:cmpS ⟨k,0⟩ (wg e)<0:=BI.2 (.inr ⟨hk.symm,by show (0:Int)<e.made;omega⟩);omega);have hd:decide (geB ⟨k,0⟩ e=true/\(e.key==k&&Ah e u)=true)=(e.key==k&&Ah e u):=(by cases hq:(e.key==k&&Ah e u) <;> simp[hge]);rw[hd]
   . have:(e.key==k)=false:=(by simpa using hk);rw[this];simp
 first
 |exact this l λe he=>he
 |(simp only[Bool.decide_and,Bool.decide_eq_true] at this;exact this l λe he=>he)
theorem HR {l:List DElem}{k:DKey}:∀e∈l.filter (geB ⟨k,0⟩),0<=cmpK e.key k:=λe he=>by
 have h1:=(g_.1 he).2;unfold geB at h1;have h1:=of_decide_eq_true h1;by_cases h:cmpK e.key k<0
 . have:cmpS (wg e) ⟨k,0⟩<0:=BI.2 (.inl h);omega
 . omega
end
section
variable {F:Nat} [Big F]
abbrev FlatN:=Bool×Int×Int×Int×Int×Int×ByteArray
def flatN (e:DElem):FlatN:=(true,e.key.pfs,e.key.obj,e.key.off,e.made,e.gone,e.val)
def zd (k:DKey)(st:FlatN)(e:DElem):FlatN×Nat:=if e.key≠k then (st,1) else if e.gone=0 then (flatN e,2) else (st,0)
theorem Gc {k:DKey}{st:FlatN}{e:DElem}(h:e.key≠k):zd k st e=(st,1):=if_pos h
theorem G6 {k:DKey}{st:FlatN}{e:DElem}(h:e.key=k)(hl:e.gone=0):zd k st e=(flatN e,2):=by unfold zd;rw[if_neg (λh'=>h' h),if_pos hl]
theorem G5 {k:DKey}{st:FlatN}{e:DElem}(h:e.key=k)(hl:¬ e.gone=0):zd k st e=(st,0):=by unfold zd;rw[if_neg (λh'=>h' h),if_neg hl]
theorem Kg (k:DKey)(u:Int):∀(l:List DElem),l.Pairwise SpO->(∀e∈l,0<=cmpK e.key k)->(∀e∈l,wT e<=u)->∀a:FlatN,(∃e,l.find? (λe=>e.key==k&&Ah e u)=some e/\w8 (zd k) l a=(flatN e,2))\/(l.find? (λe=>e.key==k&&Ah e u)=none/\∃c,c<=1/\w8 (zd k) l a=(a,c)):=by
 intro l
 induction l with
 |nil=>intro _ _ _ a;exact .inr ⟨rfl,0,by omega,rfl⟩
 |cons e l ih =>
  intro hp hk hu a;have hlv:=Eg (hu e j_);rw[w8];by_cases he:e.key=k
  . have hb:(e.key==k)=true:=by simpa using he
    rw[l7,hb,hlv];by_cases hl:e.gone=0
    . left;rw[G6 he hl,if_neg s_,show (e.gone==0)=true by simpa using hl];exact⟨e,rfl,rfl⟩
    . rw[G5 he hl,if_pos rfl,show (e.gone==0)=false by simpa using hl];exact ih (g8.1 hp).2 (λx hx=>hk x (E_ _ hx)) (λx hx=>hu x (E_ _ hx)) a
  . right;rw[Gc he,if_neg s_];refine⟨?_,1,l_ _,rfl⟩;rw[List.find?_eq_none];intro x hx hq;have hxk:x.key=k:=by have:=(Bool.and_eq_true_iff.1 hq).1;simpa using this
    have h1:=hk e j_;obtain⟨j,hj⟩:=g9.1 hx;have h2:=KK hp (i:=0) (j:=j) (C_ _) rfl hj;rw[hxk] at h2;exact he ((wv.zero _ _).1 o_)
def EL (o:Option DElem):DElem×Bool:=match o with
 |some e=>(e,true)
 |none=>(K7,false)
theorem ze {t:DTree}{h:Nat}(hg:Good t h)(hr:Run (wb t.nodes h t.root))(k:DKey):nP F t k=some (EL (xy (wb t.nodes h t.root) k)):=by
 have hs:=AK hg;have hlen:∀(a:FlatN) (e:DElem),(λ_:FlatN=>0) (zd k a e).1<=(λ_:FlatN=>0) a+1:=λ_ _=>C_ _;unfold nP
 rw[Ao (σ:=Bool×Int×Int×Int×Int×Int×ByteArray×Int) (λm x=>match x with|(x0,x1,x2,x3,x4,x5,x6,x7)=>Ka t.nodes ⟨k,0⟩ (λ_:FlatN=>0) m ((x0,x1,x2,x3,x4,x5,x6),x7))
  (λm x=>match x with|(x0,x1,x2,x3,x4,x5,x6,x7)=>let r:=w8 (zd k) (xL t.nodes ⟨k,0⟩ m x7) (x0,x1,x2,x3,x4,x5,x6);(r.2,r.1)) ?h0 ?hstep F _ (Ij hg ⟨k,0⟩ (λ_=>0) _ rfl)]
 case h0 =>
  rintro⟨x0,x1,x2,x3,x4,x5,x6,x7⟩ ⟨⟨h,d,s,hm,_⟩,_⟩;omega
 case hstep =>
  rintro m self ih ⟨x0,x1,x2,x3,x4,x5,x6,x7⟩ hpre;dsimp only at hpre;obtain⟨⟨h0,h1⟩,hkids⟩:=hpre.1.kids hg.chk;dsimp only at h0 h1 hkids ⊢;have hmem:=xR h0 h1;obtain⟨h8,h8'⟩:=yq (hg.chk _ hmem);rw[Bn h0 h1,obs];rw[Ea (λst e=>if geB ⟨k,0⟩ e then zd k st e else (st,0)) (nd t.nodes x7).elems (λ(st:FlatN) j=>(st.1,st.2.1,st.2.2.1,st.2.2.2.1,st.2.2.2.2.1,st.2.2.2.2.2.1,st.2.2.2.2.2.2,j)) Sum.inl (λst n=>v_ (n+1,st)) (x0,x1,x2,x3,x4,x5,x6) o_ rfl ?hs ?he]
  case hs =>
   rintro j e ⟨y0,y1,y2,y3,y4,y5,y6⟩ hj hr;have hkl:=(ggs.1 hj).1;dsimp only;rw[decide_eq_true o_,cond_true,vD,hj,obs,wr,obs,wH,obs,w64 o_ o_];unfold geB;by_cases hge:0<=cmpS (wg e) ⟨k,0⟩
   . rw[decide_eq_true hge,cond_true,if_pos rfl];unfold zd;by_cases hn:e.key=k
     . rw[if_neg (show ¬ e.key≠k by simpa using hn),show (!(e.key==k))=false by simpa using hn,cond_false];by_cases hz:e.gone=0
       . rw[if_pos hz,show (e.gone==0)=true by simpa using hz];rfl
       . rw[if_neg hz,show (e.gone==0)=false by simpa using hz];rfl
     . rw[if_pos hn,show (!(e.key==k))=true by simpa using hn];rfl
   . rw[decide_eq_false hge,cond_false,if_neg s_];rfl
  case he =>
   rintro⟨y0,y1,y2,y3,y4,y5,y6⟩ hr;dsimp only;rw[decide_eq_false o_];rfl
  rw[obs,AE,xL]
  cases hb:w8 (zd k) ((nd t.nodes x7).elems.filter (geB ⟨k,0⟩)) (x0,x1,x2,x3,x4,x5,x6) with
  |mk b c =>
   rw[yD,hb]
   cases c with
   |succ c=>rfl
   |zero =>
    obtain⟨b0,b1,b2,b3,b4,b5,b6⟩:=b;dsimp only[lz];rw[if_pos rfl];by_cases hkd:(nd t.nodes x7).kind=1
    . rw[if_pos hkd,show ((nd t.nodes x7).kind==1)=true by simpa using hkd];rfl
    . rw[if_neg hkd,show ((nd t.nodes x7).kind==1)=false by simpa using hkd,cond_false]
      have hw:yE (nd t.nodes x7).seps ⟨k,0⟩<=(nd t.nodes x7).kids.length:=by
       rcases wE.1 (hg.chk _ hmem) with q|q|q
       . rw[q.2.2.2.1];exact C_ _
       . exact absurd q.1 hkd
       . exact KV q.2 ⟨k,0⟩
      rw[yA _ ⟨k,0⟩ (hs _ hmem),obs,uT hw,obs];rw[Ea (λst j=>w8 (zd k) (xL t.nodes ⟨k,0⟩ m j) st) ((nd t.nodes x7).kids.drop (yE (nd t.nodes x7).seps ⟨k,0⟩)) (λ(st:FlatN) j=>(st.1,st.2.1,st.2.2.1,st.2.2.2.1,st.2.2.2.2.1,st.2.2.2.2.2.1,st.2.2.2.2.2.2,j)) Sum.inl (λst n=>v_ (n+1,st)) (b0,b1,b2,b3,b4,b5,b6) (by rw[l9];omega) rfl ?hs2 ?he2]
      case hs2 =>
       rintro j e ⟨y0,y1,y2,y3,y4,y5,y6⟩ hk2 hr;have hkl:=(ggs.1 hk2).1;rw[l9] at hkl;dsimp only;rw[decide_eq_true (by rw[l9];omega),cond_true,vD,hk2,obs,ih (y0,y1,y2,y3,y4,y5,y6,e) (Js hg.chk hpre hkd hlen hb hk2 hr),obs,w64 o_ o_];dsimp only
       cases hc:w8 (zd k) (xL t.nodes ⟨k,0⟩ m e) (y0,y1,y2,y3,y4,y5,y6) with
       |mk y c=>cases c <;> rfl
      case he2 =>
       rintro⟨y0,y1,y2,y3,y4,y5,y6⟩ hr;dsimp only;rw[decide_eq_false o_];rfl
      rw[obs,zX]
      cases hc:w8 (zd k) (((nd t.nodes x7).kids.drop (yE (nd t.nodes x7).seps ⟨k,0⟩)).flatMap (xL t.nodes ⟨k,0⟩ m)) (b0,b1,b2,b3,b4,b5,b6) with
      |mk y c=>cases c <;> rfl
 rw[obs];dsimp only;rw[HS hg ⟨k,0⟩];obtain⟨hsort,hall⟩:=xD hg.chk h t.root 0 topS hg.ok;have hlast:=hr.last_le;have hat:=IE (λe he=>(hall e he).2) k 2147483647 (l:=wb t.nodes h t.root);rw[J7 hr hlast] at hat;rcases Kg k 2147483647 _ (hsort.filter _) HR (λe he=>by have:=zH (g_.1 he).1;omega) (false,0,0,0,0,0,I_ #[]) with ⟨e,h1,h2⟩|⟨h1,c,hc,h2⟩
 . rw[h2,<-hat,h1];rfl
 . rw[h2,<-hat,h1];have:c=0\/c=1:=o_;rcases this with rfl|rfl <;> rfl
theorem HU {ns:List DNode}(hns:∀n∈ns,wy n=0):∀ {h:Nat} {i:Int} {m:Nat} {s:Span},wx ns h i m s->wo (nd ns i)=xn (wb ns h i):=by
 intro h
 induction h with
 |zero =>
  intro i m s c;have L:=c.leaf hns;obtain⟨g1,g2,g3⟩:=Bf (nd ns i);have g0:=(Ar (hns _ (xR c.range.1 c.range.2))).1;have hnn:=BQ (nd ns i).elems;rw[wb];refine Int.le_antisymm ?_ (yZ.2 ⟨g0,g1⟩);rcases g3 with g3|⟨e,he,g3⟩|⟨t,ht,_⟩
  . omega
  . rw[<-g3];exact zH he
  . rw[L.tids] at ht;cases ht
 |succ h ih =>
  intro i m s c;have L:=c.inner hns;obtain⟨g1,g2,g3⟩:=Bf (nd ns i);have g0:=(Ar (hns _ (xR c.range.1 c.range.2))).1;have hch:=c.2.2.2;rw[wb];have hnn:=BQ ((nd ns i).kids.flatMap (wb ns h));refine Int.le_antisymm ?_ (yZ.2 ⟨g0,λe he=>?_⟩)
  . rcases g3 with g3|⟨e,he,_⟩|⟨t,ht,g3⟩
    . omega
    . rw[L.elems] at he;cases he
    . obtain⟨k,s',hk,x⟩:=hch.tmem t ht;rw[<-g3,<-x.2,ih x.1];exact yZ.2 ⟨hnn,λe he=>zH (List.mem_flatMap.2 ⟨k,hk,he⟩)⟩
  . obtain⟨k,hk,he⟩:=List.mem_flatMap.1 he;obtain⟨q,hq⟩:=g9.1 hk;obtain⟨t,s',ht,x,_⟩:=hch.at_ q k hq;have h1:=g2 t (B_ ht);have h2:=zH he;rw[<-ih x.1,x.2] at h2;omega
theorem yI {t:DTree}{h:Nat}(hg:Good t h)(u:Int):mX F t u=some (decide (u<1\/2147483647<u\/u<xn (wb t.nodes h t.root))):=by
 have c:=Aq hg;rw[xg] at c;have hgr:=HU hg.chk c;obtain⟨h0,h1⟩:=c.range;unfold mX;by_cases h2:u<1
 . rw[decide_eq_true h2,cond_true,obs,decide_eq_true (.inl h2)]
 . rw[decide_eq_false h2,cond_false];by_cases h3:2147483647<u
   . rw[decide_eq_true h3,cond_true,obs,decide_eq_true (.inr (.inl h3))]
   . rw[decide_eq_false h3,cond_false,Bn h0 h1,obs,xi _ (xp (hg.chk _ (xR h0 h1))),obs,obs,hgr];congr 1;rw[Bool.eq_iff_iff,decide_eq_true_eq,decide_eq_true_eq];omega
theorem yH {t:DTree}{h:Nat}(hg:Good t h):oq F t=some (decide (400<=(wb t.nodes h t.root).length)):=by
 have hlen:∀(a:Nat) (e:DElem),(λa:Nat=>a) ((λ(a:Nat) (_:DElem)=>(a+1,0)) a e).1<=(λa:Nat=>a) a+1:=λ_ _=>l_ _;unfold oq;rw[Ao (σ:=Int×Int) (λm x=>Ec t.nodes m x.2/\0<=x.1/\x.1+((wB t.nodes m x.2).length:Int)<=100000) (λm x=>x.1+((wB t.nodes m x.2).length:Int)) ?h0 ?hstep F _ ?hpre]
 case h0 =>
  rintro⟨x1,x2⟩ ⟨⟨h,d,s,hm,_⟩,_⟩;omega
 case hpre =>
  have hF:=(inferInstance:Big F).le;have h4:=yn hg;refine⟨⟨h,0,topS,by omega,hg.ok⟩,y_ _,?_⟩;dsimp only;rw[DZ hg];have:=Be hg;omega
 case hstep =>
  rintro m self ih ⟨x1,x2⟩ ⟨hok,hc0,hc1⟩;obtain⟨⟨h0,h1⟩,hkids⟩:=hok.kids hg.chk;dsimp only at h0 h1 hkids hc0 hc1 ⊢;obtain⟨h8,h8'⟩:=yq (hg.chk _ (xR h0 h1));rw[wB,i_] at hc1;rw[Bn h0 h1,obs];rw[qi (λk=>(x1+(k:Int),(k:Int))) (nd t.nodes x2).elems.length (r:=x1+((nd t.nodes x2).elems.length:Int)) s_ o_ ?s1 ?e1]
  case s1 =>
   intro k hk;dsimp only;rw[decide_eq_true o_,cond_true,vD,gge hk,obs,w64 o_ o_,w64 o_ o_];congr 3;omega
  case e1 =>
   dsimp only;rw[decide_eq_false o_,cond_false]
  rw[obs];have hlen:((nd t.nodes x2).kids.flatMap (wB t.nodes m)).length<=100000:=o_;rw[qi (λk=>(x1+((nd t.nodes x2).elems.length:Int)+((((nd t.nodes x2).kids.take k).flatMap (wB t.nodes m)).length:Int),(k:Int))) (nd t.nodes x2).kids.length (r:=x1+((nd t.nodes x2).elems.length:Int)+(((nd t.nodes x2).kids.flatMap (wB t.nodes m)).length:Int)) s_ o_ ?s2 ?e2]
  case s2 =>
   intro k hk;have hgk:(nd t.nodes x2).kids[k]? = some (nd t.nodes x2).kids[k]:=gge hk;obtain⟨q1,q2⟩:=HO (wB t.nodes m) hk;dsimp only;rw[decide_eq_true o_,cond_true,vD,hgk,obs,ih _ ⟨hkids _ (Z_ _),by dsimp only;omega,by dsimp only;omega⟩,obs,w64 o_ o_];dsimp only;rw[q1,i_];congr 3;omega
  case e2 =>
   dsimp only;rw[decide_eq_false o_,cond_false,x_]
  rw[obs,wB,i_];congr 1;omega
 rw[obs,obs];dsimp only;rw[DZ hg];congr 1;rw[Bool.eq_iff_iff,decide_eq_true_eq,decide_eq_true_eq];omega
theorem Hy {A B:List DElem}{e y:DElem}(hs:wg y=wg e)(ho:(A++e::B).Pairwise SpO):(A++e::B).map (xT y)=A++y::B:=by
 obtain⟨o1,o2,o3⟩:=g6.1 ho;rw[List.map_append,S_,Bx,Bx]
 . unfold xT;rw[if_pos hs.symm]
 . intro x hx h;have h1:cmpS (wg e) (wg x)<0:=(g8.1 o2).1 x hx;rw[h,hs,wq.refl] at h1;omega
 . intro x hx h;have h1:cmpS (wg x) (wg e)<0:=o3 x hx e j_;rw[h,hs,wq.refl] at h1;omega
theorem Kf {A B:List DElem}{e:DElem}(ho:(A++e::B).Pairwise SpO):(A++e::B).filter (yG (wg e))=A++B:=by
 have hg:(A++e::B)[A.length]? = some e:=by rw[List.getElem?_append_right (l_ _)];simp
 rw[KT ho hg,List.take_left' rfl,show A++e::B=(A++[e])++B by simp,List.drop_left' s_]
section
variable {l:List DElem} {k:DKey} {t:Int} {v:ByteArray}
theorem Co (h:Run l){e:DElem}(hn:xy l k=some e):∃a,l=(lo l k++a)++e::hi l k/\clo (hist l k) t=a++(if e.made=t then [] else [{ e with gone:=t }]):=by
 obtain⟨a,ha,hc⟩:=Hf (t:=t) h.ord hn;refine⟨a,?_,hc⟩
 conv=>lhs;rw[EV k h.ord,ha]
 simp
theorem Kc (h:Run l){e:DElem}(hn:xy l k=some e)(hm:e.made=t):l.map (xT (yg k v t))=putR l k v t:=by
 obtain⟨a,h1,h2⟩:=Co (t:=t) h hn;have hk:=((yS h.ord).1 hn).2.1;have ho:=AG h.ord;rw[h1] at ho;have hsp:wg (yg k v t)=wg e:=by unfold wg yg;rw[hk,hm]
 conv=>lhs;rw[h1]
 rw[Hy hsp ho];unfold putR upd;rw[h2,if_pos hm];simp
theorem CQ (h:Run l){e:DElem}(hn:xy l k=some e)(hm:e.made≠t):l.map (xT { e with gone:=t })=cutR l k t:=by
 obtain⟨a,h1,h2⟩:=Co (t:=t) h hn;have ho:=AG h.ord;rw[h1] at ho
 conv=>lhs;rw[h1]
 rw[Hy (e:=e) (y:={ e with gone:=t }) rfl ho];unfold cutR upd;rw[h2,if_neg hm];simp
theorem JR (h:Run l){e:DElem}(hn:xy l k=some e)(hm:e.made=t):l.filter (yG (wg e))=cutR l k t:=by
 obtain⟨a,h1,h2⟩:=Co (t:=t) h hn;have ho:=AG h.ord;rw[h1] at ho
 conv=>lhs;rw[h1]
 rw[Kf ho];unfold cutR upd;rw[h2,if_pos hm];simp
theorem El (h:Run l)(ht:xn l<=t)(hc:wm (yg k v t)=0):∀x∈cutR l k t,wg x≠wg (yg k v t):=by
 obtain⟨_,h0,h1,_⟩:=zk hc;obtain⟨c1,c2,c3⟩:=h.clo ht h0 h1 k;intro x hx hs;unfold cutR at hx;have hk:x.key=k:=congrArg DSpot.key hs;have hmd:x.made=t:=congrArg DSpot.made hs;rcases(zj h.ord).1 hx with hx|⟨_,hx⟩
 . have:=(c3 x hx).2;omega
 . exact hx hk
theorem FY (h:Run l)(hn:xy l k=none):(putR l k v t).length=l.length+1:=by rw[Bt h,hn]
theorem FZ (h:Run l){e:DElem}(hn:xy l k=some e)(hm:e.made=t):(putR l k v t).length=l.length:=by rw[Bt h,hn];exact if_pos hm
theorem F0 (h:Run l){e:DElem}(hn:xy l k=some e)(hm:¬ e.made=t):(putR l k v t).length=l.length+1:=by rw[Bt h,hn];exact if_neg hm
theorem Kb (h:Run l)(ht:xn l<=t)(hc:wm (yg k v t)=0)(hn:(putR l k v t).length<=400):GD (cutR l k t) (yg k v t)=putR l k v t:=by
 obtain⟨_,h0,h1,_⟩:=zk hc;have hcut:=h.cutR ht h0 h1 k;have hput:=h.putR ht hc hn;refine EW (CE (AG hcut.ord) _) (AG hput.ord) λx=>?_;rw[FR];have hf:=El h ht hc;unfold putR;rw[zj h.ord,p_,t_];constructor
 . rintro(rfl|⟨hx,_⟩)
   . exact .inl (.inr rfl)
   . unfold cutR at hx;rcases(zj h.ord).1 hx with hx|hx
     . exact .inl (.inl hx)
     . exact .inr hx
 . rintro((hx|rfl)|hx)
   . have hm:x∈cutR l k t:=(by unfold cutR;exact(zj h.ord).2 (.inl hx));exact .inr ⟨hm,hf x hm⟩
   . exact .inl rfl
   . have hm:x∈cutR l k t:=(by unfold cutR;exact(zj h.ord).2 (.inr hx));exact .inr ⟨hm,hf x hm⟩
end
theorem KO {N:NL}(h:qP N=some (fN N))(root:Int):nlT ⟨root,fN N⟩=N:=(li h).symm
theorem zn {t:DTree}{h:Nat}(hg:Good t h):mg F t=some (AV (wb t.nodes h t.root)):=CL (AK hg) hg
omit [Big F] in
theorem Ca (t:DTree)(k:DKey)(v:ByteArray)(u:Int):pi F t k v u=(mg F t).bind λr1=>bif (r1 !=0) then some ((DTree.mk 0 []),r1) else (ke (DElem.mk k u 0 v)).bind λr2=>bif (r2 !=0) then some ((DTree.mk 0 []),r2) else
 (mX F t u).bind λr3=>bif r3 then some ((DTree.mk 0 []),9) else (nP F t k).bind λr4=>(mJ F t).bind λr5 =>
 bif (r4.2&&(r4.1.made==u)) then (qD (σ:=NL×Int) (ρ:=NL) (Al F (DElem.mk k u 0 v)) F (nlT r5,r5.root)).bind λq1=>(qP q1).bind λl1=>some ((DTree.mk r5.root l1),0)
 else (oq F t).bind λr16=>bif r16 then some ((DTree.mk 0 []),8) else
  (bif r4.2 then (qD (σ:=NL×Int) (ρ:=NL) (Al F (DElem.mk r4.1.key r4.1.made u r4.1.val)) F (nlT r5,r5.root)).bind λq2=>some q2 else some (nlT r5):Option NL).bind λz5 =>
  (Gi F (DElem.mk k u 0 v) z5 r5.root).bind λz=>match z with|(z10,z11)=>(qP z11).bind λl2=>some ((DTree.mk z10 l2),0)
:=by
 unfold pi;simp only[DU,Kv];rfl
theorem Fj {t:DTree}{h:Nat}(hg:Good t h)(k:DKey)(v:ByteArray)(u:Int)(hz:DO (wb t.nodes h t.root) k v u≠0):pi F t k v u=some (zT,DO (wb t.nodes h t.root) k v u):=by
 rw[Ca,zn hg,obs];unfold DO at hz ⊢;by_cases h1:AV (wb t.nodes h t.root)=0;rotate_left
 . rw[vn h1,cond_true,if_pos h1];rfl
 have hrun:=xB.1 h1;rw[if_neg (by simpa using h1)] at hz ⊢;rw[vd h1,cond_false,wM,obs];by_cases h2:wm (yg k v u)=0;rotate_left
 . rw[show DElem.mk k u 0 v=yg k v u from rfl,vn h2,cond_true,if_pos h2];rfl
 rw[if_neg (by simpa using h2)] at hz ⊢;obtain⟨_,u0,u1,_⟩:=zk h2;rw[show DElem.mk k u 0 v=yg k v u from rfl,vd h2,cond_false,yI hg,obs];by_cases h3:u<xn (wb t.nodes h t.root)
 . rw[decide_eq_true (.inr (.inr h3)),cond_true,if_pos h3];rfl
 rw[if_neg h3] at hz ⊢;rw[decide_eq_false o_,cond_false,ze hg hrun,obs,yP hg.len hg.chk,obs];have hl:=hrun.len;by_cases h4:400<(putR (wb t.nodes h t.root) k v u).length;rotate_left
 . exact absurd (if_neg h4) hz
 rw[if_pos h4]
 have hnm:((EL (xy (wb t.nodes h t.root) k)).2&&((EL (xy (wb t.nodes h t.root) k)).1.made==u))=false:=by
  cases hn:xy (wb t.nodes h t.root) k with
  |none=>rfl
  |some e=>show (true&&(e.made==u))=false;rw[m0,beq_eq_false_iff_ne];intro hm;have hpl:=FZ (v:=v) hrun hn hm;omega
 have h5:400<=(wb t.nodes h t.root).length:=by
  cases hn:xy (wb t.nodes h t.root) k with
  |none=>have hpl:=FY (v:=v) (t:=u) hrun hn;omega
  |some e =>
   by_cases hm:e.made=u
   . have hpl:=FZ (v:=v) hrun hn hm;omega
   . have hpl:=F0 (v:=v) hrun hn hm;omega
 rw[hnm,cond_false,yH hg,obs,decide_eq_true h5,cond_true];rfl
theorem AJ {t:DTree}{h:Nat}(hg:Good t h)(k:DKey)(v:ByteArray)(u:Int)(hz:DO (wb t.nodes h t.root) k v u=0) :
 ∃t' h',pi F t k v u=some (t',0)/\Good t' h'/\wb t'.nodes h' t'.root=putR (wb t.nodes h t.root) k v u:=by
 obtain⟨hrun,hc,hlast,hput⟩:=AR.1 hz;obtain⟨_,u0,u1,_⟩:=zk hc;have hl:=hrun.len;have hcut:=hrun.cutR hlast u0 u1 k
 have pre:∀r,((bif ((EL (xy (wb t.nodes h t.root) k)).2&&((EL (xy (wb t.nodes h t.root) k)).1.made==u)) then (qD (σ:=NL×Int) (ρ:=NL) (Al F (yg k v u)) F (nlT t,t.root)).bind λq1=>(qP q1).bind λl1=>some ((DTree.mk t.root l1),(0:Int))
  else (oq F t).bind λr16=>bif r16 then some ((DTree.mk 0 []),8) else
   (bif (EL (xy (wb t.nodes h t.root) k)).2 then (qD (σ:=NL×Int) (ρ:=NL) (Al F (DElem.mk (EL (xy (wb t.nodes h t.root) k)).1.key (EL (xy (wb t.nodes h t.root) k)).1.made u (EL (xy (wb t.nodes h t.root) k)).1.val)) F (nlT t,t.root)).bind λq2=>some q2 else some (nlT t):Option NL).bind λz5 =>
   (Gi F (yg k v u) z5 t.root).bind λz=>match z with|(z10,z11)=>(qP z11).bind λl2=>some ((DTree.mk z10 l2),0))=r)->pi F t k v u=r:=λr hh=>by
  rw[Ca,zn hg,obs,vd (xB.2 hrun),cond_false,show DElem.mk k u 0 v=yg k v u from rfl,wM,obs,vd hc,cond_false,yI hg,obs,decide_eq_false o_,cond_false,ze hg hrun,obs,yP hg.len hg.chk,obs];exact hh
 have add:∀(t1:DTree),Good t1 h->t1.root=t.root->wb t1.nodes h t1.root=cutR (wb t.nodes h t.root) k u->∃t' h',((Gi F (yg k v u) (nlT t1) t.root).bind λz=>match z with|(z10,z11)=>(qP z11).bind λl2=>some ((DTree.mk z10 l2),(0:Int)))=some (t',0)/\Good t' h'/\wb t'.nodes h' t'.root=putR (wb t.nodes h t.root) k v u:=λt1 g1 hr1 he1=>by
  obtain⟨root,N,a1,a2,h',a3,a4⟩:=HF (F:=F) (e:=yg k v u) g1 hc (by rw[he1];exact El hrun hlast hc) (by rw[he1];exact hcut.len);rw[hr1] at a1;refine⟨⟨root,fN N⟩,h',?_,a3,?_⟩
  . rw[a1,obs];dsimp only;rw[a2,obs]
  . rw[a4,he1];exact Kb hrun hlast hc hput
 cases hn:xy (wb t.nodes h t.root) k with
 |none=>have hpl:=FY (v:=v) (t:=u) hrun hn;rw[hn] at pre;obtain⟨t',h',a1,a2,a3⟩:=add t hg rfl (IW hrun hn).symm;refine⟨t',h',pre _ ?_,a2,a3⟩;show (bif false then _ else _)=_;rw[cond_false,yH hg,obs,decide_eq_false o_,cond_false];show ((bif false then _ else some (nlT t):Option NL).bind _)=_;rw[cond_false,obs];exact a1
 |some e =>
  rw[hn] at pre;have hem:=(yS hrun.ord).1 hn;by_cases hm:e.made=u
  . obtain⟨N,c1,c2,c3,c4⟩:=Da (F:=F) (e:=yg k v u) hg hc;refine⟨⟨t.root,fN N⟩,h,pre _ ?_,c3,by rw[c4];exact Kc hrun hn hm⟩;show (bif (true&&(e.made==u)) then _ else _)=_;rw[m0,show (e.made==u)=true by rw[beq_iff_eq];exact hm,cond_true,c1,obs,c2,obs]
  . have hce:wm { e with gone:=u } = 0:=by have h1:=hcut.ok { e with gone:=u };refine h1 ?_;rw[<-CQ hrun hn hm];exact L_.2 ⟨e,hem.1,if_pos rfl⟩
    obtain⟨N,c1,c2,c3,c4⟩:=Da (F:=F) (e:={ e with gone:=u }) hg hce;obtain⟨t',h',a1,a2,a3⟩:=add ⟨t.root,fN N⟩ c3 rfl (by rw[<-CQ hrun hn hm];exact c4);rw[KO c2] at a1;refine⟨t',h',pre _ ?_,a2,a3⟩;have hpl:=F0 (v:=v) hrun hn hm;show (bif (true&&(e.made==u)) then _ else _)=_;rw[m0,show (e.made==u)=false by rw[beq_eq_false_iff_ne];exact hm,cond_false,yH hg,obs,decide_eq_false o_,cond_false];show ((bif true then (qD (σ:=NL×Int) (ρ:=NL) (Al F { e with gone:=u }) F (nlT t,t.root)).bind _ else _:Option NL).bind _)=_;rw[cond_true,c1,obs,obs];exact a1
omit [Big F] in
theorem Fh (t:DTree)(k:DKey)(u:Int):ph F t k u=(mg F t).bind λr1=>bif (r1 !=0) then some ((DTree.mk 0 []),r1) else (nM k).bind λr2=>bif (r2 !=0) then some ((DTree.mk 0 []),r2) else
 (mX F t u).bind λr3=>bif r3 then some ((DTree.mk 0 []),9) else (nP F t k).bind λr4=>bif (!r4.2) then some ((DTree.mk 0 []),4) else
 bif (r4.1.made==u) then (mJ F t).bind λr5=>(i8 r4.1).bind λr7=>(Id F r7 (nlT r5) r5.root).bind λz=>match z with|(z1,z2)=>(qP z1).bind λl1=>some ((DTree.mk z2 l1),0)
 else (mJ F t).bind λr43=>(qD (σ:=NL×Int) (ρ:=NL) (Al F (DElem.mk r4.1.key r4.1.made u r4.1.val)) F (nlT r43,r43.root)).bind λq11=>(qP q11).bind λl2=>some ((DTree.mk r43.root l2),0)
:=by
 unfold ph;simp only[DU,Kw];rfl
theorem DH {t:DTree}{h:Nat}(hg:Good t h)(k:DKey)(u:Int)(hz:IV (wb t.nodes h t.root) k u=0) :
 ∃t' h',ph F t k u=some (t',0)/\Good t' h'/\wb t'.nodes h' t'.root=cutR (wb t.nodes h t.root) k u:=by
 obtain⟨hrun,hk,u0,u1,hlast,hnow⟩:=Cd.1 hz;obtain⟨e,hn⟩:=Option.isSome_iff_exists.1 hnow;have hem:=(yS hrun.ord).1 hn;have hcut:=hrun.cutR hlast u0 u1 k;rw[Fh,zn hg,obs,vd (xB.2 hrun),cond_false,BO,obs,vd hk,cond_false,yI hg,obs,decide_eq_false o_,cond_false,ze hg hrun,obs,hn];show ∃t' h',(bif (!true) then _ else bif (e.made==u) then _ else _)=_/\_;rw[F_,cond_false];by_cases hm:e.made=u
 . obtain⟨root,N,o1,o2,h',o3,o4⟩:=Ie (F:=F) (sp:=wg e) hg;refine⟨⟨root,fN N⟩,h',?_,o3,by rw[o4];exact JR hrun hn hm⟩;rw[show (e.made==u)=true by rw[beq_iff_eq];exact hm,cond_true,yP hg.len hg.chk,obs,wr,obs];show (Id F (wg e) (nlT t) t.root).bind _=_;rw[o1,obs];dsimp only;rw[o2,obs]
 . have hce:wm { e with gone:=u } = 0:=by refine hcut.ok { e with gone:=u } ?_;rw[<-CQ hrun hn hm];exact L_.2 ⟨e,hem.1,if_pos rfl⟩
   obtain⟨N,c1,c2,c3,c4⟩:=Da (F:=F) (e:={ e with gone:=u }) hg hce;refine⟨⟨t.root,fN N⟩,h,?_,c3,by rw[c4];exact CQ hrun hn hm⟩;rw[show (e.made==u)=false by rw[beq_eq_false_iff_ne];exact hm,cond_false,yP hg.len hg.chk,obs];show (qD (σ:=NL×Int) (ρ:=NL) (Al F { e with gone:=u }) F (nlT t,t.root)).bind _=_;rw[c1,obs,c2,obs]
end
section
variable {F:Nat} [Big F]
def AC (t:DTree):List UInt8:=wu t.root.toNat 2++wu t.nodes.length 2
def wW (t:DTree):ByteArray:=ofL (AC t)
theorem xJ (t:DTree):(AC t).length=4:=by unfold AC;rw[i_,we,we]
theorem D6 {t:DTree}{h:Nat}(g:Good t h):0<=t.root/\t.root<(t.nodes.length:Int):=by
 have:=g.ok
 cases h with
 |zero=>exact this.1
 |succ h=>exact this.1
theorem Hw {t:DTree}{h:Nat}(g:Good t h):((jT F t.root 2).bind λr1=>(jT F (t.nodes.length:Int) 2).bind λr2=>(mn r1 r2).bind λs1=>some s1:Option ByteArray)=some (wW t):=by
 have hr:=D6 g;have e:t.root=((t.root.toNat:Nat):Int):=o_;have h1:jT F t.root 2=some (ofL (wu t.root.toNat 2)):=by have:=yl (F:=F) t.root.toNat 2 c_;rw[<-e] at this;exact this
 have h2:jT F (t.nodes.length:Int) 2=some (ofL (wu t.nodes.length 2)):=yl (F:=F) t.nodes.length 2 c_;rw[h1,wd,h2,wd,xo (by rw[we,we];decide),wd];rfl
structure Fine (t:DTree) (l:List DElem):Prop where
 good:∃h,Good t h/\wb t.nodes h t.root=l
 run:Run l
 few:t.nodes.length<=100
theorem Fine.all {t:DTree}{l:List DElem}(f:Fine t l):lF F t=some (l,0):=by obtain⟨h,g,rfl⟩:=f.good;exact zA (AK g) g
theorem Fine.chk {t:DTree}{l:List DElem}(f:Fine t l):∀n∈t.nodes,wy n=0:=by obtain⟨h,g,rfl⟩:=f.good;exact g.chk
theorem Fine.check {t:DTree}{l:List DElem}(f:Fine t l):mg F t=some 0:=by obtain⟨h,g,rfl⟩:=f.good;rw[zn g,xB.2 f.run]
structure Kept (R:List ByteArray) (q:Nat) (t:DTree):Prop where
 done:Done ⟨R,[]⟩ q (wW t)
 page:∀(i:Nat) (n:DNode),t.nodes[i]? = some n->pg R (1+i)=ofL (xf n)
 small:∀j,1<=j->j<101->(pg R j).size<=2900
theorem Bq {n:DNode}(h:wy n=0):(ofL (xf n)).size<=2900:=by have:=BG h;rw[Dt,Az];omega
theorem CC (l:List DNode):∀a:List DNode,l.foldl (λa n=>a++[n]) a=a++l:=by
 induction l with
 |nil=>intro a;simp
 |cons x l ih=>intro a;rw[List.foldl_cons,ih];simp
theorem Ia {P0:List ByteArray}{W0:List DWrite}{R:List ByteArray}{q:Nat}{t:DTree}{l:List DElem}(hr:mU F ⟨P0,W0⟩=some (⟨R,[]⟩,0))(K:Kept R q t)(f:Fine t l) :
 mB F P0 W0=some (R,[],t.root,t.nodes):=by
 obtain⟨h,g,hl⟩:=f.good;have hg:=D6 g;have hn:=f.few;have hR:R.length=201:=K.done.ok.len;unfold mB;rw[hr,wd];dsimp only;rw[show ((0:Int) !=0)=false from rfl,wi,Dz K.done.ok,wd];dsimp only;have hsz:(wW t).size=4:=xJ t;have s1:jL (wW t) 2 ((wW t).size:Int)=some (ofL (slc (AC t) 2 4)):=by rw[hsz];exact zc (l:=AC t) (a:=2) (b:=4) c_ (by rw[xJ];decide)
 have s2:jL (wW t) 0 2=some (ofL (slc (AC t) 0 2)):=zc (l:=AC t) (a:=0) (b:=2) c_ (by rw[xJ];decide);have e1:slc (AC t) 2 4=wu t.nodes.length 2:=by unfold slc AC;rw[t7 (by rw[i_,we,we];decide)];exact List.drop_left' (we _ _)
 have e2:slc (AC t) 0 2=wu t.root.toNat 2:=by unfold slc AC;rw[List.drop_zero];exact List.take_left' (we _ _)
 rw[s1,s2,e1,e2,hsz,show (((4:Nat):Int) !=4)=false from rfl,wi,wd,xU _ (by rw[we];decide),wd,wd,xU _ (by rw[we];decide),wd,xA,xA,
  Nat.mod_eq_of_lt (show t.nodes.length<256 ^ 2 by omega),Nat.mod_eq_of_lt (show t.root.toNat<256 ^ 2 by omega),decide_eq_false (show ¬ (100:Int)<(t.nodes.length:Int) by omega),wi]
 rw[vq (F:=F) t.nodes (λa n=>a++[n]) [] (r:=.inl t.nodes) o_ rfl (λk n hk=>?_) (by dsimp only;rw[decide_eq_false o_,wi,CC];rfl),wd]
 . dsimp only;rw[show (((t.root.toNat:Nat):Int))=t.root by omega];rw[show mg F (DTree.mk t.root t.nodes)=some 0 from f.check,wd];rfl
 . have hk1:=(ggs.1 hk).1;dsimp only;have hp:pg R (1+k)=ofL (xf n):=K.page k n hk;have hc:=f.chk n (B_ hk);have hb:=BG hc;have hlen:((t.nodes.take k).foldl (λa n=>a++[n]) []).length=k:=by rw[CC,H_,K_];omega
   rw[decide_eq_true o_,wt,wA o_ o_,Bj o_ o_,wd,show (1+(k:Int)).toNat=1+k by omega,hp,EM _ (by rw[Az];omega),wd,Im hc];dsimp only;rw[show ((0:Int) !=0)=false from rfl,wi,yd (by rw[hlen,D_];omega) (by rw[hlen,D_];omega),wd,wA o_ o_]
def zp (R:List ByteArray)(ns:List DNode):List DWrite:=(ns.zipIdx.filter λp=>decide (pg R (1+p.2)≠ofL (xf p.1))).map λp=>⟨((1+p.2:Nat):Int),ofL (xf p.1)⟩
theorem BV {R:List ByteArray}{ns:List DNode}{w:DWrite}:w∈zp R ns↔∃k n,ns[k]? = some n/\pg R (1+k)≠ofL (xf n)/\w=⟨((1+k:Nat):Int),ofL (xf n)⟩:=by
 unfold zp;rw[L_];constructor
 . rintro⟨⟨n,k⟩,hm,rfl⟩;obtain⟨h1,h2⟩:=g_.1 hm;exact⟨k,n,B1.1 h1,of_decide_eq_true h2,rfl⟩
 . rintro⟨k,n,h1,h2,rfl⟩;exact⟨(n,k),g_.2 ⟨B1.2 h1,decide_eq_true h2⟩,rfl⟩
theorem IM {R:List ByteArray}{t:DTree}{l:List DElem}(f:Fine t l):FitOk (wW t) (zp R t.nodes):=by
 have hn:=f.few;refine⟨by have:(wW t).size=4:=xJ t;omega,?_,λw hw=>?_,λw hw=>?_,?_⟩
 . unfold zp;rw[f_];exact V_ (M_ _ _) (by rw[m4];exact hn)
 . obtain⟨k,n,h1,_,rfl⟩:=BV.1 hw;have:=(ggs.1 h1).1;dsimp only;omega
 . obtain⟨k,n,h1,_,rfl⟩:=BV.1 hw;exact Bq (f.chk n (B_ h1))
 . unfold zp;rw[Q_];refine List.Pairwise.filter _ ?_;have:(t.nodes.zipIdx.map Prod.snd).Pairwise (·≠·):=by rw[List.zipIdx_map_snd];exact List.nodup_range'
   refine(Q_.1 this).imp λ{a b} h=>?_;dsimp only;omega
theorem D2 (R:List ByteArray)(l:List (DNode×Nat)):∀a:List DWrite,l.foldl (λa p=>if pg R (1+p.2)=ofL (xf p.1) then a else a++[⟨((1+p.2:Nat):Int),ofL (xf p.1)⟩]) a=a++(l.filter λp=>decide (pg R (1+p.2)≠ofL (xf p.1))).map λp=>⟨((1+p.2:Nat):Int),ofL (xf p.1)⟩:=by
 induction l with
 |nil=>intro a;simp
 |cons p l ih =>
  intro a;rw[List.foldl_cons,ih];by_cases h:pg R (1+p.2)=ofL (xf p.1)
  . rw[if_pos h,t6 (by rw[decide_eq_true_iff];exact λc=>c h)]
  . rw[if_neg h,p8 (by rw[decide_eq_true_iff];exact h),S_,List.append_assoc];rfl
theorem JP (R:List ByteArray)(l:List (DNode×Nat)):(l.foldl (λa p=>if pg R (1+p.2)=ofL (xf p.1) then a else a++[⟨((1+p.2:Nat):Int),ofL (xf p.1)⟩]) ([]:List DWrite)).length<=l.length:=by rw[D2,H_,f_];exact M_ _ _
theorem Kept.ground {R:List ByteArray}{q:Nat}{t0 t:DTree}{l:List DElem}(K:Kept R q t0)(f:Fine t l)(hq:q<2147483647):StepsOk ⟨R,[]⟩ (wW t) (zp R t.nodes) q (wW t0):=by have ft:=IM (R:=R) f;refine⟨K.done.ok,ft,λw hw=>?_,hq⟩;have:=ft.page w hw;rw[Bv];exact K.small _ o_ o_
theorem Kept.next {R:List ByteArray}{q:Nat}{t0 t:DTree}{l:List DElem}(K:Kept R q t0)(f:Fine t l)(hq:q<2147483647):Kept (P4 q R (wW t) (zp R t.nodes)) (q+1) t:=by
 have g:Ground q R (wW t) (zp R t.nodes):=(K.ground f hq).ground;have hn:=f.few;refine⟨K1 g K.done.quiet,λi n hi=>?_,λj h1 h2=>?_⟩
 . have hi1:=(ggs.1 hi).1;by_cases e:pg R (1+i)=ofL (xf n)
   . rw[Ek g (1+i) o_ o_ (λw hw=>?_),e];obtain⟨k,m,a1,a2,rfl⟩:=BV.1 hw;dsimp only;intro c;obtain rfl:k=i:=o_;rw[hi] at a1;obtain rfl:=G_.inj a1;exact a2 e
   . exact Jo g (w:=⟨((1+i:Nat):Int),ofL (xf n)⟩) (BV.2 ⟨i,n,hi,e,rfl⟩)
 . by_cases hw:∃w∈zp R t.nodes,w.page=(j:Int)
   . obtain⟨w,hw,hp⟩:=hw;have:=Jo g hw;rw[hp,T_] at this;rw[this];exact g.fit.text w hw
   . rw[Ek g j h1 h2 (λw hw' c=>hw ⟨w,hw',c⟩)];exact K.small j h1 h2
theorem Dh {R:List ByteArray}{q:Nat}{t0 t:DTree}{l:List DElem}(K:Kept R q t0)(f:Fine t l)(hq:q<2147483647) :
 kA F R [] t.root t.nodes=some (P4 q R (wW t) (zp R t.nodes),[],zy q R (wW t) (zp R t.nodes),0):=by
 obtain⟨h,g,hl⟩:=f.good;have hn:=f.few;have hR:R.length=201:=K.done.ok.len;have G:Ground q R (wW t) (zp R t.nodes):=(K.ground f hq).ground;have hL:=zz q R (wW t) (zp R t.nodes);have hcl:=G.fit.len;have h4:=G.len4;unfold kA;rw[Hw g,wd];have hz:t.nodes.zipIdx.length=t.nodes.length:=m4;rw[vq (F:=F) t.nodes.zipIdx (λa p=>if pg R (1+p.2)=ofL (xf p.1) then a else a++[⟨((1+p.2:Nat):Int),ofL (xf p.1)⟩]) [] (r:=zp R t.nodes) o_ rfl (λk p hk=>?_) (by dsimp only;rw[decide_eq_false o_,wi,D2];rfl),wd,wd]
 . rw[show mj F ⟨R,[]⟩ (wW t) (zp R t.nodes)=some (zy q R (wW t) (zp R t.nodes),0) from G7 (K.ground f hq),wd];dsimp only;rw[show ((0:Int) !=0)=false from rfl,wi,wA o_ o_,Jb G _ rfl,wd];dsimp only;rw[yd (by rw[u_];omega) (by rw[u_];omega),wd,yd c_ c_,wd,wd];rfl
 . obtain⟨n,i⟩:=p;have hk2:(t.nodes.zipIdx)[k]? = some (n,i):=hk;rw[List.getElem?_zipIdx] at hk2;obtain⟨m,hm,e⟩:=p6.1 hk2;obtain⟨rfl,hi⟩:=Prod.mk.inj e;obtain rfl:k=i:=o_;have hk1:=(ggs.1 hm).1;have hc:=f.chk m (B_ hm);have hcx:=JP R (t.nodes.zipIdx.take k);rw[K_] at hcx;dsimp only;generalize (t.nodes.zipIdx.take k).foldl _ []=a at hcx ⊢;rw[decide_eq_true o_,wt,xF,hm,wd,AZ m (xp hc),if_pos hc,wd];dsimp only;rw[wA o_ o_,Bj o_ o_,wd,show (1+(k:Int)).toNat=1+k by omega];by_cases e:pg R (1+k)=ofL (xf m)
   . rw[if_pos e,e,(sZ _ _).2 rfl,F_,wi,wd,wA o_ o_]
   . have hs:seq (pg R (1 + k)) (ofL (xf m))=false:=by
      cases hh:seq (pg R (1+k)) (ofL (xf m)) with
      |false=>rfl
      |true=>exact absurd ((sZ _ _).1 hh) e
     rw[if_neg e,hs,Bool.not_false,wt,yd (by rw[D_];omega) (by rw[D_];omega),wd,wd,wA o_ o_];rfl
theorem Ej {t:DTree}{h:Nat}(g:Good t h)(hr:Run (wb t.nodes h t.root)):nY F t=some (xZ (wb t.nodes h t.root),0):=by unfold nY;rw[zA (AK g) g,wd];dsimp only;have hl:=hr.len;rw[show ((0:Int) !=0)=false from rfl,wi,Fu,wd];unfold ofR;rw[if_neg o_,DX.2 ⟨hr.ok,Cf g⟩]
theorem Fn (P:List ByteArray)(W:List DWrite){t t1:DTree}{l:List DElem}(f:Fine t l){h:Nat}(g:Good t1 h)(hr:Run (wb t1.nodes h t1.root)) :
 ∃t' l' c,jP F P W t.root t.nodes t1.root t1.nodes 0=some (t'.root,t'.nodes,c)/\Fine t' l':=by
 unfold jP;rw[show ((0:Int) !=0)=false from rfl,wi];by_cases hn:(100:Int)<(t1.nodes.length:Int)
 . obtain⟨h',b1,b2,-⟩:=Cw hr.len hr.ok (Cf g);rw[decide_eq_true hn,wt,show nY F (DTree.mk t1.root t1.nodes)=some (xZ (wb t1.nodes h t1.root),0) from Ej g hr,wd];dsimp only;generalize wb t1.nodes h t1.root=m at b1 b2 hr;by_cases hm:(100:Int)<((xZ m).nodes.length:Int)
   . rw[decide_eq_true hm,wt,wd];exact⟨t,l,8,rfl,f⟩
   . rw[decide_eq_false hm,wi,wd];exact⟨xZ m,m,0,rfl,⟨⟨h',b1,b2⟩,hr,by omega⟩⟩
 . rw[decide_eq_false hn,wi,wd];exact⟨t1,_,0,rfl,⟨⟨h,g,rfl⟩,hr,by omega⟩⟩
omit [Big F] in
theorem Gk (P:List ByteArray)(W:List DWrite){t t1:DTree}{c:Int}(hc:c≠0):jP F P W t.root t.nodes t1.root t1.nodes c=some (t.root,t.nodes,c):=by unfold jP;rw[vn hc,wt]
theorem Iq (P:List ByteArray)(W:List DWrite){t:DTree}{l:List DElem}(f:Fine t l)(k:DKey)(v:ByteArray)(u:Int) :
 ∃t' l' c,kg F P W t.root t.nodes k v u=some (t'.root,t'.nodes,c)/\Fine t' l':=by
 obtain⟨h,g,rfl⟩:=f.good;unfold kg;by_cases hz:DO (wb t.nodes h t.root) k v u=0
 . obtain⟨t1,h1,a1,a2,a3⟩:=AJ (F:=F) g k v u hz;obtain⟨hr,hc,hl,hn⟩:=AR.1 hz;obtain⟨t',l',c,b1,b2⟩:=Fn (F:=F) P W f a2 (by rw[a3];exact hr.putR hl hc hn);rw[show pi F (DTree.mk t.root t.nodes) k v u=some (t1,0) from a1,wd];dsimp only;rw[b1,wd];exact⟨t',l',c,rfl,b2⟩
 . rw[show pi F (DTree.mk t.root t.nodes) k v u=_ from Fj g k v u hz,wd];dsimp only;rw[Gk (t1:=zT) P W hz,wd];exact⟨t,_,_,rfl,f⟩
theorem Jj:Fine newT []:=⟨⟨0,AP,rfl⟩,Run.nil,by decide⟩
def zK:List ByteArray:=((m9 201 (ofL [])).set 0 (hN 0 (wW newT))).set 1 (ofL (xf ⟨1,[],[],[],[]⟩))
theorem KN:oL F=some (zK,newT.root,newT.nodes):=by have hc:wy ⟨1,[],[],[],[]⟩=0:=AP.chk _ (t_.2 rfl);have h4:(wW newT).size=4:=xJ newT;unfold oL;rw[show qH 16 (201:Int)=some () by decide,wd,show (oN:Option DTree)=some newT from rfl,wd,Hw AP,wd,show mK F 0 (wW newT)=some (hN 0 (wW newT),0) from Hl 0 c_ (wW newT) o_,wd,KH,wd,show idx newT.nodes 0=some ⟨1,[],[],[],[]⟩ from rfl,wd,AZ _ (xp hc),if_pos hc,wd];dsimp only;have e1:idx ((m9 ((201:Int).toNat) ((I_ #[]):ByteArray)).set ((0:Int).toNat) (hN 0 (wW newT))) 1=some (pg ((m9 ((201:Int).toNat) ((I_ #[]):ByteArray)).set ((0:Int).toNat) (hN 0 (wW newT))) 1):=Bj c_ (by rw[J_,W_];decide);rw[e1,wd];rfl
theorem EO (j:Nat):pg zK j=if j=1 then ofL (xf ⟨1,[],[],[],[]⟩) else if j=0 then hN 0 (wW newT) else ofL []:=by
 unfold zK;rw[Br _ _ _ _ (by rw[J_,W_];decide),Br _ _ _ _ (by rw[W_];decide),K4];by_cases h1:j=1
 . rw[if_pos h1.symm,if_pos h1]
 . rw[if_neg (λc=>h1 c.symm),if_neg h1];by_cases h0:j=0
   . rw[if_pos h0.symm,if_pos h0]
   . rw[if_neg (λc=>h0 c.symm),if_neg h0]
theorem FT:Kept zK 0 newT:=by
 have hc:wy ⟨1,[],[],[],[]⟩=0:=AP.chk _ (t_.2 rfl);have h4:(wW newT).size=4:=xJ newT;have hl:zK.length=201:=by unfold zK;rw[J_,J_,W_]
 have hx:=KX 0 (wW newT) c_ o_
 have hs:∀s∈zK,s.size<=3500:=λs hs=>by
  unfold zK at hs;rcases List.mem_or_eq_of_mem_set hs with h1|rfl
  . exact hx.good.pages s h1
  . have:=Bq hc;omega
 refine⟨⟨⟨⟨Nat.le_of_eq hl,C_ _,hs,λw hw=>by cases hw⟩,hl,?_⟩,rfl,λi h1 h2=>?_⟩,λi n hi=>?_,λj h1 h2=>?_⟩
 . rw[Bv,EO,if_neg c_,if_pos rfl];exact EF 0 c_ _ o_
 . dsimp only;rw[EO,if_neg o_,if_neg o_];intro n p t ho;have hz:AW (ofL [])=none:=by decide
   rw[hz] at ho;cases ho
 . match i,hi with
   |0,hi=>obtain rfl:(⟨1,[],[],[],[]⟩:DNode)=n:=G_.inj hi;rw[EO,if_pos rfl]
   |i+1,hi=>exact absurd hi (by simp[newT])
 . rw[EO];split
   . exact Bq hc
   . rw[if_neg o_];decide
end
section
theorem BC {zs:List Int}(hs:zs.Pairwise (·<=·)):∀m,m<=zs.length->(Lib.compactUpTo zs.toArray m).Pairwise (· < ·)/\(∀x∈Lib.compactUpTo zs.toArray m,∀j,m<=j+1->j<zs.length->x<=zs.toArray[j]!)/\∀x,x∈Lib.compactUpTo zs.toArray m↔∃j,j<m/\zs.toArray[j]! = x
 |0,_=>by simp[Lib.compactUpTo]
 |m+1,hm=>by
  obtain⟨h1,h2,h3⟩:=BC hs m o_;have at':∀j (hj:j<zs.length),zs.toArray[j]! = zs[j]:=λj hj=>by simp[hj]
  have le:∀i j,i<=j->j<zs.length->zs.toArray[i]!<=zs.toArray[j]!:=λi j hij hj=>by
   rw[at' i o_,at' j hj];rcases n9 i j with h|h
   . exact o8.1 hs i j o_ hj h
   . obtain rfl:i=j:=o_;exact y_ _
  rw[Lib.compactUpTo_succ]
  cases hk:Lib.keeps zs.toArray m with
  |true =>
   rw[if_pos rfl]
   have hne:m=0\/zs.toArray[m]!≠zs.toArray[m-1]!:=by
    unfold Lib.keeps at hk;by_cases h0:m=0
    . exact .inl h0
    . refine .inr λe=>?_;simp[h0,e] at hk
   refine⟨g6.2 ⟨h1,by simp,λx hx y hy=>?_⟩,λx hx j hj hjl=>?_,λx=>?_⟩
   . obtain rfl:=t_.1 hy;rcases hne with rfl|hne
     . simp[Lib.compactUpTo] at hx
     . by_cases h0:m=0
       . subst h0;simp[Lib.compactUpTo] at hx
       . have:=h2 x hx (m-1) o_ o_;have:=le (m-1) m o_ o_;omega
   . rcases p_.1 hx with hx|hx
     . exact h2 x hx j o_ hjl
     . obtain rfl:=t_.1 hx;exact le m j o_ hjl
   . rw[p_,t_,h3];constructor
     . rintro(⟨j,hj,rfl⟩|rfl)
       . exact⟨j,by omega,rfl⟩
       . exact⟨m,by omega,rfl⟩
     . rintro⟨j,hj,rfl⟩;rcases n9 j m with h|h
       . exact .inl ⟨j,h,rfl⟩
       . obtain rfl:j=m:=o_;exact .inr rfl
  |false =>
   have h4:m≠0/\zs.toArray[m]! = zs.toArray[m-1]!:=(by unfold Lib.keeps at hk;simpa using hk);rw[if_neg s_,List.append_nil];refine⟨h1,λx hx j hj hjl=>h2 x hx j o_ hjl,λx=>?_⟩;rw[h3];constructor
   . rintro⟨j,hj,rfl⟩;exact⟨j,by omega,rfl⟩
   . rintro⟨j,hj,rfl⟩;rcases n9 j m with h|h
     . exact⟨j,h,rfl⟩
     . obtain rfl:j=m:=o_;exact⟨j-1,by omega,h4.2.symm⟩
theorem BM (l:List Int):(jM l).Pairwise (·<=·):=by unfold jM;have:=List.pairwise_mergeSort (le:=λx y:Int=>decide (x<=y)) (λa b c h1 h2=>by simp only[decide_eq_true_eq] at *;omega) (λa b=>by simp only[Bool.or_eq_true,decide_eq_true_eq];omega) l;exact this.imp λh=>by simpa using h
def zZ (l:List Int):List Int:=Lib.compact (jM l)
theorem Fa (l:List Int):(zZ l).Pairwise (· < ·):=(BC (BM l) _ (l_ _)).1
theorem GN {l:List Int}{x:Int}:x∈zZ l↔x∈l:=by
 have h:=(BC (BM l) _ (l_ _)).2.2 x;unfold zZ Lib.compact;rw[h];have hm:x∈jM l↔x∈l:=by unfold jM;exact List.mem_mergeSort
 rw[<-hm];constructor
 . rintro⟨j,hj,rfl⟩;rw[show (jM l).toArray[j]! = (jM l)[j] by simp[hj]];exact Z_ hj
 . intro hx;obtain⟨j,hj,rfl⟩:=X_ hx;exact⟨j,hj,by simp[hj]⟩
theorem DR (l:List Int):(zZ l).length<=l.length:=by unfold zZ;rw[<-oC l];exact rt _
end
section
def opn (e:DElem):DElem:={ e with gone:=0 }
def cls (q:DElem->Bool)(e:DElem):DElem:=bif q e then e else opn e
def xj (p q:DElem->Bool)(l:List DElem):List DElem:=(l.filter p).map (cls q)
theorem wV {p q:DElem->Bool}{l:List DElem}{x:DElem}:x∈xj p q l↔∃e∈l,p e=true/\x=cls q e:=by
 unfold xj;rw[L_];constructor
 . rintro⟨e,h,rfl⟩;rw[g_] at h;exact⟨e,h.1,h.2,rfl⟩
 . rintro⟨e,h1,h2,rfl⟩;exact⟨e,g_.2 ⟨h1,h2⟩,rfl⟩
theorem yM (q:DElem->Bool)(e:DElem):(cls q e).key=e.key:=by unfold cls opn;cases q e <;> rfl
theorem Dc (q:DElem->Bool)(e:DElem):(cls q e).made=e.made:=by unfold cls opn;cases q e <;> rfl
theorem yN {q:DElem->Bool}{e:DElem}(h:q e=true):cls q e=e:=by unfold cls;rw[h,cond_true]
theorem Cc {q:DElem->Bool}{e:DElem}(h:q e=false):cls q e=opn e:=by unfold cls;rw[h,cond_false]
structure Seen (l:List DElem) (t:Int) (p q:DElem->Bool):Prop where
 made:∀e∈l,p e=true->e.made<=t
 gone:∀e∈l,q e=true->e.gone≠0/\e.gone<=t
 shut:∀a∈l,∀b∈l,a.key=b.key->a.made<b.made->p b=true->p a=true/\q a=true
variable {l:List DElem} {t:Int} {p q:DElem->Bool}
theorem Fw {e:DElem}(h:wm e=0):wm (opn e)=0:=by
 have:=zk (k:=e.key) (v:=e.val) (t:=e.made);revert h;unfold wm opn;simp only;intro h
 (repeat' split at h) <;> (repeat' split) <;> first|omega|contradiction|simp_all
theorem Seen.run (s:Seen l t p q)(h:Run l):Run (xj p q l):=by
 refine⟨?_,λx hx=>?_,?_⟩
 . unfold xj;rw[f_];exact V_ (M_ _ _) h.len
 . obtain⟨e,h1,_,rfl⟩:=wV.1 hx;unfold cls
   cases q e with
   |true=>exact h.ok e h1
   |false=>exact Fw (h.ok e h1)
 . unfold xj;rw[Q_];have ho:=h.ord.filter p;refine List.Pairwise.imp_of_mem ?_ ho;intro a b ha hb hab;obtain⟨a1,a2⟩:=g_.1 ha;obtain⟨b1,b2⟩:=g_.1 hb;rw[yL] at hab ⊢;rw[yM,yM,Dc,Dc];refine hab.imp id λ⟨k1,k2,k3,k4⟩=>?_;obtain⟨_,hq⟩:=s.shut a a1 b b1 k1 k2 b2;rw[yN hq];exact⟨k1,k2,k3,k4⟩
theorem Seen.last (s:Seen l t p q)(h0:0<=t):xn (xj p q l)<=t:=by
 refine yZ.2 ⟨h0,λx hx=>?_⟩;obtain⟨e,h1,h2,rfl⟩:=wV.1 hx;refine zF.2 ⟨by rw[Dc];exact s.made e h1 h2,?_⟩;unfold cls
 cases hq:q e with
 |true=>exact(s.gone e h1 hq).2
 |false=>exact h0
theorem Run.older (h:Run l){a b:DElem}(ha:a∈l)(hb:b∈l)(hk:a.key=b.key):a=b\/a.made<b.made\/b.made<a.made:=by
 rcases zW h.ord ha hb with e|e|e
 . exact .inl e
 . rcases yL.1 e with h1|h1
   . rw[hk] at h1;have:=wv.refl b.key;omega
   . exact .inr (.inl h1.2.1)
 . rcases yL.1 e with h1|h1
   . rw[hk] at h1;have:=wv.refl b.key;omega
   . exact .inr (.inr h1.2.1)
theorem Seen.one (s:Seen l t p q)(h:Run l){a b:DElem}(ha:a∈l)(hb:b∈l)(hk:a.key=b.key)(pa:p a=true)(pb:p b=true)(qa:q a=false)(qb:q b=false):a=b:=by
 rcases h.older ha hb hk with e|e|e
 . exact e
 . have:=(s.shut a ha b hb hk e pb).2;rw[qa] at this;cases this
 . have:=(s.shut b hb a ha hk.symm e pa).2;rw[qb] at this;cases this
def Cb (p:DElem->Bool)(e:DElem):DElem->Bool:=λx=>p x||x==e
theorem wU {e x:DElem}:Cb p e x=true↔p x=true\/x=e:=by unfold Cb;rw[Bool.or_eq_true,beq_iff_eq]
theorem Seen.cut (s:Seen l t p q)(h:Run l){e:DElem}(he:e∈l)(pe:p e=true)(qe:q e=false)(hg:e.gone=t)(h1:1<=t) :
 Seen l t p (Cb q e)/\IV (xj p q l) e.key t=0/\cutR (xj p q l) e.key t=xj p (Cb q e) l:=by
 have hok:=h.ok e he
 have hm:e.made<t/\t<=2147483647/\BH e.key=0:=by
  have:wm e=0:=hok;unfold wm at this
  (repeat' split at this) <;> first|omega|(refine⟨?_,?_,?_⟩ <;> first|omega|simp_all)
 have s':Seen l t p (Cb q e):=⟨s.made,λx hx hq=>by
  rcases wU.1 hq with hq|rfl
  . exact s.gone x hx hq
  . exact⟨by omega,by omega⟩,λa ha b hb hk hab pb=>by
  have:=s.shut a ha b hb hk hab pb
  exact⟨this.1,wU.2 (.inl this.2)⟩⟩
 have r:=s.run h;have r':=s'.run h;have hl:=s.last o_;have hmem:opn e∈xj p q l:=wV.2 ⟨e,he,pe,(Cc qe).symm⟩;have hnow:xy (xj p q l) e.key=some (opn e):=(yS r.ord).2 ⟨hmem,rfl,rfl⟩;refine⟨s',Cd.2 ⟨r,hm.2.2,h1,hm.2.1,hl,by rw[hnow];rfl⟩,?_⟩;refine Ev (Run.cutR r hl h1 hm.2.1 e.key).ord r'.ord λx=>?_;unfold cutR;rw[zj r.ord,BW];refine Iff.trans ?_ wV.symm;constructor
 . rintro((⟨hx,hgx⟩|⟨y,hy,hgy,hmy,rfl⟩)|⟨hx,hkx⟩)
   . obtain⟨a,a1,a2,rfl⟩:=wV.1 (wJ.1 hx).1
     cases hq:q a with
     |true=>exact⟨a,a1,a2,by rw[yN hq,yN (wU.2 (.inl hq))]⟩
     |false=>rw[Cc hq] at hgx;exact absurd rfl hgx
   . obtain⟨hy1,hyk⟩:=wJ.1 hy;obtain⟨a,a1,a2,rfl⟩:=wV.1 hy1;rw[yM] at hyk
     cases hq:q a with
     |true=>rw[yN hq] at hgy;exact absurd hgy (s.gone a a1 hq).1
     |false=>obtain rfl:=s.one h a1 he hyk a2 pe hq qe;refine⟨a,a1,a2,?_⟩;rw[Cc hq,yN (wU.2 (.inr rfl)),<-hg];rfl
   . obtain⟨a,a1,a2,rfl⟩:=wV.1 hx;rw[yM] at hkx;have hne:a≠e:=λe'=>hkx (by rw[e']);refine⟨a,a1,a2,?_⟩;unfold cls Cb;rw[show (a==e)=false from beq_eq_false_iff_ne.2 hne,Bool.or_false]
 . rintro⟨a,a1,a2,rfl⟩;by_cases hae:a=e
   . subst hae;refine .inl (.inr ⟨opn a,wJ.2 ⟨hmem,rfl⟩,rfl,?_,?_⟩)
     . show a.made≠t;omega
     . rw[yN (wU.2 (.inr rfl)),<-hg];rfl
   . have hc:cls (Cb q e) a=cls q a:=(by unfold cls Cb;rw[show (a==e)=false from beq_eq_false_iff_ne.2 hae,Bool.or_false]);rw[hc];by_cases hk:a.key=e.key
     . refine .inl (.inl ⟨wJ.2 ⟨wV.2 ⟨a,a1,a2,rfl⟩,by rw[yM];exact hk⟩,?_⟩)
       cases hq:q a with
       |true=>rw[yN hq];exact(s.gone a a1 hq).1
       |false=>exact absurd (s.one h a1 he hk a2 pe hq qe) hae
     . exact .inr ⟨wV.2 ⟨a,a1,a2,rfl⟩,by rw[yM];exact hk⟩
theorem Seen.put (s:Seen l t p q)(h:Run l){e:DElem}(he:e∈l)(pe:p e=false)(qe:q e=false)(hm:e.made=t)(hs:∀a∈l,a.key=e.key->a.made<e.made->p a=true/\q a=true) :
 Seen l t (Cb p e) q/\DO (xj p q l) e.key e.val t=0/\putR (xj p q l) e.key e.val t=xj (Cb p e) q l:=by
 have hok:=Fw (h.ok e he);have hnew:yg e.key e.val t=opn e:=by rw[<-hm];rfl
 have h1:1<=t/\t<=2147483647:=by rw[<-hnew] at hok;exact⟨(zk hok).2.1,(zk hok).2.2.1⟩
 have s':Seen l t (Cb p e) q:=⟨λx hx hp=>by
  rcases wU.1 hp with hp|rfl
  . exact s.made x hx hp
  . omega,s.gone,λa ha b hb hk hab pb=>by
  rcases wU.1 pb with pb|rfl
  . have:=s.shut a ha b hb hk hab pb;exact⟨wU.2 (.inl this.1),this.2⟩
  . have:=hs a ha hk hab
    exact⟨wU.2 (.inl this.1),this.2⟩⟩
 have r:=s.run h;have r':=s'.run h;have hl:=s.last o_
 have hgone:∀x∈hist (xj p q l) e.key,x.gone≠0:=λx hx=>by
  obtain⟨hx1,hxk⟩:=wJ.1 hx;obtain⟨a,a1,a2,rfl⟩:=wV.1 hx1;rw[yM] at hxk
  have hlt:a.made<e.made:=by
   rcases h.older a1 he hxk with e'|e'|e'
   . subst e';rw[pe] at a2;cases a2
   . exact e'
   . have:=s.made a a1 a2;omega
  have hq:=(hs a a1 hxk hlt).2;rw[yN hq];exact(s.gone a a1 hq).1
 have hput:putR (xj p q l) e.key e.val t=upd (xj p q l) e.key (hist (xj p q l) e.key++[opn e]):=by unfold putR;rw[Db hgone,hnew]
 have hlen:(putR (xj p q l) e.key e.val t).length<=400:=by
  have h2:=BB (k:=e.key) (h:=hist (xj p q l) e.key++[opn e]) r.ord;rw[hput];rw[i_,D_] at h2;have h3:(xj p q l).length<l.length:=by unfold xj;rw[f_];exact p7.2 ⟨e,he,by rw[pe];decide⟩
  have:=h.len;omega
 have hE:DO (xj p q l) e.key e.val t=0:=AR.2 ⟨r,by rw[hnew];exact hok,hl,hlen⟩;refine⟨s',hE,?_⟩;refine Ev (r.putR hl (by rw[hnew];exact hok) hlen).ord r'.ord λx=>?_;rw[hput,zj r.ord,p_,t_];refine Iff.trans ?_ wV.symm;constructor
 . rintro((hx|rfl)|⟨hx,_⟩)
   . obtain⟨a,a1,a2,rfl⟩:=wV.1 (wJ.1 hx).1;exact⟨a,a1,wU.2 (.inl a2),rfl⟩
   . exact⟨e,he,wU.2 (.inr rfl),(Cc qe).symm⟩
   . obtain⟨a,a1,a2,rfl⟩:=wV.1 hx;exact⟨a,a1,wU.2 (.inl a2),rfl⟩
 . rintro⟨a,a1,a2,rfl⟩;rcases wU.1 a2 with a2|rfl
   . by_cases hk:a.key=e.key
     . exact .inl (.inl (wJ.2 ⟨wV.2 ⟨a,a1,a2,rfl⟩,by rw[yM];exact hk⟩))
     . exact .inr ⟨wV.2 ⟨a,a1,a2,rfl⟩,by rw[yM];exact hk⟩
   . exact .inl (.inr (Cc qe))
end
section
theorem HL {n h:Nat}(hn:n<=400)(h1:cN n h=1)(h2:∀j,j<h->1<cN n j):sNk n h<=100:=by
 have a0:cN n 0<=50:=by show kOf n<=50;unfold kOf;split <;> omega
 have a1:cN n 1<=7:=by show kOf (cN n 0)<=7;unfold kOf;split <;> omega
 have a2:cN n 2<=1:=by show kOf (cN n 1)<=1;unfold kOf;split <;> omega
 match h with
 |0=>show cN n 0<=100;omega
 |1=>show cN n 0+cN n 1<=100;omega
 |2=>show cN n 0+cN n 1+cN n 2<=100;omega
 |h+3=>have:=h2 2 o_;omega
section
variable {F:Nat} [Big F]
theorem C3 (P:List ByteArray)(W:List DWrite){t t1:DTree}{h:Nat}(g:Good t1 h)(hr:Run (wb t1.nodes h t1.root)) :
 ∃t',jP F P W t.root t.nodes t1.root t1.nodes 0=some (t'.root,t'.nodes,0)/\Fine t' (wb t1.nodes h t1.root):=by
 unfold jP;rw[show ((0:Int) !=0)=false from rfl,wi];by_cases hn:(100:Int)<(t1.nodes.length:Int)
 . obtain⟨h',b1,b2,b3,b4,b5⟩:=Cw hr.len hr.ok (Cf g);rw[decide_eq_true hn,wt,show nY F (DTree.mk t1.root t1.nodes)=some (xZ (wb t1.nodes h t1.root),0) from Ej g hr,wd];dsimp only;have hlen:=HL hr.len b4 b5;generalize wb t1.nodes h t1.root=m at b1 b2 b3 b4 b5 hr hlen;have hm:¬ (100:Int)<((xZ m).nodes.length:Int):=by rw[b3];omega
   rw[decide_eq_false hm,wi,wd];exact⟨xZ m,rfl,⟨⟨h',b1,b2⟩,hr,by omega⟩⟩
 . rw[decide_eq_false hn,wi,wd];exact⟨t1,rfl,⟨⟨h,g,rfl⟩,hr,by omega⟩⟩
theorem JD (P:List ByteArray)(W:List DWrite){t:DTree}{l:List DElem}(f:Fine t l)(k:DKey)(v:ByteArray)(u:Int)(hz:DO l k v u=0) :
 ∃t',kg F P W t.root t.nodes k v u=some (t'.root,t'.nodes,0)/\Fine t' (putR l k v u):=by
 obtain⟨h,g,rfl⟩:=f.good;unfold kg;obtain⟨t1,h1,a1,a2,a3⟩:=AJ (F:=F) g k v u hz;obtain⟨hr,hc,hl,hn⟩:=AR.1 hz;obtain⟨t',b1,b2⟩:=C3 (F:=F) P W (t:=t) a2 (by rw[a3];exact hr.putR hl hc hn);rw[show pi F (DTree.mk t.root t.nodes) k v u=some (t1,0) from a1,wd];dsimp only;rw[b1,wd];rw[a3] at b2;exact⟨t',rfl,b2⟩
theorem Jy (P:List ByteArray)(W:List DWrite){t:DTree}{l:List DElem}(f:Fine t l)(k:DKey)(u:Int)(hz:IV l k u=0) :
 ∃t',kT F P W t.root t.nodes k u=some (t'.root,t'.nodes,0)/\Fine t' (cutR l k u):=by
 obtain⟨h,g,rfl⟩:=f.good;unfold kT;obtain⟨t1,h1,a1,a2,a3⟩:=DH (F:=F) g k u hz;obtain⟨hr,_,u0,u1,hl,_⟩:=Cd.1 hz;obtain⟨t',b1,b2⟩:=C3 (F:=F) P W (t:=t) a2 (by rw[a3];exact hr.cutR hl u0 u1 k);rw[show ph F (DTree.mk t.root t.nodes) k u=some (t1,0) from a1,wd];dsimp only;rw[b1,wd];rw[a3] at b2;exact⟨t',rfl,b2⟩
theorem Eh {σ ρ:Type}{f:σ->Option (σ⊕ρ)}{Q:ρ->Prop}(n:Nat)(I:Nat->σ->Prop)(hn:n<=9223372036854775807){s:σ}(h0:I 0 s)(hs:∀k s,k<n->I k s->∃s',f s=some (.inl s')/\I (k+1) s')(he:∀s,I n s->∃r,f s=some (.inr r)/\Q r) :
 ∃r,iter f F s=some r/\Q r:=by
 have key:∀(m k N:Nat) (s:σ),k+m=n->m<N->I k s->∃r,iter f N s=some r/\Q r:=by
  intro m
  induction m with
  |zero=>intro k N s hk hN hI;obtain⟨N,rfl⟩:∃M,N=M+1:=⟨N-1,by omega⟩;obtain⟨r,h1,h2⟩:=he s (by rw[<-hk];exact hI);exact⟨r,by rw[iter,h1],h2⟩
  |succ m ih=>intro k N s hk hN hI;obtain⟨N,rfl⟩:∃M,N=M+1:=⟨N-1,by omega⟩;obtain⟨s',h1,h2⟩:=hs k s o_ hI;obtain⟨r,h3,h4⟩:=ih (k+1) N s' o_ o_ h2;exact⟨r,by rw[iter,h1];exact h3,h4⟩
 exact key n 0 F s o_ (sv hn) h0
end
theorem Run.apart {l:List DElem}(h:Run l){k:Nat}{e:DElem}(hk:l[k]? = some e):e∉l.take k:=λhm=>by obtain⟨i,hi,he⟩:=X_ hm;rw[K_] at hi;rw[List.getElem_take] at he;obtain⟨hkl,hke⟩:=ggs.1 hk;have:=o8.1 h.ord i k o_ hkl o_;rw[he,hke] at this;exact this.irrefl
theorem yr {l:List DElem}{k:Nat}{e x:DElem}(hk:l[k]? = some e):x∈l.take (k+1)↔x∈l.take k\/x=e:=by rw[P_,hk,Option.toList_some,p_,t_]
theorem De {e:DElem}(h:wm e=0):1<=e.made/\(e.gone=0\/e.made<e.gone):=by
 unfold wm at h
 (repeat' split at h) <;> omega
structure CutAt (l:List DElem) (t:Int) (k:Nat) (p q:DElem->Bool):Prop where
 p:∀x∈l,p x=true↔x.made<t
 q:∀x∈l,q x=true↔x.gone≠0/\(x.gone<t\/x.gone=t/\x∈l.take k)
structure PutAt (l:List DElem) (t:Int) (k:Nat) (p q:DElem->Bool):Prop where
 p:∀x∈l,p x=true↔x.made<t\/x.made=t/\x∈l.take k
 q:∀x∈l,q x=true↔x.gone≠0/\x.gone<=t
theorem Run.behind {l:List DElem}(h:Run l){a b:DElem}(ha:a∈l)(hb:b∈l)(hk:a.key=b.key)(hm:a.made<b.made):a.gone≠0/\a.gone<=b.made:=by
 rcases zW h.ord ha hb with e|e|e
 . subst e;omega
 . rcases yL.1 e with h1|h1
   . rw[hk] at h1;have:=wv.refl b.key;omega
   . exact⟨h1.2.2.1,h1.2.2.2⟩
 . rcases yL.1 e with h1|h1
   . rw[hk] at h1;have:=wv.refl b.key;omega
   . omega
theorem CutAt.seen {l:List DElem}{t:Int}{k:Nat}{p q:DElem->Bool}(c:CutAt l t k p q)(h:Run l):Seen l t p q :=
 ⟨λe he hp=>by have:=(c.p e he).1 hp;omega,λe he hq=>by have:=(c.q e he).1 hq;exact⟨this.1,by omega⟩,λa ha b hb hk hab pb=>by
  have h1:=(c.p b hb).1 pb;have h2:=h.behind ha hb hk hab
  exact⟨(c.p a ha).2 o_,(c.q a ha).2 ⟨h2.1,.inl o_⟩⟩⟩
theorem PutAt.seen {l:List DElem}{t:Int}{k:Nat}{p q:DElem->Bool}(c:PutAt l t k p q)(h:Run l):Seen l t p q :=
 ⟨λe he hp=>by have:=(c.p e he).1 hp;omega,λe he hq=>(c.q e he).1 hq,λa ha b hb hk hab pb=>by
  have h1:=(c.p b hb).1 pb;have h2:=h.behind ha hb hk hab
  exact⟨(c.p a ha).2 (.inl o_),(c.q a ha).2 ⟨h2.1,by omega⟩⟩⟩
section
variable {F:Nat} [Big F]
theorem IX (P:List ByteArray){l:List DElem}(h:Run l){t:Int}{k:Nat}{p q:DElem->Bool}{e:DElem}(he:l[k]? = some e)(c:CutAt l t k p q){tr:DTree}(f:Fine tr (xj p q l)) :
 ∃tr' q',(bif ((e.gone==t)&&(decide ((0:Int)<t))) then (kT F P [] tr.root tr.nodes e.key t).bind λr4=>some (r4.1,r4.2.1) else some (tr.root,tr.nodes):Option (Int×List DNode))=some (tr'.root,tr'.nodes)/\CutAt l t (k+1) p q'/\Fine tr' (xj p q' l):=by
 have hm:e∈l:=B_ he;have ht:=De (h.ok e hm);by_cases hc:e.gone=t/\0<t
 . obtain⟨hg,h0⟩:=hc
   have qe:q e=false:=by
    cases hq:q e with
    |false=>rfl
    |true=>have:=(c.q e hm).1 hq;exact absurd (this.2.resolve_left o_).2 (h.apart he)
   obtain⟨s1,s2,s3⟩:=(c.seen h).cut h hm ((c.p e hm).2 o_) qe hg o_;obtain⟨tr',b1,b2⟩:=Jy (F:=F) P [] f e.key t s2;rw[s3] at b2;refine⟨tr',Cb q e,?_,⟨c.p,λx hx=>?_⟩,b2⟩
   . rw[show ((e.gone==t)&&(decide ((0:Int)<t)))=true by rw[beq_iff_eq.2 hg,decide_eq_true h0];rfl,wt,b1,wd]
   . rw[wU,c.q x hx,yr he];constructor
     . rintro(⟨h1,h2⟩|rfl)
       . exact⟨h1,h2.imp id λh=>⟨h.1,.inl h.2⟩⟩
       . exact⟨by omega,.inr ⟨hg,.inr rfl⟩⟩
     . rintro⟨h1,h2|⟨h2,h3|rfl⟩⟩
       . exact .inl ⟨h1,.inl h2⟩
       . exact .inl ⟨h1,.inr ⟨h2,h3⟩⟩
       . exact .inr rfl
 . refine⟨tr,q,?_,⟨c.p,λx hx=>?_⟩,f⟩
   . rw[show ((e.gone==t)&&(decide ((0:Int)<t)))=false from ?_,wi];rw[Bool.and_eq_false_iff,beq_eq_false_iff_ne,decide_eq_false_iff_not];by_cases h1:e.gone=t
     . exact .inr λh2=>hc ⟨h1,h2⟩
     . exact .inl h1
   . rw[c.q x hx,yr he];constructor
     . rintro⟨h1,h2⟩;exact⟨h1,h2.imp id λh=>⟨h.1,.inl h.2⟩⟩
     . rintro⟨h1,h2|⟨h2,h3|rfl⟩⟩
       . exact⟨h1,.inl h2⟩
       . exact⟨h1,.inr ⟨h2,h3⟩⟩
       . exact absurd ⟨h2,by omega⟩ hc
theorem Jv (P:List ByteArray){l:List DElem}(h:Run l){t:Int}{k:Nat}{p q:DElem->Bool}{e:DElem}(he:l[k]? = some e)(c:PutAt l t k p q){tr:DTree}(f:Fine tr (xj p q l)) :
 ∃tr' p',(bif (e.made==t) then (kg F P [] tr.root tr.nodes e.key e.val t).bind λr5=>some (r5.1,r5.2.1) else some (tr.root,tr.nodes):Option (Int×List DNode))=some (tr'.root,tr'.nodes)/\PutAt l t (k+1) p' q/\Fine tr' (xj p' q l):=by
 have hm:e∈l:=B_ he;have ht:=De (h.ok e hm);by_cases hg:e.made=t
 . have pe:p e=false:=by
    cases hp:p e with
    |false=>rfl
    |true=>have:=(c.p e hm).1 hp;exact absurd (this.resolve_left o_).2 (h.apart he)
   have qe:q e=false:=by
    cases hq:q e with
    |false=>rfl
    |true=>have:=(c.q e hm).1 hq;omega
   obtain⟨s1,s2,s3⟩:=(c.seen h).put h hm pe qe hg (λa ha hk hab=>by
    have h2:=h.behind ha hm hk hab
    exact⟨(c.p a ha).2 (.inl o_),(c.q a ha).2 ⟨h2.1,by omega⟩⟩)
   obtain⟨tr',b1,b2⟩:=JD (F:=F) P [] f e.key e.val t s2;rw[s3] at b2;refine⟨tr',Cb p e,?_,⟨λx hx=>?_,c.q⟩,b2⟩
   . rw[beq_iff_eq.2 hg,wt,b1,wd]
   . rw[wU,c.p x hx,yr he];constructor
     . rintro(h2|rfl)
       . exact h2.imp id λh=>⟨h.1,.inl h.2⟩
       . exact .inr ⟨hg,.inr rfl⟩
     . rintro(h2|⟨h2,h3|rfl⟩)
       . exact .inl (.inl h2)
       . exact .inl (.inr ⟨h2,h3⟩)
       . exact .inr rfl
 . refine⟨tr,p,?_,⟨λx hx=>?_,c.q⟩,f⟩
   . rw[beq_eq_false_iff_ne.2 hg,wi]
   . rw[c.p x hx,yr he];constructor
     . exact λh2=>h2.imp id λh=>⟨h.1,.inl h.2⟩
     . rintro(h2|⟨h2,h3|rfl⟩)
       . exact .inl h2
       . exact .inr ⟨h2,h3⟩
       . exact absurd h2 hg
theorem CS {σ ρ β γ:Type}{f:σ->Option (σ⊕ρ)}{K:ρ->Option γ}(g:β->γ)(S:β->Prop)(Q:ρ->Prop)(n:Nat)(I:Nat->σ->Prop)(hn:n<=9223372036854775807){s:σ}(h0:I 0 s)(hs:∀k s,k<n->I k s->∃s',f s=some (.inl s')/\I (k+1) s')(he:∀s,I n s->∃r,f s=some (.inr r)/\Q r)
 (hk:∀r,Q r->∃y,K r=some (g y)/\S y):∃y,(iter f F s).bind K=some (g y)/\S y:=by
 obtain⟨r,h1,h2⟩:=Eh (F:=F) n I hn h0 hs he;rw[h1,wd];exact hk r h2
theorem CW {ts:List Int}(hs:ts.Pairwise (· < ·)){m:Nat}{t y:Int}(ht:ts[m]? = some t)(hy:y∈ts):(y∈ts.take m↔y<t)/\(y∈ts.take (m+1)↔y<=t):=by
 obtain⟨hm,hmt⟩:=ggs.1 ht;obtain⟨j,hj,rfl⟩:=X_ hy;have lt:∀i j (hi:i<ts.length) (hj:j<ts.length),i<j->ts[i]<ts[j]:=λi j hi hj h=>o8.1 hs i j hi hj h
 have mt:∀n,ts[j]∈ts.take n↔j<n:=λn=>by
  constructor
  . intro h;obtain⟨i,hi,he⟩:=X_ h;rw[K_] at hi;rw[List.getElem_take] at he;rcases Nat.lt_trichotomy i j with h1|h1|h1
    . have:=lt i j o_ hj h1;omega
    . omega
    . have:=lt j i hj o_ h1;omega
  . intro h;exact w7.2 ⟨j,by omega,rfl⟩
 rw[mt,mt,<-hmt];rcases Nat.lt_trichotomy j m with h1|h1|h1
 . have:=lt j m hj hm h1;exact⟨⟨λ_=>this,λ_=>h1⟩,⟨λ_=>by omega,λ_=>by omega⟩⟩
 . subst h1;exact⟨⟨λh=>absurd h (Nat.lt_irrefl _),λh=>absurd h (Int.lt_irrefl _)⟩,⟨λ_=>y_ _,λ_=>by omega⟩⟩
 . have:=lt m j hm hj h1;exact⟨⟨λh=>by omega,λh=>by omega⟩,⟨λh=>by omega,λh=>by omega⟩⟩
theorem Jn {l:List DElem}{p q:DElem->Bool}(hp:∀x∈l,p x=true)(hq:∀x∈l,q x=false->x.gone=0):xj p q l=l:=by
 unfold xj;rw[List.filter_eq_self.2 hp];refine(List.map_congr_left λx hx=>?_).trans (List.map_id l)
 cases h:q x with
 |true=>exact yN h
 |false=>rw[Cc h];have:=hq x hx h;unfold opn;rw[<-this];rfl
theorem CA {l:List DElem}(h:Run l):∃t:DTree,jY F l=some (zK,t.root,t.nodes)/\Fine t l:=by
 have hl:=h.len;unfold jY;rw[KN,wd];dsimp only;refine CS (F:=F) (λt:DTree=>(zK,t.root,t.nodes)) (λt=>Fine t l) (λz=>z.length<=800/\∀x,x∈z↔∃e∈l,x=e.made\/x=e.gone) l.length (λk s=>s.2=(k:Int)/\s.1.length=2*k/\∀x,x∈s.1↔∃e∈l.take k,x=e.made\/x=e.gone) o_ ⟨rfl,rfl,by simp⟩ ?_ ?_ ?_
 . rintro k ⟨a,i⟩ hk ⟨h1,ha,hm⟩;dsimp only at h1 ha hm;subst h1;obtain⟨e,he⟩:∃e,l[k]? = some e:=⟨_,gge hk⟩;dsimp only;rw[decide_eq_true (show (k:Int)<(l.length:Int) by omega),wt,vD,he,wd,vM (by simp only[z_,u_];omega) (by simp only[z_,u_];omega),wd,w64 o_ o_];refine⟨_,rfl,by simp,by simp[ha];omega,λx=>?_⟩;dsimp only;rw[p_,hm];constructor
   . rintro(⟨e',h1,h2⟩|h1)
     . exact⟨e',(yr he).2 (.inl h1),h2⟩
     . exact⟨e,(yr he).2 (.inr rfl),by simpa using h1⟩
   . rintro⟨e',h1,h2⟩;rcases(yr he).1 h1 with h1|rfl
     . exact .inl ⟨e',h1,h2⟩
     . exact .inr (by simpa using h2)
 . rintro⟨a,i⟩ ⟨h1,ha,hm⟩;dsimp only at h1 ha hm;subst h1;dsimp only;rw[decide_eq_false o_,wi];refine⟨a,rfl,by omega,λx=>?_⟩;rw[hm,x_]
 . intro z ⟨hz,hmz⟩;rw[show uo z=some (jM z) by unfold uo;rw[if_pos o_],wd];rw[show Lib.compact (jM z)=zZ z from rfl];have hts:=Fa z;have hmt:∀x,x∈zZ z↔∃e∈l,x=e.made\/x=e.gone:=λx=>(GN).trans (hmz x);have htl:(zZ z).length<=800:=V_ (DR z) hz;generalize zZ z=ts at hts hmt htl;have hmade:∀x∈l,x.made∈ts:=λx hx=>(hmt _).2 ⟨x,hx,.inl rfl⟩;have hgone:∀x∈l,x.gone∈ts:=λx hx=>(hmt _).2 ⟨x,hx,.inr rfl⟩;refine CS (F:=F) (λt:DTree=>(zK,t.root,t.nodes)) (λt=>Fine t l) (λr=>∃t:DTree,r=(t.root,t.nodes)/\Fine t l) ts.length (λm s=>∃(tr:DTree) (p q:DElem->Bool),s=(tr.root,tr.nodes,(m:Int))/\Fine tr (xj p q l)/\(∀x∈l,p x=true↔x.made∈ts.take m)/\∀x∈l,q x=true↔x.gone≠0/\x.gone∈ts.take m) o_ ⟨newT,λ_=>false,λ_=>false,rfl,?_,by simp,by simp⟩ ?_ ?_ ?_
   . have:xj (λ_=>false) (λ_=>false) l=[]:=(by unfold xj;simp);rw[this];exact Jj
   . rintro m s hm ⟨tr,p,q,rfl,f,hp,hq⟩;obtain⟨t,ht⟩:∃t,ts[m]? = some t:=⟨_,gge hm⟩
     have c:CutAt l t 0 p q:=⟨λx hx=>(hp x hx).trans (CW hts ht (hmade x hx)).1,λx hx=>by
      rw[hq x hx,(CW hts ht (hgone x hx)).1]
      simp⟩
     dsimp only;rw[decide_eq_true (show (m:Int)<(ts.length:Int) by omega),wt,vD,ht,wd,w64 o_ o_];refine CS (F:=F) Sum.inl _ (λr=>∃(tr:DTree) (q:DElem->Bool),r=(tr.root,tr.nodes)/\Fine tr (xj p q l)/\CutAt l t l.length p q) l.length (λk s=>∃(tr:DTree) (q:DElem->Bool),s=(tr.root,tr.nodes,(k:Int))/\Fine tr (xj p q l)/\CutAt l t k p q) o_ ⟨tr,q,rfl,f,c⟩ ?_ ?_ ?_
     . rintro k s hk ⟨tr,q,rfl,f,c⟩;obtain⟨e,he⟩:∃e,l[k]? = some e:=⟨_,gge hk⟩;obtain⟨tr',q',b1,b2,b3⟩:=IX (F:=F) zK h he c f;dsimp only;rw[decide_eq_true (show (k:Int)<(l.length:Int) by omega),wt,vD,he,wd,b1,wd,w64 o_ o_];exact⟨_,rfl,tr',q',by simp,b3,b2⟩
     . rintro s ⟨tr,q,rfl,f,c⟩;dsimp only;rw[decide_eq_false o_,wi];exact⟨_,rfl,tr,q,rfl,f,c⟩
     . rintro r ⟨tr,q,rfl,f,c⟩
       have c2:PutAt l t 0 p q:=⟨λx hx=>by rw[c.p x hx];simp,λx hx=>by
        rw[c.q x hx,x_];constructor
        . rintro⟨h1,h2⟩;exact⟨h1,by omega⟩
        . rintro⟨h1,h2⟩;rcases Int.lt_or_eq_of_le h2 with h2|h2
          . exact⟨h1,.inl h2⟩
          . exact⟨h1,.inr ⟨h2,hx⟩⟩⟩
       dsimp only;refine CS (F:=F) Sum.inl _ (λr=>∃(tr:DTree) (p:DElem->Bool),r=(tr.root,tr.nodes)/\Fine tr (xj p q l)/\PutAt l t l.length p q) l.length (λk s=>∃(tr:DTree) (p:DElem->Bool),s=(tr.root,tr.nodes,(k:Int))/\Fine tr (xj p q l)/\PutAt l t k p q) o_ ⟨tr,p,rfl,f,c2⟩ ?_ ?_ ?_
       . rintro k s hk ⟨tr,p,rfl,f,c⟩;obtain⟨e,he⟩:∃e,l[k]? = some e:=⟨_,gge hk⟩;obtain⟨tr',p',b1,b2,b3⟩:=Jv (F:=F) zK h he c f;dsimp only;rw[decide_eq_true (show (k:Int)<(l.length:Int) by omega),wt,vD,he,wd,b1,wd,w64 o_ o_];exact⟨_,rfl,tr',p',by simp,b3,b2⟩
       . rintro s ⟨tr,p,rfl,f,c⟩;dsimp only;rw[decide_eq_false o_,wi];exact⟨_,rfl,tr,p,rfl,f,c⟩
       . rintro r ⟨tr,p,rfl,f,c⟩;refine⟨_,rfl,tr,p,q,by simp,f,λx hx=>?_,λx hx=>?_⟩
         . rw[c.p x hx,(CW hts ht (hmade x hx)).2,x_];constructor
           . rintro(h1|h1) <;> omega
           . intro h1;rcases Int.lt_or_eq_of_le h1 with h1|h1
             . exact .inl h1
             . exact .inr ⟨h1,hx⟩
         . rw[c.q x hx,(CW hts ht (hgone x hx)).2]
   . rintro s ⟨tr,p,q,rfl,f,hp,hq⟩;dsimp only;rw[decide_eq_false o_,wi];refine⟨_,rfl,tr,rfl,?_⟩
     rw[Jn (λx hx=>(hp x hx).2 (by rw[x_];exact hmade x hx)) (λx hx hqx=>by
      by_cases h0:x.gone=0
      . exact h0
      . have:=(hq x hx).2 ⟨h0,by rw[x_];exact hgone x hx⟩
        rw[hqx] at this;cases this)] at f
     exact f
   . rintro r ⟨tr,rfl,f⟩;exact⟨tr,rfl,f⟩
end
end
section
variable {F:Nat} [Big F]
theorem Kh:Run [⟨⟨0,0,1⟩,1,0,I_ #[97]⟩]:=xB.1 c_
omit [Big F] in
theorem JQ {R:List ByteArray}(h:R.length=201):(((grow 16 ([]:List ByteArray) R).bind λ_=>(grow 24 ([]:List DWrite) ([]:List DWrite)).bind λ_=>some ():Option Unit).bind λ_=>some ():Option Unit)=some ():=by rw[yd (by rw[u_];omega) (by rw[u_];omega),wd,yd c_ c_,wd,wd]
theorem GT {R:List ByteArray}{q:Nat}{t:DTree}{l:List DElem}(K:Kept R q t)(f:Fine t l):mB F R []=some (R,[],t.root,t.nodes):=Ia (ER K.done) K f
theorem Kept.len {R:List ByteArray}{q:Nat}{t:DTree}(K:Kept R q t):R.length=201:=K.done.ok.len
end
section
open Go.ChangeShapes
theorem G3 {F:Nat}[Big F](l:List DDisk)(hl:l.length<=9223372036854775807):iter (σ:=Int) (ρ:=Unit) (λx1=>bif decide (x1<(l.length:Int)) then (idx l x1).bind λe1=>some (.inl (IntKind.i64.wrap (x1+1))) else some (.inr ())) F 0=some ():=by
 obtain⟨r,h,-⟩:=Eh (F:=F) (Q:=λ_:Unit=>True) (f:=λx1=>bif decide (x1<(l.length:Int)) then (idx l x1).bind λe1=>some (.inl (IntKind.i64.wrap (x1+1))) else some (.inr ())) l.length (λk s=>s=(k:Int)) hl (s:=0) rfl (by
  rintro k s hk rfl;refine⟨((k+1:Nat):Int),?_,rfl⟩;rw[decide_eq_true (show (k:Int)<(l.length:Int) by omega),wt,vD,gge hk,wd,w64 o_ o_]
  rfl) (by
  rintro s rfl
  exact⟨(),by rw[decide_eq_false o_,wi],trivial⟩)
 exact h
theorem zD (F:Nat)[Big F](l:List DElem)(k:DKey)(k0:GR 56 okElem l)(k1:okKey k):lZ F l k=some true:=by
 unfold lZ;rw[Kx,wd];obtain⟨t1,a1,f1⟩:=CA (F:=F) Kh;rw[a1,wd];dsimp only;rw[show lF F (DTree.mk t1.root t1.nodes)=_ from f1.all,wd,wd];dsimp only;rw[show ((([⟨⟨0,0,1⟩,1,0,I_ #[97]⟩]:List DElem).length:Int) !=1)=false from rfl,wi,zY,wd];by_cases hr:AV l=0
 . have hR:=xB.1 hr;have hlen:=hR.len;obtain⟨t,c1,f⟩:=CA (F:=F) hR;have fl:=Dh (F:=F) FT f o_;have kn:=FT.next f o_;have h201:=kn.len;have hL:=zz 0 zK (wW t) (zp zK t.nodes);have hch:(zp zK t.nodes).length<=100:=by unfold zp;rw[f_];exact V_ (M_ _ _) (by rw[m4];exact f.few)
   generalize zy 0 zK (wW t) (zp zK t.nodes)=S at fl hL;generalize P4 0 zK (wW t) (zp zK t.nodes)=R at fl kn h201;rw[vd hr,wi,c1,wd];dsimp only;rw[show lF F (DTree.mk t.root t.nodes)=_ from f.all,wd,wd,fl,wd];dsimp only;rw[show ((0:Int) !=0)=false from rfl,Bool.false_or,beq_eq_false_iff_ne.2 (show (S.length:Int)≠0 by omega),wi,JQ h201,wd,H_,H_,yd (by rw[u_];omega) (by rw[u_];omega),wd,G3 S o_,wd,wd];rw[Fk _ _ (by dsimp only;omega) s_ (by dsimp only;omega) s_,wd,decide_eq_true rfl,F_,wi,GT kn f,wd];dsimp only;rw[show lF F (DTree.mk t.root t.nodes)=_ from f.all,wd,wd];dsimp only;rw[Cz l o_,wd,F_,wi,wd];rw[Cz l o_,wd,wd,F_,wi,F5,wd];dsimp only;obtain⟨t',l',c,d1,f'⟩:=Iq (F:=F) R [] f k (I_ #[118]) (IntKind.i64.wrap ((if AV l=0 then xn l else 0)+1));rw[d1,wd];dsimp only;by_cases hc:c=0
   . rw[vd hc,wi,Dh (F:=F) kn f' o_,wd];rfl
   . rw[vn hc,wt]
 . rw[vn hr,wt]
end
section
open Go.RowKit
theorem Jt:ownKnob Tryz.prog.godebug=none:=by kernel_rfl
theorem Ik:laidOutB Tryz.prog=true:=by kernel_rfl
theorem K2:yv Tryz.prog 24 wa okKey:=Ib Tryz.underlying24 (by kernel_rfl) rfl (by kernel_rfl) (zL Tryz.underlying3) rfl (by kernel_rfl) (zL Tryz.underlying3) rfl (by kernel_rfl) (zL Tryz.underlying3)
theorem K9:yv Tryz.prog 28 eElem okElem:=GU Tryz.underlying28 (by kernel_rfl) rfl (by kernel_rfl) K2 rfl (by kernel_rfl) (zL Tryz.underlying3) rfl (by kernel_rfl) (zL Tryz.underlying3) rfl (by kernel_rfl) (Ic Tryz.underlying9)
theorem K8:yv Tryz.prog 22 (qF eElem) (GR 56 okElem):=GV Tryz.underlying22 (by kernel_rfl) (by kernel_rfl) K9
set_option maxRecDepth 100000
def orderSigns:List Char:=[.ofNat 104,.ofNat 97,.ofNat 114,.ofNat 110,.ofNat 101,.ofNat 115,.ofNat 115,.ofNat 32,.ofNat 56,.ofNat 55,.ofNat 52,.ofNat 53,.ofNat 49,.ofNat 51,.ofNat 54,.ofNat 50,.ofNat 97,.ofNat 100,.ofNat 55,.ofNat 101,.ofNat 102,.ofNat 56,.ofNat 99,.ofNat 51,.ofNat 57,.ofNat 50,.ofNat 101,.ofNat 100,.ofNat 53,.ofNat 57,.ofNat 100,.ofNat 54,.ofNat 50,.ofNat 56,.ofNat 55,.ofNat 102,.ofNat 97,.ofNat 48,.ofNat 49,.ofNat 55,.ofNat 100,.ofNat 102,.ofNat 53,.ofNat 50,.ofNat 56,.ofNat 56,.ofNat 54,.ofNat 101,.ofNat 50,.ofNat 56,.ofNat 52,.ofNat 100,.ofNat 51,.ofNat 48,.ofNat 101,.ofNat 53,.ofNat 49,.ofNat 53,.ofNat 50,.ofNat 99,.ofNat 98,.ofNat 54,.ofNat 97,.ofNat 57,.ofNat 100,.ofNat 51,.ofNat 50,.ofNat 100,.ofNat 48,.ofNat 99,.ofNat 97,.ofNat 53,.ofNat 32,.ofNat 99,.ofNat 117,.ofNat 116,.ofNat 32,.ofNat 97,.ofNat 116,.ofNat 32,.ofNat 97,.ofNat 110,.ofNat 110,.ofNat 97,.ofNat 108,.ofNat 105,.ofNat 115,.ofNat 116,.ofNat 47,.ofNat 97,.ofNat 110,.ofNat 110,.ofNat 97,.ofNat 108,.ofNat 107,.ofNat 101,.ofNat 101,.ofNat 112,.ofNat 46,.ofNat 83,.ofNat 116,.ofNat 111,.ofNat 114,.ofNat 101,.ofNat 79,.ofNat 119,.ofNat 110,.ofNat 32,.ofNat 97,.ofNat 110,.ofNat 110,.ofNat 97,.ofNat 108,.ofNat 105,.ofNat 115,.ofNat 116,.ofNat 47,.ofNat 97,.ofNat 110,.ofNat 110,.ofNat 97,.ofNat 108,.ofNat 107,.ofNat 101,.ofNat 101,.ofNat 112,.ofNat 46,.ofNat 83,.ofNat 116,.ofNat 111,.ofNat 114,.ofNat 101,.ofNat 83,.ofNat 116,.ofNat 101,.ofNat 112,.ofNat 115,.ofNat 32,.ofNat 97,.ofNat 110,.ofNat 110,.ofNat 97,.ofNat 108,.ofNat 105,.ofNat 115,.ofNat 116,.ofNat 47,.ofNat 97,.ofNat 110,.ofNat 110,.ofNat 97,.ofNat 108,.ofNat 107,.ofNat 101,.ofNat 101,.ofNat 112,.ofNat 46,.ofNat 83,.ofNat 116,.ofNat 111,.ofNat 114,.ofNat 101,.ofNat 72,.ofNat 111,.ofNat 108,.ofNat 100,.ofNat 115,.ofNat 32,.ofNat 97,.ofNat 110,.ofNat 110,.ofNat 97,.ofNat 108,.ofNat 105,.ofNat 115,.ofNat 116,.ofNat 47,.ofNat 97,.ofNat 110,.ofNat 110,.ofNat 97,.ofNat 108,.ofNat 107,.ofNat 101,.ofNat 101,.ofNat 112,.ofNat 46,.ofNat 83,.ofNat 116,.ofNat 111,.ofNat 114,.ofNat 101,.ofNat 76,.ofNat 97,.ofNat 122,.ofNat 121,.ofNat 32,.ofNat 97,.ofNat 110,.ofNat 110,.ofNat 97,.ofNat 108,.ofNat 105,.ofNat 115,.ofNat 116,.ofNat 47,.ofNat 97,.ofNat 110,.ofNat 110,.ofNat 97,.ofNat 108,.ofNat 107,.ofNat 101,.ofNat 101,.ofNat 112,.ofNat 46,.ofNat 83,.ofNat 116,.ofNat 111,.ofNat 114,.ofNat 101,.ofNat 65,.ofNat 103,.ofNat 97,.ofNat 105,.ofNat 110]
theorem GW:Tryz.prog.initOrder = "harness 87451362ad7ef8c392ed59d6287fa017df52886e284d30e5152cb6a9d32d0ca5 cut at annalist/annalkeep.StoreOwn annalist/annalkeep.StoreSteps annalist/annalkeep.StoreHolds annalist/annalkeep.StoreLazy annalist/annalkeep.StoreAgain":=by kernel_rfl
theorem FX:("harness 87451362ad7ef8c392ed59d6287fa017df52886e284d30e5152cb6a9d32d0ca5 cut at annalist/annalkeep.StoreOwn annalist/annalkeep.StoreSteps annalist/annalkeep.StoreHolds annalist/annalkeep.StoreLazy annalist/annalkeep.StoreAgain" : String)=String.ofList orderSigns:=by kernel_rfl
theorem Bs:Tryz.prog.initOrder.toList=orderSigns:=by rw[GW,FX];exact String.toList_ofList
theorem J5 (P:Program)(h:P.initOrder.toList=orderSigns):P.make=some .cut:=by unfold Program.make Program.headLifts;rw[h];kernel_rfl
theorem Jg (P:Program)(h:P.initOrder.toList=orderSigns):P.liftsFinal=false:=by unfold Program.liftsFinal Program.headLifts;rw[h];kernel_rfl
theorem IY (P:Program)(h:P.initOrder.toList=orderSigns)(h1:P.laysLater=false)(h2:P.bearsReflect=false)(h3:P.doorFits []=true):P.mayEnter=true:=by
 unfold Program.mayEnter
 rw[h,h1,h2]
 have e:(stripLifts liftWords (behindMainWord (wordsSigns orderSigns))).1=[]:=by kernel_rfl
 have e0:behindMainWord (wordsSigns orderSigns) = "cut".toList::(behindMainWord (wordsSigns orderSigns)).tail:=by kernel_rfl
 rw[e0] at e ⊢
 dsimp only
 rw[e,h3]
 clear h h1 h2 h3
 change _=true
 kernel_rfl
theorem Il:Tryz.prog.make=some .cut:=J5 _ Bs
theorem G1:Tryz.prog.liftsFinal=false:=Jg _ Bs
theorem GZ:Tryz.prog.mayEnter=true:=IY _ Bs (by kernel_rfl) (by kernel_rfl) (by kernel_rfl)
end
end
end Go.Proofs.YtnofgfobljadbaaGreat
