/- Plain Lean: what the editors' contracts compute is what the plain laws speak of. Its conditions: none. -/
import Derived.Test.YtnofgfobljadbaaGreatPRemW
open Option renaming bind→a_, bind_assoc→d_, some→F_, map_eq_some_iff→o7
open List renaming length_map→f_, mem_filter→g_, length_append→i_, mem_append→j_, mem_singleton→p_, mem_cons_self→q_, flatMap_cons→u_, take_length→x_, length_cons→z_, mem_of_getElem?→B_, length_singleton→D_, mem_cons_of_mem→E_, length_set→G_, length_take→H_, mem_map→I_, length_filter_le→J_, flatMap_append→K_, take_append_drop→L_, getElem_mem→M_, take_add_one→N_, pairwise_map→O_, length_flatMap→P_, map_cons→Q_, flatMap_singleton→S_, nil_append→T_, length_nil→V_, length_replicate→W_, getElem_of_mem→X_, set_set→Y_, pairwise_append→g6, pairwise_cons→g8, mem_iff_getElem?→g9, find?_cons→l7, length_drop→l9, length_zipIdx→m4, replicate→m9, pairwise_iff_getElem→o5, length_filter_lt_length_iff_exists→o8, filter_cons_of_pos→p6, filter_cons_of_neg→p7, take_of_length_le→p8, drop_eq_getElem_cons→t6, mem_of_mem_drop→t7, mem_take_iff_getElem→v6, mem_zipIdx_iff_getElem?→v7
open ByteArray renaming mk→l_
open Nat renaming le_refl→t_, zero_le→C_, le_trans→U_, lt_or_ge→n9
open Sum renaming inr→v_
open Int renaming le_refl→y_, toNat_natCast→R_
open Bool renaming not_true→Z_, true_and→m0, or_false→o6
namespace Go.Proofs.YtnofgfobljadbaaGreat
set_option linter.unusedSimpArgs false
set_option linter.unusedVariables false
section
section
variable {F:Nat}
theorem ER {α:Type}(x:Option α):(x.bind λz=>some z)=x:=by cases x <;> rfl
theorem Ec (root:Int)(N:NL)(i:Int)(e:DElem):j7 F root N i e=qc (Aw F e) F (N,i):=ER _
theorem Ip (root:Int)(N:NL)(i:Int)(e:DElem):kW F root N i e=qc (Bs F e) F (N,i):=by refine Eq.trans ?_ (ER (qc (Bs F e) F (N,i)));refine congrArg (λg=>(qc g F (N,i)).bind λz=>some z) (funext λrf=>funext λx=>?_);rfl
theorem KY (root:Int)(N:NL)(e:DElem):lw F root N e=GD F e N root:=by unfold lw GD;rw[Ip];rfl
theorem Bz (N:NL)(i:Int):(ja N i).length=N.length:=G_
theorem KE {N:NL}{a b:Int}{x y:DNode}(h:a.toNat≠b.toNat):jA (jA (ja (ja N a) b) a x) b y=jA (jA (ja N a) a x) b y:=by unfold jA;rw[show ja (ja N a) b=(ja N a).set b.toNat (.inl ((((ja N a)[b.toNat]?).map tD).getD 0)) from rfl,List.set_comm _ _ (Ne.symm h),Y_]
theorem HG {N M:NL}{i:Int}(h:N.length=M.length):ll N i=ll M i:=by unfold ll;rw[h]
theorem Lj {N:NL}{a b:Int}{n:DNode}(h:kI (ja N a) b=some n):a.toNat≠b.toNat:=λe=>by
 obtain⟨_,h2⟩:=nU h;rw[<-e] at h2;have hl:a.toNat<N.length:=by have:=(ggs.1 h2).1;rwa[Bz] at this
 unfold ja at h2;rw[List.getElem?_set_self hl] at h2;cases h2
theorem Kt (n m:DNode)(s:DSpot):mL n.kind n.elems n.kids n.seps n.tids m.kind m.elems m.kids m.seps m.tids s=F2 n m s:=rfl
theorem Kk (root:Int)(n:DNode)(r10 r11:Int)(N:NL):kX F root N n.kind n.elems n.kids n.seps (n.tids.set r10.toNat r11) r10=(Ds F n r10 r11 N).bind λz=>some (z.2.2.2,z.1,z.2.1,z.2.2.1):=by
 unfold kX Ds;rw[d_];refine congrArg (a_ _) (funext λz=>?_);rw[d_];refine congrArg (a_ _) (funext λa=>?_);rw[d_];refine congrArg (a_ _) (funext λb=>?_);rw[d_]
 cases h1:kI N a with
 |none=>rfl
 |some n1 =>
 rw[obs,obs,d_]
 cases h2:kI (ja N a) b with
 |none=>rfl
 |some n2 =>
 have hne:=Lj h2;rw[obs,obs,d_];refine congrArg (a_ _) (funext λx=>?_);rw[d_,Kt];refine congrArg (a_ _) (funext λX=>?_);rw[d_];have hh:∀q,ll (ja (ja N a) b) q=ll (ja N a) q:=λq=>HG (Bz _ _);have hp:∀q y,ll (jA (ja (ja N a) b) a y) q=ll (jA (ja N a) a y) q:=λq y=>HG (by rw[vZ,vZ,Bz]);simp only[hh,hp,KE hne];refine Eq.trans (b:=(JL F n r10 r11 N z a b n1 n2 X).bind λz'=>(kI z'.2.2.2 a).bind λn7=>(jw F n7).bind λr24=>(idx z'.2.2.1 z).bind λ_=>some (z'.2.2.2,z'.1,z'.2.1,z'.2.2.1.set z.toNat r24)) rfl ?_;refine congrArg (a_ _) (funext λq=>?_);obtain⟨q1,q2,q3,q4⟩:=q;dsimp only;rw[d_];refine congrArg (a_ _) (funext λn7=>?_);rw[d_];refine congrArg (a_ _) (funext λg=>?_);rw[d_];rfl
set_option maxHeartbeats 4000000 in
theorem IP (root:Int)(N:NL)(i:Int)(s:DSpot):kK F root N i s=qc (CY F s) F (N,i):=by
 refine Eq.trans ?_ (ER (qc (CY F s) F (N,i)));refine congrArg (λg=>(qc g F (N,i)).bind λz=>some z) (funext λrf=>funext λx=>?_);obtain⟨x1,x2⟩:=x;show a_ (kI x1 x2) _=a_ (kI x1 x2) _
 cases kI x1 x2 with
 |none=>rfl
 |some n =>
 rw[obs,obs];refine congr (congrArg (λa b=>bif n.kind==1 then a else b) ?_) ?_
 . exact congrArg (λq=>a_ q _) (show _=Kg F n.elems s from rfl)
 . refine congrArg (a_ _) (funext λw=>?_);refine congrArg (a_ _) (funext λk=>?_);refine congrArg (a_ _) (funext λN2=>?_);refine congrArg (a_ _) (funext λk2=>?_);refine congrArg (a_ _) (funext λn4=>?_);refine congrArg (a_ _) (funext λg=>?_);refine congrArg (a_ _) (funext λt=>?_);refine congrFun (congrArg a_ ?_) _;unfold KF
   cases decide ((IntKind.i64.wrap ((n4.elems.length:Int)+(n4.kids.length:Int)))<4) with
   |false=>rfl
   |true=>rw[cond_true,cond_true,Kk,d_];refine congrArg (a_ _) (funext λq=>?_);obtain⟨q1,q2,q3,q4⟩:=q;rfl
theorem KZ (root:Int)(N:NL)(s:DSpot):lZ F root N s=IC F s N root:=by unfold lZ IC;rw[IP]
end
section
variable {F:Nat} [Big F]
theorem Fb {n:DNode}(h:wr n=0):pH n=some n:=by
 obtain⟨h1,h2⟩:=yC h
 have h3:n.seps.length<=8/\n.tids.length<=8:=by
  rcases wx.1 h with h|h|h
  . rw[h.2.2.2.1,h.2.2.2.2];simp
  . rw[h.2.seps,h.2.tids];simp
  . have:=h.2.seps;have:=h.2.tids;omega
 unfold pH;rw[wo (by simp;omega) (by simp;omega),obs,wo (by simp;omega) (by simp;omega),obs,wo (by simp;omega) (by simp;omega),obs,wo (by simp;omega) (by simp;omega),obs];rfl
theorem C0 {N:NL}(h:∀(j:Nat) (k:Int),N[j]?≠some (.inl k)):qY N=some (fN N):=by
 have e:N=(fN N).map v_:=List.ext_getElem? λj=>by
  rw[List.getElem?_map,Ax]
  cases hj:N[j]? with
  |none=>rfl
  |some x =>
   cases x with
   |inl k=>exact absurd hj (h j k)
   |inr n=>rfl
 conv=>lhs;rw[e]
 exact vo _
theorem zc {t:DTree}(hl:t.nodes.length<=400)(hc:∀n∈t.nodes,wr n=0):mz F t=some t:=by
 unfold mz;rw[wC (λk=>((t.nodes.take k).map (v_:DNode->Int⊕DNode),(k:Int))) t.nodes.length s_ o_ (λk hk=>?_) (r:=t.nodes.map v_) ?_,obs,vo,obs]
 . dsimp only;rw[decide_eq_false o_,cond_false,x_]
 . have hg:t.nodes[k]? = some t.nodes[k]:=gge hk;have hr:tE 104 (((t.nodes.take k).map (v_:DNode->Int⊕DNode)).length+1)=some ():=by unfold tE;rw[f_,H_,if_pos ⟨by omega,by unfold maxLen;omega⟩]
   dsimp only;rw[decide_eq_true o_,cond_true,vX,hg,obs,Fb (hc _ (M_ _)),obs,hr,obs,w64 o_ o_,N_,hg,List.map_append];rfl
def nlT (t:DTree):NL:=t.nodes.map v_
theorem xf (t:DTree):fN (nlT t)=t.nodes:=K5 _
theorem Cy {t:DTree}{j:Nat}{x:Int⊕DNode}(h:(nlT t)[j]? = some x):∃n,t.nodes[j]? = some n/\x=.inr n:=by unfold nlT at h;rw[List.getElem?_map] at h;obtain⟨n,hn,rfl⟩:=o7.1 h;exact⟨n,hn,rfl⟩
theorem Dw {t:DTree}{h:Nat}(g:Good t h):xw (nlT t):=λn hn=>by rw[xf] at hn;exact g.chk n hn
theorem AA {t:DTree}{h:Nat}(g:Good t h):wn (fN (nlT t)) h t.root (mOf 0 h) topS:=by rw[xf];exact(Dc g.chk h t.root 0 topS (y_ _)).1 g.ok
theorem FV {α:Type}{p:α->Bool}:∀ {N:List α} {K:List Nat},K.Nodup->(∀(j:Nat) (x:α),N[j]? = some x->p x=true->j∈K)->N.countP p<=K.length
 |[],K,_,_=>C_ _
 |a::N,K,hn,h=>by
  have hK:∀(j:Nat) (x:α),N[j]? = some x->p x=true->j∈(K.filter (λj=>j !=0)).map (· - 1):=λj x hx hp =>
   I_.2 ⟨j+1,g_.2 ⟨h (j+1) x (by simpa using hx) hp,by simp⟩,by simp⟩
  have hnd:((K.filter (λj=>j !=0)).map (· - 1)).Nodup:=by unfold List.Nodup;rw[O_];refine((hn.filter _).imp_of_mem λ{a b} ha hb hab e=>hab ?_);have h1:=(g_.1 ha).2;have h2:=(g_.1 hb).2;simp only[bne_iff_ne,ne_eq] at h1 h2;omega
  have ih:=FV hnd hK;rw[f_] at ih;rw[List.countP_cons];by_cases hp:p a=true
  . have h0:0∈K:=h 0 a rfl hp;have hlt:(K.filter (λj=>j !=0)).length<K.length:=o8.2 ⟨0,h0,by simp⟩;rw[if_pos hp];omega
  . have:=J_ (λj=>j !=0) K;rw[if_neg hp];omega
theorem Ih {t:DTree}{h:Nat}(g:Good t h):used (nlT t)<=(ids t.nodes h t.root).length:=by refine FV g.nodup λj x hx hp=>?_;obtain⟨n,hn,rfl⟩:=Cy hx;have hlt:=(ggs.1 hn).1;exact g.all j hlt (by rw[B8 hn];exact yE.1 hp)
theorem Km {ns:List DNode}(hns:∀n∈ns,wr n=0):∀ {h:Nat} {i:Int} {s:Span},wn ns h i 4 s->3*(ids ns h i).length+1<=(vS ns h i).length:=by
 intro h
 induction h with
 |zero=>intro i s c;have:=c.2.2.1;simp only[ids,vS,D_];omega
 |succ h ih =>
  intro i s c;rw[ids,vS,z_,P_,P_]
  have key:∀l:List Int,(∀k∈l,3*(ids ns h k).length+1<=(vS ns h k).length)->3*(l.map λa=>(ids ns h a).length).sum+l.length<=(l.map λa=>(vS ns h a).length).sum:=by
   intro l
   induction l with
   |nil=>intro _;simp
   |cons a l ihl=>intro hk;have:=ihl λk h=>hk k (E_ _ h);have:=hk a q_;simp only[Q_,List.sum_cons,z_];omega
  have:=key (nd ns i).kids λk hk=>by obtain⟨t,s',x,_⟩:=c.2.2.2.mem k hk;exact ih x.1
  have:=c.2.2.1;omega
theorem Jw {t:DTree}{h:Nat}(g:Good t h)(hl:(vS t.nodes h t.root).length<=400):(ids t.nodes h t.root).length<=134/\h<134:=by
 have hh:=Bp g.chk h t.root 0 topS g.ok;have c:=AA g;rw[xf] at c
 have:(ids t.nodes h t.root).length<=134:=by
  cases h with
  |zero=>simp[ids]
  |succ h =>
   have key:∀l:List Int,(∀k∈l,3*(ids t.nodes h k).length+1<=(vS t.nodes h k).length)->3*(l.map λa=>(ids t.nodes h a).length).sum+l.length<=(l.map λa=>(vS t.nodes h a).length).sum:=by
    intro l
    induction l with
    |nil=>intro _;simp
    |cons a l ihl=>intro hk;have:=ihl λk h=>hk k (E_ _ h);have:=hk a q_;simp only[Q_,List.sum_cons,z_];omega
   have h1:=key (nd t.nodes t.root).kids λk hk=>by obtain⟨t',s',x,_⟩:=c.2.2.2.mem k hk;exact Km g.chk x.1
   have h2:2<=(nd t.nodes t.root).kids.length:=(by have:=c.2.2.1;unfold mOf at this;simpa using this);rw[vS,P_] at hl;rw[ids,z_,P_];omega
 omega
theorem C9 {N:NL}{h:Nat}{root:Int}(hc:xw N)(hl:N.length<=400)(c:wn (fN N) h root (mOf 0 h) topS)(hn:(ids (fN N) h root).Nodup)(hall:∀(j:Nat) (x:Int⊕DNode),N[j]? = some x->tD x≠0->j∈ids (fN N) h root):Good ⟨root,fN N⟩ h:=by
 refine⟨by show (fN N).length<=400;rw[wb];exact hl,hc,(Dc hc h root 0 topS (y_ _)).2 c,hn,λi hi hk=>?_⟩;have hi':i<(fN N).length:=hi;rw[wb] at hi';have hg:N[i]? = some N[i]:=gge hi';refine hall i _ hg λh0=>hk ?_;have:nd (fN N) (i:Int)=fN1 N[i]:=by unfold nd;rw[R_,Ax,hg];rfl
 rw[this]
 cases hx:N[i] with
 |inl k=>rfl
 |inr n=>rw[hx] at h0;exact h0
theorem Ld (d:Int)(h:Nat):mOf d h<=4:=by
 unfold mOf;split
 . exact t_ _
 . split <;> omega
theorem Gc {t:DTree}{h:Nat}(g:Good t h){N':NL}{K:List Nat}{c:Nat}(f:Fr2 (nlT t) N' (ids (fN (nlT t)) h t.root) K c)(hK:∀j∈K,∃n:DNode,N'[j]? = some (.inr n)/\n.kind≠0):∀(j:Nat) (k:Int),N'[j]?≠some (.inl k):=λj k hj=>by
 have hold:∀(j:Nat) (x:Int⊕DNode),(nlT t)[j]? = some x->tD x≠0->j∈ids (fN (nlT t)) h t.root:=λj x hx hk=>by obtain⟨n,hn,rfl⟩:=Cy hx;rw[xf];exact g.all j (ggs.1 hn).1 (by rw[B8 hn];exact hk)
 by_cases hk:k=0
 . subst hk;obtain⟨n,_,h⟩:=Cy (f.zero j hj);cases h
 . rcases f.all j _ hj hk with h|⟨h,y,hy,hyk⟩
   . obtain⟨n,hn,_⟩:=hK j h;rw[hn] at hj;cases hj
   . exact h (hold j y hy hyk)
theorem HA {t:DTree}{h:Nat}(g:Good t h){N':NL}{K:List Nat}{c:Nat}(f:Fr2 (nlT t) N' (ids (fN (nlT t)) h t.root) K c):∀(j:Nat) (x:Int⊕DNode),N'[j]? = some x->tD x≠0->j∈K:=λj x hx hk=>by
 rcases f.all j x hx hk with h|⟨h,y,hy,hyk⟩
 . exact h
 . obtain⟨n,hn,rfl⟩:=Cy hy;exact absurd (by rw[xf];exact g.all j (ggs.1 hn).1 (by rw[B8 hn];exact hyk)) h
theorem H1 {t:DTree}{h:Nat}{e:DElem}(g:Good t h)(he:wa e=0)(hne:∀x∈vS t.nodes h t.root,vV x≠vV e)(hl:(vS t.nodes h t.root).length<=400) :
 ∃(root:Int) (N:NL),GD F e (nlT t) t.root=some (root,N)/\qY N=some (fN N)/\∃h',Good ⟨root,fN N⟩ h'/\vS (fN N) h' root=GY (vS t.nodes h t.root) e:=by
 obtain⟨f1,f2⟩:=Jw g hl;have hu:=Ih g;have hF:=(inferInstance:Big F).le;have c:=AA g;have hsort:=(xF g.chk h t.root 0 topS g.ok).1;have hlen:(nlT t).length<=400:=by unfold nlT;rw[f_];exact g.len
 obtain⟨N',sp,r,b,hrun,hpost⟩:=Jz (F:=F) he h F (nlT t) t.root (mOf 0 h) topS o_ (Dw g) hlen o_ c (by rw[xf];exact g.nodup) rfl (by rw[xf];exact hne)
 have sorted:∀ {ns:List DNode} {h':Nat} {root:Int},Good ⟨root,ns⟩ h'->(∀x,x∈vS ns h' root↔x=e\/x∈vS t.nodes h t.root)->vS ns h' root=GY (vS t.nodes h t.root) e:=λ{ns h' root} gg hm=>by
  refine Fq (xF gg.chk h' root 0 topS gg.ok).1 (CP hsort e) λx=>?_;rw[hm x,Ga];constructor
  . rintro(h|h)
    . exact .inl h
    . exact .inr ⟨h,hne x h⟩
  . rintro(h|h)
    . exact .inl h
    . exact .inr h.1
 unfold GD;rw[hrun,obs];dsimp only;rcases hpost with ⟨rfl,P⟩|⟨rfl,hsp,P⟩
 . obtain⟨k,t',e1,e2,x⟩:=P.ch;obtain rfl:t.root=k:=by simpa using e1
   have hK:[t.root].flatMap (ids (fN N') h)=ids (fN N') h t.root:=S_ ..;have fr:=P.fr;rw[hK] at fr;have hcap:N'.length<=400:=(by have:=fr.cap;have:=fr.use;omega);have gg:=C9 fr.chk hcap x.1 fr.nodup (HA g fr);refine⟨t.root,N',rfl,C0 (Gc g fr x.1.used),h,gg,sorted gg λy=>?_⟩;have:=P.elems y;rw[S_,xf] at this;exact this
 . obtain⟨k,ks',t',ts',e1,e2,i1,x,k2,t2,e3,e4,y⟩:=P.ch;obtain⟨rfl,rfl⟩:t.root=k/\[r]=ks':=by simpa using e1
   obtain rfl:r=k2:=(by simpa using e3);have hK:[t.root,r].flatMap (ids (fN N') h)=ids (fN N') h t.root++ids (fN N') h r:=s_;have fr:=P.fr;rw[hK] at fr;have hcap:N'.length<=400:=by have:=fr.cap;have:=fr.use;omega
   have hKu:∀q∈ids (fN N') h t.root++ids (fN N') h r,∃n:DNode,N'[q]? = some (.inr n)/\n.kind≠0:=λq hq=>by
    rcases j_.1 hq with hq|hq
    . exact x.1.used q hq
    . exact y.1.used q hq
   obtain⟨N2,j,hT,tk⟩:=Gy (F:=F) (N:=N') ⟨2,[],[t.root,r],[sp],[wd (nd (fN N') t.root),wd (nd (fN N') r)]⟩ o_;have cc:Ch (BK (fN N') h) [sp] topS [t.root,r] [wd (nd (fN N') t.root),wd (nd (fN N') r)]:=⟨t.root,[r],_,_,rfl,rfl,i1,⟨x.1,rfl⟩,r,_,rfl,rfl,⟨y.1,rfl⟩⟩;have hck:=wM (n:=⟨2,[],[t.root,r],[sp],[wd (nd (fN N') t.root),wd (nd (fN N') r)]⟩) rfl (yl fr.chk hcap cc s_ s_ (List.pairwise_singleton _ _) (by simpa using hsp));have fr2:=fr.take tk (CE _ _ _ _) hck λq hq=>by obtain⟨n,hn,hk⟩:=hKu q hq;exact⟨_,hn,hk⟩
   have hlen2:N'.length<=N2.length:=(by rcases tk.len with h|⟨h,_⟩ <;> omega);have hjK:∀q∈ids (fN N') h t.root++ids (fN N') h r,N2[q]? = N'[q]?:=λq hq=>tk.same q λe=>by subst e;obtain⟨n,hn,hk⟩:=hKu q hq;exact absurd (tk.free _ hn) hk
   obtain⟨a1,a2,a3⟩:=xx hlen2 cc λq hq=>hjK q (by rw[hK] at hq;exact hq);have hnd:nd (fN N2) (j:Int)=⟨2,[],[t.root,r],[sp],[wd (nd (fN N') t.root),wd (nd (fN N') r)]⟩:=Aq (by rw[R_];exact tk.at_);have hjl:j<N2.length:=(ggs.1 tk.at_).1;have hids:ids (fN N2) (h+1) (j:Int)=j::(ids (fN N') h t.root++ids (fN N') h r):=(by rw[ids,hnd,R_];show j::[t.root,r].flatMap _=_;rw[a2,hK]);have sub:wn (fN N2) (h+1) (j:Int) (mOf 0 (h+1)) topS:=⟨by rw[wb];omega,by rw[hnd],by rw[hnd];unfold mOf;simp,by rw[hnd];exact a1⟩;rw[<-hids] at fr2;have hcap2:N2.length<=400:=(by have:=fr2.cap;have:=fr2.use;omega);have gg:=C9 fr2.chk hcap2 sub fr2.nodup (HA g fr2);refine⟨(j:Int),N2,?_,C0 (Gc g fr2 sub.used),h+1,gg,sorted gg λz=>?_⟩
   . rw[Z_,cond_false,x.1.node.1,obs,y.1.node.1,obs,w8 fr.chk x.1.range,obs,w8 fr.chk y.1.range,obs,Fs,hT,obs]
   . have:=P.elems z;rw[xf] at this;rw[<-this,vS,hnd];show z∈[t.root,r].flatMap _↔_;rw[a3]
theorem Dm {t:DTree}{h:Nat}{e:DElem}(g:Good t h)(he:wa e=0) :
 ∃N:NL,qc (Aw F e) F (nlT t,t.root)=some N/\qY N=some (fN N)/\Good ⟨t.root,fN N⟩ h/\vS (fN N) h t.root=(vS t.nodes h t.root).map (xW e):=by
 have hF:=(inferInstance:Big F).le;have hh:=yx g;obtain⟨N,hrun,P⟩:=Jg (F:=F) he h F (nlT t) t.root (mOf 0 h) topS o_ (Dw g) (AA g) (by rw[xf];exact g.nodup) rfl;have hn:(ids (fN N) h t.root).Nodup:=by rw[P.ids,xf];exact g.nodup
 have hin:∀(j:Nat) (x:Int⊕DNode),N[j]? = some x->(∃n,x=.inr n)/\(tD x≠0->j∈ids (fN N) h t.root):=λj x hx=>by
  by_cases hj:j∈ids (fN N) h t.root
  . obtain⟨n,hn,_⟩:=P.sub.used j hj;rw[hn] at hx;exact⟨⟨n,(F_.inj hx).symm⟩,λ_=>hj⟩
  . rw[P.out j (by rw[<-P.ids];exact hj)] at hx;obtain⟨n,hn,rfl⟩:=Cy hx
    exact⟨⟨n,rfl⟩,λhk=>by
     rw[P.ids,xf]
     exact g.all j (ggs.1 hn).1 (by rw[B8 hn];exact hk)⟩
 refine⟨N,hrun,C0 λj k hj=>?_,C9 P.chk ?_ P.sub hn λj x hx=>(hin j x hx).2,?_⟩
 . obtain⟨⟨n,hn⟩,_⟩:=hin j _ hj;cases hn
 . rw[P.len];unfold nlT;rw[f_];exact g.len
 . rw[P.elems,xf]
theorem Ib {α β:Type}(f:α->List β){l:List α}{k:Nat}(hk:k<l.length):(l.take (k+1)).flatMap f=(l.take k).flatMap f++f l[k]/\((l.take k).flatMap f).length+(f l[k]).length<=(l.flatMap f).length:=by
 have h1:(l.take (k+1)).flatMap f=(l.take k).flatMap f++f l[k]:=by rw[N_,gge hk,K_];simp
 refine⟨h1,?_⟩;have h2:l.flatMap f=(l.take (k+1)).flatMap f++(l.drop (k+1)).flatMap f:=by rw[<-K_,L_]
 rw[h2,h1,i_,i_];omega
theorem Cp {t:DTree}{h:Nat}(g:Good t h):(vS t.nodes h t.root).Pairwise SpO:=(xF g.chk h t.root 0 topS g.ok).1
theorem AU {t:DTree}{h:Nat}(g:Good t h):∀n∈t.nodes,Small n:=λn hn=>xr (g.chk n hn)
def zT:DTree:=⟨0,[]⟩
def newT:DTree:=⟨0,[⟨1,[],[],[],[]⟩]⟩
theorem AZ:Good newT 0:=by
 have hc:wr ⟨1,[],[],[],[]⟩=0:=wx.2 (.inr (.inl ⟨rfl,⟨rfl,rfl,rfl,C_ _,λe he=>(by cases he),List.Pairwise.nil⟩⟩));refine⟨by simp[newT],λn hn=>?_,⟨⟨by decide,by simp[newT]⟩,rfl,λh=>absurd h c_,λx hx=>(by cases hx)⟩,by simp[newT,ids],λi hi _=>?_⟩
 . obtain rfl:n=⟨1,[],[],[],[]⟩:=by simpa[newT] using hn
   exact hc
 . simp[newT,ids] at hi ⊢;exact hi
end
section
variable {F:Nat} [Big F]
theorem AQ {t:DTree}{h h':Nat}{root':Int}{N':NL}(g:Good t h)(len:N'.length=(nlT t).length)(out:∀j:Nat,j∉ids t.nodes h t.root->N'[j]? = (nlT t)[j]?)(chk:xw N')(sub:wn (fN N') h' root' (mOf 0 h') topS)
 (perm:∃Z,(ids t.nodes h t.root).Perm (Z++ids (fN N') h' root')/\∀j∈Z,N'[j]? = some (.inr zN)):qY N'=some (fN N')/\Good ⟨root',fN N'⟩ h':=by
 obtain⟨Z,hZ,hz⟩:=perm
 have key:∀(j:Nat) (x:Int⊕DNode),N'[j]? = some x->(∃n,x=.inr n)/\(tD x≠0->j∈ids (fN N') h' root'):=λj x hx=>by
  by_cases hj:j∈ids t.nodes h t.root
  . rcases j_.1 (hZ.mem_iff.1 hj) with hj|hj
    . rw[hz j hj] at hx;obtain rfl:=F_.inj hx;exact⟨⟨_,rfl⟩,λhk=>absurd rfl hk⟩
    . obtain⟨n,hn,_⟩:=sub.used j hj;rw[hn] at hx;exact⟨⟨n,(F_.inj hx).symm⟩,λ_=>hj⟩
  . rw[out j hj] at hx;obtain⟨n,hn,rfl⟩:=Cy hx;exact⟨⟨n,rfl⟩,λhk=>absurd (g.all j (ggs.1 hn).1 (by rw[B8 hn];exact hk)) hj⟩
 refine⟨C0 λj k hj=>?_,C9 chk ?_ sub ?_ λj x hx=>(key j x hx).2⟩
 . obtain⟨⟨n,hn⟩,_⟩:=key j _ hj;cases hn
 . rw[len];unfold nlT;rw[f_];exact g.len
 . exact(List.nodup_append.1 (hZ.nodup_iff.1 g.nodup)).2.1
theorem Gl {N:NL}{i:Int}{n:DNode}(h:N[i.toNat]? = some (.inr n)):jA (ja N i) i n=N:=by
 refine List.ext_getElem? λj=>?_;by_cases hj:j=i.toNat
 . subst hj;rw[wJ _ (by rw[vW];exact(ggs.1 h).1),h]
 . rw[wm _ hj,wy _ hj]
theorem ID {t:DTree}{h:Nat}{sp:DSpot}(g:Good t h) :
 ∃(root:Int) (N:NL),IC F sp (nlT t) t.root=some (N,root)/\qY N=some (fN N)/\∃h',Good ⟨root,fN N⟩ h'/\vS (fN N) h' root=(vS t.nodes h t.root).filter (yR sp):=by
 have hF:=(inferInstance:Big F).le;have hfu:=yx g;have hc:=Dw g;have c:=AA g;have hlen:(nlT t).length<=400:=by unfold nlT;rw[f_];exact g.len
 have hnd:(ids (fN (nlT t)) h t.root).Nodup:=by rw[xf];exact g.nodup
 have hr:=c.range;rw[wb] at hr;unfold IC
 cases h with
 |zero=>obtain⟨N',hrun,P⟩:=Gn (F:=F) sp 0 F (nlT t) t.root 0 topS o_ hc hlen (.inl rfl) c hnd rfl;have c':wn (fN N') 0 t.root 0 topS:=P.sub;have L:=c'.leaf P.chk;obtain⟨q1,q2⟩:=c'.node;obtain⟨r1,r2⟩:=AQ g P.len (λj hj=>P.out j (by rw[xf];exact hj)) P.chk c' (by obtain⟨Z,hZ,hz⟩:=P.perm;rw[xf] at hZ;exact⟨Z,hZ,hz⟩);refine⟨t.root,N',?_,r1,0,r2,by rw[P.elems,xf]⟩;rw[hrun,obs,q1,obs,L.kids,show (((([]:List Int).length:Int))==1)=false from rfl,cond_false,obs,Gl q2]
 |succ h =>
  obtain⟨f,hf⟩:∃f,F=f+1:=⟨F-1,by omega⟩;obtain⟨N3,K,X,T,hrun,M⟩:=HQ (F:=F) (Gn sp h) (mf:=f) o_ hc hlen c hnd rfl;rw[<-hf] at hrun;have hids:ids t.nodes (h+1) t.root=t.root.toNat::(nd t.nodes t.root).kids.flatMap (ids t.nodes h):=rfl;have hels:vS t.nodes (h+1) t.root=(nd t.nodes t.root).kids.flatMap (vS t.nodes h):=rfl;have hMe:=M.elems;obtain⟨Z,hZ,hz⟩:=M.perm;rw[xf] at hMe hZ;have hn1:=g.nodup;rw[hids] at hn1;obtain⟨n1,n2⟩:=List.nodup_cons.1 hn1;have hl3:=M.len;have h2:2<=(nd t.nodes t.root).kids.length:=by have:=c.2.2.1;rw[xf] at this;unfold mOf at this;simpa using this
  have hmore:=M.more;rw[xf] at hmore;have hget:(jA N3 t.root ⟨2,[],K,X,T⟩)[t.root.toNat]? = some (.inr ⟨2,[],K,X,T⟩):=wJ _ (by rw[hl3];omega);have hnode:kI (jA N3 t.root ⟨2,[],K,X,T⟩) t.root=some ⟨2,[],K,X,T⟩:=by unfold kI;rw[if_neg o_,hget];rfl
  rw[hrun,obs,hnode,obs];dsimp only;by_cases h1:K.length=1
  . obtain⟨k,rfl⟩:=List.length_eq_one_iff.1 h1;obtain⟨X0,hX0⟩:∃X0,X0=X:=⟨_,rfl⟩;have hXl:=M.ch.lens.1;obtain rfl:X=[]:=List.eq_nil_of_length_eq_zero (by simpa using hXl);obtain⟨k',t',e1,e2,q⟩:=M.ch;obtain rfl:k=k':=by simpa using e1
    have hkn:∀j∈ids (fN N3) h k,j≠t.root.toNat:=λj hj e=>n1 (hZ.mem_iff.2 (List.mem_append_right _ (by rw[S_,<-e];exact hj)));have hN:jA (ja (jA N3 t.root ⟨2,[],[k],[],T⟩) t.root) t.root zN=jA N3 t.root zN:=(by unfold jA ja;rw[Y_,Y_]);obtain⟨a1,a2,a3,a4⟩:=wn.agree (N':=jA N3 t.root zN) (by rw[vZ];exact t_ _) q.1 λj hj=>wm N3 (hkn j hj);rw[S_] at hMe hZ
    obtain⟨r1,r2⟩:=AQ (root':=k) g (by rw[vZ];exact hl3) (λj hj=>by
     have:=M.out j (by rw[xf];exact hj);rw[hids,List.mem_cons,not_or] at hj
     rw[wm N3 hj.1,this]) (M.chk.put Hx) (a1.weak (Ld 0 h)) ⟨t.root.toNat::Z,by rw[hids,a2];exact List.Perm.cons _ hZ,λj hj=>by
     rcases List.mem_cons.1 hj with rfl|hj
     . exact wJ _ (by rw[hl3];omega)
     . rw[wm N3 (show j≠t.root.toNat from λe=>n1 (hZ.mem_iff.2 (List.mem_append_left _ (by rw[<-e];exact hj))))]
       exact hz j hj⟩
    refine⟨k,jA N3 t.root zN,?_,r1,h,r2,by rw[a3,hMe,hels]⟩;rw[show ((([k]:List Int).length:Int)==1)=true from rfl,cond_true,zF (by rw[vW,vZ,hl3];exact hr),obs,show idx [k] 0=some k from rfl,obs,obs];dsimp only;exact congrArg (λq=>some (q,k)) hN
  . have P:=HR hlen c hc hnd M o_;have h2K:2<=K.length:=o_;have hck:=wM (n:=⟨2,[],K,X,T⟩) rfl (yl M.chk (by rw[hl3];exact hlen) M.ch h2K (by have:=M.few;rw[xf] at this;have:=(c.inner hc).eight;rw[xf] at this;omega) M.ord M.ok);have hnd2:=Aq hget
    have c':wn (fN (jA N3 t.root ⟨2,[],K,X,T⟩)) (h+1) t.root (mOf 0 (h+1)) topS :=
     ⟨P.sub.1,P.sub.2.1,by rw[hnd2];unfold mOf;simpa using h2K,P.sub.2.2.2⟩
    obtain⟨r1,r2⟩:=AQ g P.len (λj hj=>P.out j (by rw[xf];exact hj)) P.chk c' (by obtain⟨Z,hZ,hz⟩:=P.perm;rw[xf] at hZ;exact⟨Z,hZ,hz⟩);refine⟨t.root,_,?_,r1,h+1,r2,by rw[P.elems,xf]⟩;rw[show ((K.length:Int)==1)=false by rw[beq_eq_false_iff_ne];omega,cond_false,obs,Gl hget]
theorem Lm {l:List DElem}{r:Nat}{x:DElem}(ho:l.Pairwise SpO)(hx:l[r]? = some x):l.filter (yR (vV x))=l.take r++l.drop (r+1):=by
 obtain⟨hr,he⟩:=ggs.1 hx;have e:=Ac l hr;rw[he] at e;have hnx:yR (vV x) x=false:=by unfold yR;simp
 have ho':=ho;rw[e] at ho';obtain⟨o1,o2,o3⟩:=g6.1 ho'
 conv=>lhs;rw[e]
 rw[List.filter_append,List.filter_cons,if_neg (by rw[hnx];decide),B9,B9]
 . intro y hy hs;have h1:cmpS (vV x) (vV y)<0:=(g8.1 o2).1 y hy;rw[hs,we.refl] at h1;omega
 . intro y hy hs;have h1:cmpS (vV y) (vV x)<0:=o3 y hy x q_;rw[hs,we.refl] at h1;omega
end
end
section
section walks
variable {τ α β:Type} {F:Nat}
def wY (t:τ->α->τ×Nat):List α->τ->τ×Nat
 |[],a=>(a,0)
 |e::l,a=>if (t a e).2=0 then wY t l (t a e).1 else t a e
theorem yP (t:τ->α->τ×Nat):∀(l m:List α) (a:τ),wY t (l++m) a=if (wY t l a).2=0 then wY t m (wY t l a).1 else wY t l a
 |[],m,a=>by simp[wY]
 |e::l,m,a=>by
  rw[List.cons_append,wY,wY];by_cases h:(t a e).2=0
  . rw[if_pos h,if_pos h,yP t l m]
  . rw[if_neg h,if_neg h,if_neg h]
theorem AP (t:τ->α->τ×Nat)(p:α->Bool):∀(l:List α) (a:τ),wY (λst e=>if p e then t st e else (st,0)) l a=wY t (l.filter p) a
 |[],a=>rfl
 |e::l,a=>by
  rw[wY];by_cases h:p e=true
  . rw[if_pos h,p6 h,wY];by_cases h0:(t a e).2=0
    . rw[if_pos h0,if_pos h0,AP t p l]
    . rw[if_neg h0,if_neg h0]
  . rw[if_neg h,if_pos rfl,p7 h,AP t p l]
theorem Af (t:τ->α->τ×Nat)(g:β->List α):∀(l:List β) (a:τ),wY (λst k=>wY t (g k) st) l a=wY t (l.flatMap g) a
 |[],a=>rfl
 |b::l,a=>by rw[wY,u_,yP,Af t g l]
theorem DR (t:τ->α->τ×Nat)(len:τ->Nat)(ht:∀a e,len (t a e).1<=len a+1):∀(l:List α) (a:τ),len (wY t l a).1<=len a+l.length
 |[],a=>t_ _
 |e::l,a=>by
  rw[wY,z_];have h1:=ht a e;by_cases h:(t a e).2=0
  . rw[if_pos h];have:=DR t len ht l (t a e).1;omega
  . rw[if_neg h];omega
theorem Et {S R:Type}[Big F]{f:S->Option (S⊕R)}(t:τ->α->τ×Nat)(l:List α)(enc:τ->Int->S)(o0:τ->R)(o1:τ->Nat->R)(a:τ)(hn:l.length<=9223372036854775807){s:S}(h0:s=enc a 0)
 (hs:∀(k:Nat) (e:α) (st:τ),l[k]? = some e->wY t (l.take k) a=(st,0)->f (enc st (k:Int))=some (j5 (t st e).2 (.inl (enc (t st e).1 ((k:Int)+1))) (λn=>.inr (o1 (t st e).1 n))))
 (he:∀st,wY t l a=(st,0)->f (enc st (l.length:Int))=some (.inr (o0 st))) :
 iter f F s=some (j5 (wY t l a).2 (o0 (wY t l a).1) (λn=>o1 (wY t l a).1 n)):=by
 subst h0
 have key:∀(m k N:Nat) (st:τ),k+m=l.length->m<N->wY t (l.take k) a=(st,0)->iter f N (enc st (k:Int))=some (j5 (wY t l a).2 (o0 (wY t l a).1) (λn=>o1 (wY t l a).1 n)):=by
  intro m
  induction m with
  |zero=>intro k N st hk hN hr;obtain⟨N,rfl⟩:∃M,N=M+1:=⟨N-1,by omega⟩;rw[p8 o_] at hr;rw[iter,show k=l.length by omega,he st hr,hr];rfl
  |succ m ih =>
   intro k N st hk hN hr;obtain⟨N,rfl⟩:∃M,N=M+1:=⟨N-1,by omega⟩;have hkl:k<l.length:=o_;have hg:=gge hkl;have hsplit:wY t l a=wY t (l[k]::l.drop (k+1)) st:=(by have h1:=yP t (l.take k) (l.drop k) a;rw[L_,hr,if_pos rfl,t6 hkl] at h1;exact h1);rw[iter,hs k l[k] st hg hr];rw[wY] at hsplit
   cases hz:(t st l[k]).2 with
   |zero=>rw[iK];refine ih (k+1) N _ o_ o_ ?_;rw[N_,hg,yP,hr,if_pos rfl];show wY t [l[k]] st=_;rw[wY,if_pos hz];rfl
   |succ n=>rw[if_neg o_] at hsplit;rw[iO,hsplit,hz,iO]
 exact key l.length 0 F a o_ (zH hn) rfl
end walks
def geB (s:DSpot)(e:DElem):Bool:=decide (0<=cmpS (vV e) s)
def xM (ns:List DNode)(s:DSpot):Nat->Int->List DElem
 |0,_=>[]
 |m+1,i=>(nd ns i).elems.filter (geB s)++(if (nd ns i).kind=1 then [] else ((nd ns i).kids.drop (yQ (nd ns i).seps s)).flatMap (xM ns s m))
theorem Id (ns:List DNode)(s:DSpot):∀(m:Nat) (i:Int),(xM ns s m i).Sublist (wu ns m i):=by
 intro m
 induction m with
 |zero=>intro i;exact List.Sublist.refl _
 |succ m ih =>
  intro i;rw[xM,wu];refine List.Sublist.append List.filter_sublist ?_;split
  . exact List.nil_sublist _
  . have h1:∀l:List Int,(l.flatMap (xM ns s m)).Sublist (l.flatMap (wu ns m)):=by
     intro l
     induction l with
     |nil=>exact List.Sublist.refl _
     |cons a l ihl=>rw[u_,u_];exact(ih a).append ihl
    refine(h1 _).trans ?_
    have h2:∀(l:List Int) (k:Nat),((l.drop k).flatMap (wu ns m)).Sublist (l.flatMap (wu ns m)):=by
     intro l k
     conv=>rhs;rw[<-L_ k l,K_]
     exact List.sublist_append_right _ _
    exact h2 _ _
theorem Ao {α β:Type}(p:β->Bool)(f:α->List β):∀l:List α,(l.flatMap f).filter p=l.flatMap λa=>(f a).filter p
 |[]=>rfl
 |a::l=>by rw[u_,u_,List.filter_append,Ao p f l]
theorem Ju {ns:List DNode}(hns:∀n∈ns,wr n=0)(s:DSpot):∀(h m:Nat) (i d:Int) (sp:Span),okN ns h i d sp->h<m->xM ns s m i=(vS ns h i).filter (geB s):=by
 intro h
 induction h with
 |zero=>intro m i d sp hok hm;obtain⟨m,rfl⟩:∃q,m=q+1:=⟨m-1,by omega⟩;rw[xM,vS,if_pos hok.2.1,List.append_nil]
 |succ h ih =>
  intro m i d sp hok hm;obtain⟨m,rfl⟩:∃q,m=q+1:=⟨m-1,by omega⟩;have hI:=(ym hns hok.1 hok.2.1).2;rw[xM,vS,if_neg hok.2.1.2,hI.elems,List.filter_nil,T_,Ao];have hk:∀k∈(nd ns i).kids,xM ns s m k=(vS ns h k).filter (geB s):=λk hk=>by obtain⟨q,hq⟩:=g9.1 hk;exact ih m k _ _ (hok.2.2.2 (k,q) (Al hq)).1 o_
  have hcong:∀l:List Int,(∀k∈l,k∈(nd ns i).kids)->l.flatMap (xM ns s m)=l.flatMap λk=>(vS ns h k).filter (geB s):=by
   intro l
   induction l with
   |nil=>intro _;rfl
   |cons a l ihl=>intro hl;rw[u_,u_,hk a (hl a q_),ihl λk hk=>hl k (E_ _ hk)]
  rw[hcong _ λk hk=>t7 hk];have hnil:((nd ns i).kids.take (yQ (nd ns i).seps s)).flatMap (λk=>(vS ns h k).filter (geB s))=[]:=by rw[List.flatMap_eq_nil_iff];intro k hk;rw[v6] at hk;obtain⟨q,hq,rfl⟩:=hk;rw[List.filter_eq_nil_iff];intro e he;have hqk:(nd ns i).kids[q]? = some (nd ns i).kids[q]:=gge o_;have h1:=(hok.2.2.2 (_,q) (Al hqk)).1;have h2:=((xF hns h _ _ _ h1).2 e he).1;have hw:=Dh (nd ns i).seps s;have hx:(nd ns i).seps[q]? = some (nd ns i).seps[q]:=gge o_;have h3:=DE hx h2;have h4:=(FA (nd ns i).seps s).1 q _ o_ hx;have h5:=xR h3 h4;unfold geB;rw[decide_eq_true_eq];omega
  conv=>rhs;rw[<-L_ (yQ (nd ns i).seps s) (nd ns i).kids,K_,hnil,T_]
def KB {τ:Type}(ns:List DNode)(s:DSpot)(len:τ->Nat)(m:Nat)(x:τ×Int):Prop:=Ex ns m x.2/\len x.1+(xM ns s m x.2).length<=100000
theorem II {τ:Type}{t:DTree}{h:Nat}(hg:Good t h)(s:DSpot)(len:τ->Nat)(a:τ)(ha:len a=0){F:Nat}[Big F]:KB t.nodes s len F (a,t.root):=by have hF:=(inferInstance:Big F).le;have h4:=yx hg;refine⟨⟨h,0,topS,by omega,hg.ok⟩,?_⟩;dsimp only;have h1:=(Id t.nodes s F t.root).length_le;rw[Co hg.chk h F t.root 0 topS hg.ok o_] at h1;have:=Bm hg;omega
theorem Ig {t:DTree}{h:Nat}(hg:Good t h)(s:DSpot){F:Nat}[Big F]:xM t.nodes s F t.root=(vS t.nodes h t.root).filter (geB s):=by have hF:=(inferInstance:Big F).le;have h4:=yx hg;exact Ju hg.chk s h F t.root 0 topS hg.ok o_
theorem JR {τ:Type}{ns:List DNode}(hns:∀n∈ns,wr n=0){s:DSpot}{len:τ->Nat}{m:Nat}{a b:τ}{i:Int}(h:KB ns s len (m+1) (a,i))(h1:(nd ns i).kind≠1){t:τ->DElem->τ×Nat}(ht:∀a e,len (t a e).1<=len a+1)
 (hb:wY t ((nd ns i).elems.filter (geB s)) a=(b,0)) {k:Nat} {e:Int} (hk:((nd ns i).kids.drop (yQ (nd ns i).seps s))[k]? = some e) {st:τ}
 (hr:wY (λst k=>wY t (xM ns s m k) st) (((nd ns i).kids.drop (yQ (nd ns i).seps s)).take k) b=(st,0)):KB ns s len m (st,e):=by
 have hkids:=(h.1.kids hns).2;refine⟨hkids e (t7 (B_ hk)),?_⟩;rw[Af] at hr;have q1:=DR t len ht ((nd ns i).elems.filter (geB s)) a;rw[hb] at q1;have q2:=DR t len ht ((((nd ns i).kids.drop (yQ (nd ns i).seps s)).take k).flatMap (xM ns s m)) b;rw[hr] at q2;have h2:=h.2;dsimp only at q1 q2 h2 ⊢;rw[xM,if_neg h1,i_] at h2;obtain⟨hkl,rfl⟩:=ggs.1 hk;have h3:(((nd ns i).kids.drop (yQ (nd ns i).seps s)).flatMap (xM ns s m)).length=((((nd ns i).kids.drop (yQ (nd ns i).seps s)).take k).flatMap (xM ns s m)).length+(((((nd ns i).kids.drop (yQ (nd ns i).seps s)).drop k)).flatMap (xM ns s m)).length:=by rw[<-i_,<-K_,L_]
 rw[t6 hkl,u_,i_] at h3;omega
theorem Ln {ns:List DNode}{i:Int}(hI:Inner (nd ns i))(s:DSpot):yQ (nd ns i).seps s<=(nd ns i).kids.length:=by have:=Dh (nd ns i).seps s;have:=hI.seps;omega
end
section
section
theorem Eh {t:DTree}{h:Nat}(hg:Good t h){F:Nat}[Big F]:wu t.nodes F t.root=vS t.nodes h t.root:=by have hF:=(inferInstance:Big F).le;have h4:=yx hg;exact Co hg.chk h F t.root 0 topS hg.ok o_
end
section

end
section
variable {F:Nat} [Big F]
theorem CX {t:DTree}(hs:∀n∈t.nodes,Small n){h:Nat}(hg:Good t h):lz F t=some (Bk (vS t.nodes h t.root)):=by unfold lz;rw[zM hs hg,obs];dsimp only;rw[show ((0:Int) !=0)=false from rfl,cond_false,Ag];rfl
theorem Lc {l:List DElem}(hp:l.Pairwise SpO){i j:Nat}{a b:DElem}(hij:i<=j)(ha:l[i]? = some a)(hb:l[j]? = some b):cmpK a.key b.key<=0:=by
 by_cases e:i=j
 . subst e;rw[ha] at hb;obtain rfl:=F_.inj hb;rw[wj.refl];exact y_ _
 . have:=xm hp (show i<j by omega) ha hb;unfold SpO at this;rcases BP.1 this with h|⟨h,_⟩
   . exact Int.le_of_lt h
   . unfold vV at h;dsimp only at h;rw[h,wj.refl];exact y_ _
theorem I8 {l:List DElem}(ho:∀e∈l,wa e=0)(k:DKey)(u:Int):(l.filter (geB ⟨k,0⟩)).find? (λe=>e.key==k&&Au e u)=atR l k u:=by
 unfold atR;rw[List.find?_filter]
 have:∀m:List DElem,(∀e∈m,e∈l)->m.find? (λa=>decide (geB ⟨k,0⟩ a=true/\(a.key==k&&Au a u)=true))=m.find? λe=>e.key==k&&Au e u:=by
  intro m
  induction m with
  |nil=>intro _;rfl
  |cons e m ih =>
   intro hm;rw[l7,l7,ih λx hx=>hm x (E_ _ hx)];by_cases hk:e.key=k
   . obtain⟨_,h1,_⟩:=xO (ho e (hm e q_));have hge:geB ⟨k,0⟩ e=true:=(by refine decide_eq_true ?_;have h2:=we.neg (vV e) ⟨k,0⟩;have:cmpS ⟨k,0⟩ (vV e)<0:=BP.2 (.inr ⟨hk.symm,by show (0:Int)<e.made;omega⟩);omega);have hd:decide (geB ⟨k,0⟩ e=true/\(e.key==k&&Au e u)=true)=(e.key==k&&Au e u):=(by cases hq:(e.key==k&&Au e u) <;> simp[hge]);rw[hd]
   . have:(e.key==k)=false:=(by simpa using hk);rw[this];simp
 first
 |exact this l λe he=>he
 |(simp only[Bool.decide_and,Bool.decide_eq_true] at this;exact this l λe he=>he)
theorem Ie {l:List DElem}{k:DKey}:∀e∈l.filter (geB ⟨k,0⟩),0<=cmpK e.key k:=λe he=>by
 have h1:=(g_.1 he).2;unfold geB at h1;have h1:=of_decide_eq_true h1;by_cases h:cmpK e.key k<0
 . have:cmpS (vV e) ⟨k,0⟩<0:=BP.2 (.inl h);omega
 . omega
end
section
variable {F:Nat} [Big F]
abbrev FlatN:=Bool×Int×Int×Int×Int×Int×ByteArray
def flatN (e:DElem):FlatN:=(true,e.key.pfs,e.key.obj,e.key.off,e.made,e.gone,e.val)
def zp (k:DKey)(st:FlatN)(e:DElem):FlatN×Nat:=if e.key≠k then (st,1) else if e.gone=0 then (flatN e,2) else (st,0)
theorem Gx {k:DKey}{st:FlatN}{e:DElem}(h:e.key≠k):zp k st e=(st,1):=if_pos h
theorem Ht {k:DKey}{st:FlatN}{e:DElem}(h:e.key=k)(hl:e.gone=0):zp k st e=(flatN e,2):=by unfold zp;rw[if_neg (λh'=>h' h),if_pos hl]
theorem Hs {k:DKey}{st:FlatN}{e:DElem}(h:e.key=k)(hl:¬ e.gone=0):zp k st e=(st,0):=by unfold zp;rw[if_neg (λh'=>h' h),if_neg hl]
theorem KH (k:DKey)(u:Int):∀(l:List DElem),l.Pairwise SpO->(∀e∈l,0<=cmpK e.key k)->(∀e∈l,wQ e<=u)->∀a:FlatN,(∃e,l.find? (λe=>e.key==k&&Au e u)=some e/\wY (zp k) l a=(flatN e,2))\/(l.find? (λe=>e.key==k&&Au e u)=none/\∃c,c<=1/\wY (zp k) l a=(a,c)):=by
 intro l
 induction l with
 |nil=>intro _ _ _ a;exact .inr ⟨rfl,0,by omega,rfl⟩
 |cons e l ih =>
  intro hp hk hu a;have hlv:=EA (hu e q_);rw[wY];by_cases he:e.key=k
  . have hb:(e.key==k)=true:=by simpa using he
    rw[l7,hb,hlv];by_cases hl:e.gone=0
    . left;rw[Ht he hl,if_neg s_,show (e.gone==0)=true by simpa using hl];exact⟨e,rfl,rfl⟩
    . rw[Hs he hl,if_pos rfl,show (e.gone==0)=false by simpa using hl];exact ih (g8.1 hp).2 (λx hx=>hk x (E_ _ hx)) (λx hx=>hu x (E_ _ hx)) a
  . right;rw[Gx he,if_neg s_];refine⟨?_,1,t_ _,rfl⟩;rw[List.find?_eq_none];intro x hx hq;have hxk:x.key=k:=by have:=(Bool.and_eq_true_iff.1 hq).1;simpa using this
    have h1:=hk e q_;obtain⟨j,hj⟩:=g9.1 hx;have h2:=Lc hp (i:=0) (j:=j) (C_ _) rfl hj;rw[hxk] at h2;exact he ((wj.zero _ _).1 o_)
def Fd (o:Option DElem):DElem×Bool:=match o with
 |some e=>(e,true)
 |none=>(Lx,false)
theorem zq {t:DTree}{h:Nat}(hg:Good t h)(hr:Run (vS t.nodes h t.root))(k:DKey):oB F t k=some (Fd (xz (vS t.nodes h t.root) k)):=by
 have hs:=AU hg;have hlen:∀(a:FlatN) (e:DElem),(λ_:FlatN=>0) (zp k a e).1<=(λ_:FlatN=>0) a+1:=λ_ _=>C_ _;unfold oB
 rw[Ay (σ:=Bool×Int×Int×Int×Int×Int×ByteArray×Int) (λm x=>match x with|(x0,x1,x2,x3,x4,x5,x6,x7)=>KB t.nodes ⟨k,0⟩ (λ_:FlatN=>0) m ((x0,x1,x2,x3,x4,x5,x6),x7))
  (λm x=>match x with|(x0,x1,x2,x3,x4,x5,x6,x7)=>let r:=wY (zp k) (xM t.nodes ⟨k,0⟩ m x7) (x0,x1,x2,x3,x4,x5,x6);(r.2,r.1)) ?h0 ?hstep F _ (II hg ⟨k,0⟩ (λ_=>0) _ rfl)]
 case h0 =>
  rintro⟨x0,x1,x2,x3,x4,x5,x6,x7⟩ ⟨⟨h,d,s,hm,_⟩,_⟩;omega
 case hstep =>
  rintro m self ih ⟨x0,x1,x2,x3,x4,x5,x6,x7⟩ hpre;dsimp only at hpre;obtain⟨⟨h0,h1⟩,hkids⟩:=hpre.1.kids hg.chk;dsimp only at h0 h1 hkids ⊢;have hmem:=xU h0 h1;obtain⟨h8,h8'⟩:=yC (hg.chk _ hmem);rw[Bw h0 h1,obs];rw[Et (λst e=>if geB ⟨k,0⟩ e then zp k st e else (st,0)) (nd t.nodes x7).elems (λ(st:FlatN) j=>(st.1,st.2.1,st.2.2.1,st.2.2.2.1,st.2.2.2.2.1,st.2.2.2.2.2.1,st.2.2.2.2.2.2,j)) Sum.inl (λst n=>v_ (n+1,st)) (x0,x1,x2,x3,x4,x5,x6) o_ rfl ?hs ?he]
  case hs =>
   rintro j e ⟨y0,y1,y2,y3,y4,y5,y6⟩ hj hr;have hkl:=(ggs.1 hj).1;dsimp only;rw[decide_eq_true o_,cond_true,vX,hj,obs,wh,obs,wA,obs,w64 o_ o_];unfold geB;by_cases hge:0<=cmpS (vV e) ⟨k,0⟩
   . rw[decide_eq_true hge,cond_true,if_pos rfl];unfold zp;by_cases hn:e.key=k
     . rw[if_neg (show ¬ e.key≠k by simpa using hn),show (!(e.key==k))=false by simpa using hn,cond_false];by_cases hz:e.gone=0
       . rw[if_pos hz,show (e.gone==0)=true by simpa using hz];rfl
       . rw[if_neg hz,show (e.gone==0)=false by simpa using hz];rfl
     . rw[if_pos hn,show (!(e.key==k))=true by simpa using hn];rfl
   . rw[decide_eq_false hge,cond_false,if_neg s_];rfl
  case he =>
   rintro⟨y0,y1,y2,y3,y4,y5,y6⟩ hr;dsimp only;rw[decide_eq_false o_];rfl
  rw[obs,AP,xM]
  cases hb:wY (zp k) ((nd t.nodes x7).elems.filter (geB ⟨k,0⟩)) (x0,x1,x2,x3,x4,x5,x6) with
  |mk b c =>
   rw[yP,hb]
   cases c with
   |succ c=>rfl
   |zero =>
    obtain⟨b0,b1,b2,b3,b4,b5,b6⟩:=b;dsimp only[j5];rw[if_pos rfl];by_cases hkd:(nd t.nodes x7).kind=1
    . rw[if_pos hkd,show ((nd t.nodes x7).kind==1)=true by simpa using hkd];rfl
    . rw[if_neg hkd,show ((nd t.nodes x7).kind==1)=false by simpa using hkd,cond_false]
      have hw:yQ (nd t.nodes x7).seps ⟨k,0⟩<=(nd t.nodes x7).kids.length:=by
       rcases wx.1 (hg.chk _ hmem) with q|q|q
       . rw[q.2.2.2.1];exact C_ _
       . exact absurd q.1 hkd
       . exact Ln q.2 ⟨k,0⟩
      rw[yN _ ⟨k,0⟩ (hs _ hmem),obs,wL hw,obs];rw[Et (λst j=>wY (zp k) (xM t.nodes ⟨k,0⟩ m j) st) ((nd t.nodes x7).kids.drop (yQ (nd t.nodes x7).seps ⟨k,0⟩)) (λ(st:FlatN) j=>(st.1,st.2.1,st.2.2.1,st.2.2.2.1,st.2.2.2.2.1,st.2.2.2.2.2.1,st.2.2.2.2.2.2,j)) Sum.inl (λst n=>v_ (n+1,st)) (b0,b1,b2,b3,b4,b5,b6) (by rw[l9];omega) rfl ?hs2 ?he2]
      case hs2 =>
       rintro j e ⟨y0,y1,y2,y3,y4,y5,y6⟩ hk2 hr;have hkl:=(ggs.1 hk2).1;rw[l9] at hkl;dsimp only;rw[decide_eq_true (by rw[l9];omega),cond_true,vX,hk2,obs,ih (y0,y1,y2,y3,y4,y5,y6,e) (JR hg.chk hpre hkd hlen hb hk2 hr),obs,w64 o_ o_];dsimp only
       cases hc:wY (zp k) (xM t.nodes ⟨k,0⟩ m e) (y0,y1,y2,y3,y4,y5,y6) with
       |mk y c=>cases c <;> rfl
      case he2 =>
       rintro⟨y0,y1,y2,y3,y4,y5,y6⟩ hr;dsimp only;rw[decide_eq_false o_];rfl
      rw[obs,Af]
      cases hc:wY (zp k) (((nd t.nodes x7).kids.drop (yQ (nd t.nodes x7).seps ⟨k,0⟩)).flatMap (xM t.nodes ⟨k,0⟩ m)) (b0,b1,b2,b3,b4,b5,b6) with
      |mk y c=>cases c <;> rfl
 rw[obs];dsimp only;rw[Ig hg ⟨k,0⟩];obtain⟨hsort,hall⟩:=xF hg.chk h t.root 0 topS hg.ok;have hlast:=hr.last_le;have hat:=I8 (λe he=>(hall e he).2) k 2147483647 (l:=vS t.nodes h t.root);rw[Ky hr hlast] at hat;rcases KH k 2147483647 _ (hsort.filter _) Ie (λe he=>by have:=zR (g_.1 he).1;omega) (false,0,0,0,0,0,l_ #[]) with ⟨e,h1,h2⟩|⟨h1,c,hc,h2⟩
 . rw[h2,<-hat,h1];rfl
 . rw[h2,<-hat,h1];have:c=0\/c=1:=o_;rcases this with rfl|rfl <;> rfl
theorem Ii {ns:List DNode}(hns:∀n∈ns,wr n=0):∀ {h:Nat} {i:Int} {m:Nat} {s:Span},wn ns h i m s->wd (nd ns i)=xl (vS ns h i):=by
 intro h
 induction h with
 |zero =>
  intro i m s c;have L:=c.leaf hns;obtain⟨g1,g2,g3⟩:=Bn (nd ns i);have g0:=(AB (hns _ (xU c.range.1 c.range.2))).1;have hnn:=BX (nd ns i).elems;rw[vS];refine Int.le_antisymm ?_ (zk.2 ⟨g0,g1⟩);rcases g3 with g3|⟨e,he,g3⟩|⟨t,ht,_⟩
  . omega
  . rw[<-g3];exact zR he
  . rw[L.tids] at ht;cases ht
 |succ h ih =>
  intro i m s c;have L:=c.inner hns;obtain⟨g1,g2,g3⟩:=Bn (nd ns i);have g0:=(AB (hns _ (xU c.range.1 c.range.2))).1;have hch:=c.2.2.2;rw[vS];have hnn:=BX ((nd ns i).kids.flatMap (vS ns h));refine Int.le_antisymm ?_ (zk.2 ⟨g0,λe he=>?_⟩)
  . rcases g3 with g3|⟨e,he,_⟩|⟨t,ht,g3⟩
    . omega
    . rw[L.elems] at he;cases he
    . obtain⟨k,s',hk,x⟩:=hch.tmem t ht;rw[<-g3,<-x.2,ih x.1];exact zk.2 ⟨hnn,λe he=>zR (List.mem_flatMap.2 ⟨k,hk,he⟩)⟩
  . obtain⟨k,hk,he⟩:=List.mem_flatMap.1 he;obtain⟨q,hq⟩:=g9.1 hk;obtain⟨t,s',ht,x,_⟩:=hch.at_ q k hq;have h1:=g2 t (B_ ht);have h2:=zR he;rw[<-ih x.1,x.2] at h2;omega
theorem yU {t:DTree}{h:Nat}(hg:Good t h)(u:Int):nC F t u=some (decide (u<1\/2147483647<u\/u<xl (vS t.nodes h t.root))):=by
 have c:=AA hg;rw[xf] at c;have hgr:=Ii hg.chk c;obtain⟨h0,h1⟩:=c.range;unfold nC;by_cases h2:u<1
 . rw[decide_eq_true h2,cond_true,obs,decide_eq_true (.inl h2)]
 . rw[decide_eq_false h2,cond_false];by_cases h3:2147483647<u
   . rw[decide_eq_true h3,cond_true,obs,decide_eq_true (.inr (.inl h3))]
   . rw[decide_eq_false h3,cond_false,Bw h0 h1,obs,xh _ (xr (hg.chk _ (xU h0 h1))),obs,obs,hgr];congr 1;rw[Bool.eq_iff_iff,decide_eq_true_eq,decide_eq_true_eq];omega
theorem yT {t:DTree}{h:Nat}(hg:Good t h):pc F t=some (decide (400<=(vS t.nodes h t.root).length)):=by
 have hlen:∀(a:Nat) (e:DElem),(λa:Nat=>a) ((λ(a:Nat) (_:DElem)=>(a+1,0)) a e).1<=(λa:Nat=>a) a+1:=λ_ _=>t_ _;unfold pc;rw[Ay (σ:=Int×Int) (λm x=>Ex t.nodes m x.2/\0<=x.1/\x.1+((wu t.nodes m x.2).length:Int)<=100000) (λm x=>x.1+((wu t.nodes m x.2).length:Int)) ?h0 ?hstep F _ ?hpre]
 case h0 =>
  rintro⟨x1,x2⟩ ⟨⟨h,d,s,hm,_⟩,_⟩;omega
 case hpre =>
  have hF:=(inferInstance:Big F).le;have h4:=yx hg;refine⟨⟨h,0,topS,by omega,hg.ok⟩,y_ _,?_⟩;dsimp only;rw[Eh hg];have:=Bm hg;omega
 case hstep =>
  rintro m self ih ⟨x1,x2⟩ ⟨hok,hc0,hc1⟩;obtain⟨⟨h0,h1⟩,hkids⟩:=hok.kids hg.chk;dsimp only at h0 h1 hkids hc0 hc1 ⊢;obtain⟨h8,h8'⟩:=yC (hg.chk _ (xU h0 h1));rw[wu,i_] at hc1;rw[Bw h0 h1,obs];rw[wC (λk=>(x1+(k:Int),(k:Int))) (nd t.nodes x2).elems.length (r:=x1+((nd t.nodes x2).elems.length:Int)) s_ o_ ?s1 ?e1]
  case s1 =>
   intro k hk;dsimp only;rw[decide_eq_true o_,cond_true,vX,gge hk,obs,w64 o_ o_,w64 o_ o_];congr 3;omega
  case e1 =>
   dsimp only;rw[decide_eq_false o_,cond_false]
  rw[obs];have hlen:((nd t.nodes x2).kids.flatMap (wu t.nodes m)).length<=100000:=o_;rw[wC (λk=>(x1+((nd t.nodes x2).elems.length:Int)+((((nd t.nodes x2).kids.take k).flatMap (wu t.nodes m)).length:Int),(k:Int))) (nd t.nodes x2).kids.length (r:=x1+((nd t.nodes x2).elems.length:Int)+(((nd t.nodes x2).kids.flatMap (wu t.nodes m)).length:Int)) s_ o_ ?s2 ?e2]
  case s2 =>
   intro k hk;have hgk:(nd t.nodes x2).kids[k]? = some (nd t.nodes x2).kids[k]:=gge hk;obtain⟨q1,q2⟩:=Ib (wu t.nodes m) hk;dsimp only;rw[decide_eq_true o_,cond_true,vX,hgk,obs,ih _ ⟨hkids _ (M_ _),by dsimp only;omega,by dsimp only;omega⟩,obs,w64 o_ o_];dsimp only;rw[q1,i_];congr 3;omega
  case e2 =>
   dsimp only;rw[decide_eq_false o_,cond_false,x_]
  rw[obs,wu,i_];congr 1;omega
 rw[obs,obs];dsimp only;rw[Eh hg];congr 1;rw[Bool.eq_iff_iff,decide_eq_true_eq,decide_eq_true_eq];omega
theorem HU {A B:List DElem}{e y:DElem}(hs:vV y=vV e)(ho:(A++e::B).Pairwise SpO):(A++e::B).map (xW y)=A++y::B:=by
 obtain⟨o1,o2,o3⟩:=g6.1 ho;rw[List.map_append,Q_,BF,BF]
 . unfold xW;rw[if_pos hs.symm]
 . intro x hx h;have h1:cmpS (vV e) (vV x)<0:=(g8.1 o2).1 x hx;rw[h,hs,we.refl] at h1;omega
 . intro x hx h;have h1:cmpS (vV x) (vV e)<0:=o3 x hx e q_;rw[h,hs,we.refl] at h1;omega
theorem KG {A B:List DElem}{e:DElem}(ho:(A++e::B).Pairwise SpO):(A++e::B).filter (yR (vV e))=A++B:=by
 have hg:(A++e::B)[A.length]? = some e:=by rw[List.getElem?_append_right (t_ _)];simp
 rw[Lm ho hg,List.take_left' rfl,show A++e::B=(A++[e])++B by simp,List.drop_left' s_]
section
variable {l:List DElem} {k:DKey} {t:Int} {v:ByteArray}
theorem Cz (h:Run l){e:DElem}(hn:xz l k=some e):∃a,l=(lo l k++a)++e::hi l k/\clo (hist l k) t=a++(if e.made=t then [] else [{ e with gone:=t }]):=by
 obtain⟨a,ha,hc⟩:=HB (t:=t) h.ord hn;refine⟨a,?_,hc⟩
 conv=>lhs;rw[Fp k h.ord,ha]
 simp
theorem KD (h:Run l){e:DElem}(hn:xz l k=some e)(hm:e.made=t):l.map (xW (yn k v t))=putR l k v t:=by
 obtain⟨a,h1,h2⟩:=Cz (t:=t) h hn;have hk:=((ze h.ord).1 hn).2.1;have ho:=AR h.ord;rw[h1] at ho;have hsp:vV (yn k v t)=vV e:=by unfold vV yn;rw[hk,hm]
 conv=>lhs;rw[h1]
 rw[HU hsp ho];unfold putR upd;rw[h2,if_pos hm];simp
theorem C8 (h:Run l){e:DElem}(hn:xz l k=some e)(hm:e.made≠t):l.map (xW { e with gone:=t })=cutR l k t:=by
 obtain⟨a,h1,h2⟩:=Cz (t:=t) h hn;have ho:=AR h.ord;rw[h1] at ho
 conv=>lhs;rw[h1]
 rw[HU (e:=e) (y:={ e with gone:=t }) rfl ho];unfold cutR upd;rw[h2,if_neg hm];simp
theorem Kf (h:Run l){e:DElem}(hn:xz l k=some e)(hm:e.made=t):l.filter (yR (vV e))=cutR l k t:=by
 obtain⟨a,h1,h2⟩:=Cz (t:=t) h hn;have ho:=AR h.ord;rw[h1] at ho
 conv=>lhs;rw[h1]
 rw[KG ho];unfold cutR upd;rw[h2,if_pos hm];simp
theorem EG (h:Run l)(ht:xl l<=t)(hc:wa (yn k v t)=0):∀x∈cutR l k t,vV x≠vV (yn k v t):=by
 obtain⟨_,h0,h1,_⟩:=zy hc;obtain⟨c1,c2,c3⟩:=h.clo ht h0 h1 k;intro x hx hs;unfold cutR at hx;have hk:x.key=k:=congrArg DSpot.key hs;have hmd:x.made=t:=congrArg DSpot.made hs;rcases(zx h.ord).1 hx with hx|⟨_,hx⟩
 . have:=(c3 x hx).2;omega
 . exact hx hk
theorem Gi (h:Run l)(hn:xz l k=none):(putR l k v t).length=l.length+1:=by rw[BC h,hn]
theorem Gj (h:Run l){e:DElem}(hn:xz l k=some e)(hm:e.made=t):(putR l k v t).length=l.length:=by rw[BC h,hn];exact if_pos hm
theorem Gk (h:Run l){e:DElem}(hn:xz l k=some e)(hm:¬ e.made=t):(putR l k v t).length=l.length+1:=by rw[BC h,hn];exact if_neg hm
theorem KC (h:Run l)(ht:xl l<=t)(hc:wa (yn k v t)=0)(hn:(putR l k v t).length<=400):GY (cutR l k t) (yn k v t)=putR l k v t:=by
 obtain⟨_,h0,h1,_⟩:=zy hc;have hcut:=h.cutR ht h0 h1 k;have hput:=h.putR ht hc hn;refine Fq (CP (AR hcut.ord) _) (AR hput.ord) λx=>?_;rw[Ga];have hf:=EG h ht hc;unfold putR;rw[zx h.ord,j_,p_];constructor
 . rintro(rfl|⟨hx,_⟩)
   . exact .inl (.inr rfl)
   . unfold cutR at hx;rcases(zx h.ord).1 hx with hx|hx
     . exact .inl (.inl hx)
     . exact .inr hx
 . rintro((hx|rfl)|hx)
   . have hm:x∈cutR l k t:=(by unfold cutR;exact(zx h.ord).2 (.inl hx));exact .inr ⟨hm,hf x hm⟩
   . exact .inl rfl
   . have hm:x∈cutR l k t:=(by unfold cutR;exact(zx h.ord).2 (.inr hx));exact .inr ⟨hm,hf x hm⟩
end
theorem Lh {N:NL}(h:qY N=some (fN N))(root:Int):nlT ⟨root,fN N⟩=N:=(lE h).symm
theorem zA {t:DTree}{h:Nat}(hg:Good t h):lz F t=some (Bk (vS t.nodes h t.root)):=CX (AU hg) hg
omit [Big F] in
theorem Ck (t:DTree)(k:DKey)(v:ByteArray)(u:Int):pP F t k v u=(lz F t).bind λr1=>bif (r1 !=0) then some ((DTree.mk 0 []),r1) else (kO (DElem.mk k u 0 v)).bind λr2=>bif (r2 !=0) then some ((DTree.mk 0 []),r2) else
 (nC F t u).bind λr3=>bif r3 then some ((DTree.mk 0 []),9) else (oB F t k).bind λr4=>(mz F t).bind λr5 =>
 bif (r4.2&&(r4.1.made==u)) then (qc (σ:=NL×Int) (ρ:=NL) (Aw F (DElem.mk k u 0 v)) F (nlT r5,r5.root)).bind λq1=>(qY q1).bind λl1=>some ((DTree.mk r5.root l1),0)
 else (pc F t).bind λr16=>bif r16 then some ((DTree.mk 0 []),8) else
  (bif r4.2 then (qc (σ:=NL×Int) (ρ:=NL) (Aw F (DElem.mk r4.1.key r4.1.made u r4.1.val)) F (nlT r5,r5.root)).bind λq2=>some q2 else some (nlT r5):Option NL).bind λz5 =>
  (GD F (DElem.mk k u 0 v) z5 r5.root).bind λz=>match z with|(z10,z11)=>(qY z11).bind λl2=>some ((DTree.mk z10 l2),0)
:=by
 unfold pP;simp only[Ec,KY];rfl
theorem FE {t:DTree}{h:Nat}(hg:Good t h)(k:DKey)(v:ByteArray)(u:Int)(hz:DN (vS t.nodes h t.root) k v u≠0):pP F t k v u=some (zT,DN (vS t.nodes h t.root) k v u):=by
 rw[Ck,zA hg,obs];unfold DN at hz ⊢;by_cases h1:Bk (vS t.nodes h t.root)=0;rotate_left
 . rw[wI h1,cond_true,if_pos h1];rfl
 have hrun:=xE.1 h1;rw[if_neg (by simpa using h1)] at hz ⊢;rw[ww h1,cond_false,wK,obs];by_cases h2:wa (yn k v u)=0;rotate_left
 . rw[show DElem.mk k u 0 v=yn k v u from rfl,wI h2,cond_true,if_pos h2];rfl
 rw[if_neg (by simpa using h2)] at hz ⊢;obtain⟨_,u0,u1,_⟩:=zy h2;rw[show DElem.mk k u 0 v=yn k v u from rfl,ww h2,cond_false,yU hg,obs];by_cases h3:u<xl (vS t.nodes h t.root)
 . rw[decide_eq_true (.inr (.inr h3)),cond_true,if_pos h3];rfl
 rw[if_neg h3] at hz ⊢;rw[decide_eq_false o_,cond_false,zq hg hrun,obs,zc hg.len hg.chk,obs];have hl:=hrun.len;by_cases h4:400<(putR (vS t.nodes h t.root) k v u).length;rotate_left
 . exact absurd (if_neg h4) hz
 rw[if_pos h4]
 have hnm:((Fd (xz (vS t.nodes h t.root) k)).2&&((Fd (xz (vS t.nodes h t.root) k)).1.made==u))=false:=by
  cases hn:xz (vS t.nodes h t.root) k with
  |none=>rfl
  |some e=>show (true&&(e.made==u))=false;rw[m0,beq_eq_false_iff_ne];intro hm;have hpl:=Gj (v:=v) hrun hn hm;omega
 have h5:400<=(vS t.nodes h t.root).length:=by
  cases hn:xz (vS t.nodes h t.root) k with
  |none=>have hpl:=Gi (v:=v) (t:=u) hrun hn;omega
  |some e =>
   by_cases hm:e.made=u
   . have hpl:=Gj (v:=v) hrun hn hm;omega
   . have hpl:=Gk (v:=v) hrun hn hm;omega
 rw[hnm,cond_false,yT hg,obs,decide_eq_true h5,cond_true];rfl
theorem AS {t:DTree}{h:Nat}(hg:Good t h)(k:DKey)(v:ByteArray)(u:Int)(hz:DN (vS t.nodes h t.root) k v u=0) :
 ∃t' h',pP F t k v u=some (t',0)/\Good t' h'/\vS t'.nodes h' t'.root=putR (vS t.nodes h t.root) k v u:=by
 obtain⟨hrun,hc,hlast,hput⟩:=Bb.1 hz;obtain⟨_,u0,u1,_⟩:=zy hc;have hl:=hrun.len;have hcut:=hrun.cutR hlast u0 u1 k
 have pre:∀r,((bif ((Fd (xz (vS t.nodes h t.root) k)).2&&((Fd (xz (vS t.nodes h t.root) k)).1.made==u)) then (qc (σ:=NL×Int) (ρ:=NL) (Aw F (yn k v u)) F (nlT t,t.root)).bind λq1=>(qY q1).bind λl1=>some ((DTree.mk t.root l1),(0:Int))
  else (pc F t).bind λr16=>bif r16 then some ((DTree.mk 0 []),8) else
   (bif (Fd (xz (vS t.nodes h t.root) k)).2 then (qc (σ:=NL×Int) (ρ:=NL) (Aw F (DElem.mk (Fd (xz (vS t.nodes h t.root) k)).1.key (Fd (xz (vS t.nodes h t.root) k)).1.made u (Fd (xz (vS t.nodes h t.root) k)).1.val)) F (nlT t,t.root)).bind λq2=>some q2 else some (nlT t):Option NL).bind λz5 =>
   (GD F (yn k v u) z5 t.root).bind λz=>match z with|(z10,z11)=>(qY z11).bind λl2=>some ((DTree.mk z10 l2),0))=r)->pP F t k v u=r:=λr hh=>by
  rw[Ck,zA hg,obs,ww (xE.2 hrun),cond_false,show DElem.mk k u 0 v=yn k v u from rfl,wK,obs,ww hc,cond_false,yU hg,obs,decide_eq_false o_,cond_false,zq hg hrun,obs,zc hg.len hg.chk,obs];exact hh
 have add:∀(t1:DTree),Good t1 h->t1.root=t.root->vS t1.nodes h t1.root=cutR (vS t.nodes h t.root) k u->∃t' h',((GD F (yn k v u) (nlT t1) t.root).bind λz=>match z with|(z10,z11)=>(qY z11).bind λl2=>some ((DTree.mk z10 l2),(0:Int)))=some (t',0)/\Good t' h'/\vS t'.nodes h' t'.root=putR (vS t.nodes h t.root) k v u:=λt1 g1 hr1 he1=>by
  obtain⟨root,N,a1,a2,h',a3,a4⟩:=H1 (F:=F) (e:=yn k v u) g1 hc (by rw[he1];exact EG hrun hlast hc) (by rw[he1];exact hcut.len);rw[hr1] at a1;refine⟨⟨root,fN N⟩,h',?_,a3,?_⟩
  . rw[a1,obs];dsimp only;rw[a2,obs]
  . rw[a4,he1];exact KC hrun hlast hc hput
 cases hn:xz (vS t.nodes h t.root) k with
 |none=>have hpl:=Gi (v:=v) (t:=u) hrun hn;rw[hn] at pre;obtain⟨t',h',a1,a2,a3⟩:=add t hg rfl (Jl hrun hn).symm;refine⟨t',h',pre _ ?_,a2,a3⟩;show (bif false then _ else _)=_;rw[cond_false,yT hg,obs,decide_eq_false o_,cond_false];show ((bif false then _ else some (nlT t):Option NL).bind _)=_;rw[cond_false,obs];exact a1
 |some e =>
  rw[hn] at pre;have hem:=(ze hrun.ord).1 hn;by_cases hm:e.made=u
  . obtain⟨N,c1,c2,c3,c4⟩:=Dm (F:=F) (e:=yn k v u) hg hc;refine⟨⟨t.root,fN N⟩,h,pre _ ?_,c3,by rw[c4];exact KD hrun hn hm⟩;show (bif (true&&(e.made==u)) then _ else _)=_;rw[m0,show (e.made==u)=true by rw[beq_iff_eq];exact hm,cond_true,c1,obs,c2,obs]
  . have hce:wa { e with gone:=u } = 0:=by have h1:=hcut.ok { e with gone:=u };refine h1 ?_;rw[<-C8 hrun hn hm];exact I_.2 ⟨e,hem.1,if_pos rfl⟩
    obtain⟨N,c1,c2,c3,c4⟩:=Dm (F:=F) (e:={ e with gone:=u }) hg hce;obtain⟨t',h',a1,a2,a3⟩:=add ⟨t.root,fN N⟩ c3 rfl (by rw[<-C8 hrun hn hm];exact c4);rw[Lh c2] at a1;refine⟨t',h',pre _ ?_,a2,a3⟩;have hpl:=Gk (v:=v) hrun hn hm;show (bif (true&&(e.made==u)) then _ else _)=_;rw[m0,show (e.made==u)=false by rw[beq_eq_false_iff_ne];exact hm,cond_false,yT hg,obs,decide_eq_false o_,cond_false];show ((bif true then (qc (σ:=NL×Int) (ρ:=NL) (Aw F { e with gone:=u }) F (nlT t,t.root)).bind _ else _:Option NL).bind _)=_;rw[cond_true,c1,obs,obs];exact a1
omit [Big F] in
theorem FD (t:DTree)(k:DKey)(u:Int):pO F t k u=(lz F t).bind λr1=>bif (r1 !=0) then some ((DTree.mk 0 []),r1) else (mw k).bind λr2=>bif (r2 !=0) then some ((DTree.mk 0 []),r2) else
 (nC F t u).bind λr3=>bif r3 then some ((DTree.mk 0 []),9) else (oB F t k).bind λr4=>bif (!r4.2) then some ((DTree.mk 0 []),4) else
 bif (r4.1.made==u) then (mz F t).bind λr5=>(jp r4.1).bind λr7=>(IC F r7 (nlT r5) r5.root).bind λz=>match z with|(z1,z2)=>(qY z1).bind λl1=>some ((DTree.mk z2 l1),0)
 else (mz F t).bind λr43=>(qc (σ:=NL×Int) (ρ:=NL) (Aw F (DElem.mk r4.1.key r4.1.made u r4.1.val)) F (nlT r43,r43.root)).bind λq11=>(qY q11).bind λl2=>some ((DTree.mk r43.root l2),0)
:=by
 unfold pO;simp only[Ec,KZ];rfl
theorem D1 {t:DTree}{h:Nat}(hg:Good t h)(k:DKey)(u:Int)(hz:Jk (vS t.nodes h t.root) k u=0) :
 ∃t' h',pO F t k u=some (t',0)/\Good t' h'/\vS t'.nodes h' t'.root=cutR (vS t.nodes h t.root) k u:=by
 obtain⟨hrun,hk,u0,u1,hlast,hnow⟩:=Cn.1 hz;obtain⟨e,hn⟩:=Option.isSome_iff_exists.1 hnow;have hem:=(ze hrun.ord).1 hn;have hcut:=hrun.cutR hlast u0 u1 k;rw[FD,zA hg,obs,ww (xE.2 hrun),cond_false,BV,obs,ww hk,cond_false,yU hg,obs,decide_eq_false o_,cond_false,zq hg hrun,obs,hn];show ∃t' h',(bif (!true) then _ else bif (e.made==u) then _ else _)=_/\_;rw[Z_,cond_false];by_cases hm:e.made=u
 . obtain⟨root,N,o1,o2,h',o3,o4⟩:=ID (F:=F) (sp:=vV e) hg;refine⟨⟨root,fN N⟩,h',?_,o3,by rw[o4];exact Kf hrun hn hm⟩;rw[show (e.made==u)=true by rw[beq_iff_eq];exact hm,cond_true,zc hg.len hg.chk,obs,wh,obs];show (IC F (vV e) (nlT t) t.root).bind _=_;rw[o1,obs];dsimp only;rw[o2,obs]
 . have hce:wa { e with gone:=u } = 0:=by refine hcut.ok { e with gone:=u } ?_;rw[<-C8 hrun hn hm];exact I_.2 ⟨e,hem.1,if_pos rfl⟩
   obtain⟨N,c1,c2,c3,c4⟩:=Dm (F:=F) (e:={ e with gone:=u }) hg hce;refine⟨⟨t.root,fN N⟩,h,?_,c3,by rw[c4];exact C8 hrun hn hm⟩;rw[show (e.made==u)=false by rw[beq_eq_false_iff_ne];exact hm,cond_false,zc hg.len hg.chk,obs];show (qc (σ:=NL×Int) (ρ:=NL) (Aw F { e with gone:=u }) F (nlT t,t.root)).bind _=_;rw[c1,obs,c2,obs]
end
section
variable {F:Nat} [Big F]
def AO (t:DTree):List UInt8:=wi t.root.toNat 2++wi t.nodes.length 2
def wG (t:DTree):ByteArray:=ofL (AO t)
theorem xK (t:DTree):(AO t).length=4:=by unfold AO;rw[i_,vU,vU]
theorem Eo {t:DTree}{h:Nat}(g:Good t h):0<=t.root/\t.root<(t.nodes.length:Int):=by
 have:=g.ok
 cases h with
 |zero=>exact this.1
 |succ h=>exact this.1
theorem HS {t:DTree}{h:Nat}(g:Good t h):((kN F t.root 2).bind λr1=>(kN F (t.nodes.length:Int) 2).bind λr2=>(m5 r1 r2).bind λs1=>some s1:Option ByteArray)=some (wG t):=by
 have hr:=Eo g;have e:t.root=((t.root.toNat:Nat):Int):=o_;have h1:kN F t.root 2=some (ofL (wi t.root.toNat 2)):=by have:=yu (F:=F) t.root.toNat 2 c_;rw[<-e] at this;exact this
 have h2:kN F (t.nodes.length:Int) 2=some (ofL (wi t.nodes.length 2)):=yu (F:=F) t.nodes.length 2 c_;rw[h1,vT,h2,vT,xp (by rw[vU,vU];decide),vT];rfl
structure Fine (t:DTree) (l:List DElem):Prop where
 good:∃h,Good t h/\vS t.nodes h t.root=l
 run:Run l
 few:t.nodes.length<=100
theorem Fine.all {t:DTree}{l:List DElem}(f:Fine t l):j6 F t=some (l,0):=by obtain⟨h,g,rfl⟩:=f.good;exact zM (AU g) g
theorem Fine.chk {t:DTree}{l:List DElem}(f:Fine t l):∀n∈t.nodes,wr n=0:=by obtain⟨h,g,rfl⟩:=f.good;exact g.chk
theorem Fine.check {t:DTree}{l:List DElem}(f:Fine t l):lz F t=some 0:=by obtain⟨h,g,rfl⟩:=f.good;rw[zA g,xE.2 f.run]
structure Kept (R:List ByteArray) (q:Nat) (t:DTree):Prop where
 done:Done ⟨R,[]⟩ q (wG t)
 page:∀(i:Nat) (n:DNode),t.nodes[i]? = some n->pg R (1+i)=ofL (xd n)
 small:∀j,1<=j->j<101->(pg R j).size<=2900
theorem BA {n:DNode}(h:wr n=0):(ofL (xd n)).size<=2900:=by have:=BN h;rw[DJ,AK];omega
theorem CN (l:List DNode):∀a:List DNode,l.foldl (λa n=>a++[n]) a=a++l:=by
 induction l with
 |nil=>intro a;simp
 |cons x l ih=>intro a;rw[List.foldl_cons,ih];simp
theorem ED {P0:List ByteArray}{W0:List DWrite}{R:List ByteArray}{q:Nat}{t:DTree}{l:List DElem}(hr:nA F ⟨P0,W0⟩=some (⟨R,[]⟩,0))(K:Kept R q t)(f:Fine t l) :
 j9 F P0 W0=some (R,[],t.root,t.nodes):=by
 obtain⟨h,g,hl⟩:=f.good;have hg:=Eo g;have hn:=f.few;have hR:R.length=201:=K.done.ok.len;unfold j9;rw[hr,vT];dsimp only;rw[show ((0:Int) !=0)=false from rfl,vY,DT K.done.ok,vT];dsimp only;have hsz:(wG t).size=4:=xK t;have s1:km (wG t) 2 ((wG t).size:Int)=some (ofL (slc (AO t) 2 4)):=by rw[hsz];exact zo (l:=AO t) (a:=2) (b:=4) c_ (by rw[xK];decide)
 have s2:km (wG t) 0 2=some (ofL (slc (AO t) 0 2)):=zo (l:=AO t) (a:=0) (b:=2) c_ (by rw[xK];decide);have e1:slc (AO t) 2 4=wi t.nodes.length 2:=by unfold slc AO;rw[p8 (by rw[i_,vU,vU];decide)];exact List.drop_left' (vU _ _)
 have e2:slc (AO t) 0 2=wi t.root.toNat 2:=by unfold slc AO;rw[List.drop_zero];exact List.take_left' (vU _ _)
 rw[s1,s2,e1,e2,hsz,show (((4:Nat):Int) !=4)=false from rfl,vY,vT,xX _ (by rw[vU];decide),vT,vT,xX _ (by rw[vU];decide),vT,xD,xD,
  Nat.mod_eq_of_lt (show t.nodes.length<256 ^ 2 by omega),Nat.mod_eq_of_lt (show t.root.toNat<256 ^ 2 by omega),decide_eq_false (show ¬ (100:Int)<(t.nodes.length:Int) by omega),vY]
 rw[xq (F:=F) t.nodes (λa n=>a++[n]) [] (r:=.inl t.nodes) o_ rfl (λk n hk=>?_) (by dsimp only;rw[decide_eq_false o_,vY,CN];rfl),vT]
 . dsimp only;rw[show (((t.root.toNat:Nat):Int))=t.root by omega];rw[show lz F (DTree.mk t.root t.nodes)=some 0 from f.check,vT];rfl
 . have hk1:=(ggs.1 hk).1;dsimp only;have hp:pg R (1+k)=ofL (xd n):=K.page k n hk;have hc:=f.chk n (B_ hk);have hb:=BN hc;have hlen:((t.nodes.take k).foldl (λa n=>a++[n]) []).length=k:=by rw[CN,T_,H_];omega
   rw[decide_eq_true o_,wg,wq o_ o_,Br o_ o_,vT,show (1+(k:Int)).toNat=1+k by omega,hp,Fe _ (by rw[AK];omega),vT,IL hc];dsimp only;rw[show ((0:Int) !=0)=false from rfl,vY,yJ (by rw[hlen,D_];omega) (by rw[hlen,D_];omega),vT,wq o_ o_]
def yh (R:List ByteArray)(ns:List DNode):List DWrite:=(ns.zipIdx.filter λp=>decide (pg R (1+p.2)≠ofL (xd p.1))).map λp=>⟨((1+p.2:Nat):Int),ofL (xd p.1)⟩
theorem B6 {R:List ByteArray}{ns:List DNode}{w:DWrite}:w∈yh R ns↔∃k n,ns[k]? = some n/\pg R (1+k)≠ofL (xd n)/\w=⟨((1+k:Nat):Int),ofL (xd n)⟩:=by
 unfold yh;rw[I_];constructor
 . rintro⟨⟨n,k⟩,hm,rfl⟩;obtain⟨h1,h2⟩:=g_.1 hm;exact⟨k,n,v7.1 h1,of_decide_eq_true h2,rfl⟩
 . rintro⟨k,n,h1,h2,rfl⟩;exact⟨(n,k),g_.2 ⟨v7.2 h1,decide_eq_true h2⟩,rfl⟩
theorem Jf {R:List ByteArray}{t:DTree}{l:List DElem}(f:Fine t l):FitOk (wG t) (yh R t.nodes):=by
 have hn:=f.few;refine⟨by have:(wG t).size=4:=xK t;omega,?_,λw hw=>?_,λw hw=>?_,?_⟩
 . unfold yh;rw[f_];exact U_ (J_ _ _) (by rw[m4];exact hn)
 . obtain⟨k,n,h1,_,rfl⟩:=B6.1 hw;have:=(ggs.1 h1).1;dsimp only;omega
 . obtain⟨k,n,h1,_,rfl⟩:=B6.1 hw;exact BA (f.chk n (B_ h1))
 . unfold yh;rw[O_];refine List.Pairwise.filter _ ?_;have:(t.nodes.zipIdx.map Prod.snd).Pairwise (·≠·):=by rw[List.zipIdx_map_snd];exact List.nodup_range'
   refine(O_.1 this).imp λ{a b} h=>?_;dsimp only;omega
theorem Ek (R:List ByteArray)(l:List (DNode×Nat)):∀a:List DWrite,l.foldl (λa p=>if pg R (1+p.2)=ofL (xd p.1) then a else a++[⟨((1+p.2:Nat):Int),ofL (xd p.1)⟩]) a=a++(l.filter λp=>decide (pg R (1+p.2)≠ofL (xd p.1))).map λp=>⟨((1+p.2:Nat):Int),ofL (xd p.1)⟩:=by
 induction l with
 |nil=>intro a;simp
 |cons p l ih =>
  intro a;rw[List.foldl_cons,ih];by_cases h:pg R (1+p.2)=ofL (xd p.1)
  . rw[if_pos h,p7 (by rw[decide_eq_true_iff];exact λc=>c h)]
  . rw[if_neg h,p6 (by rw[decide_eq_true_iff];exact h),Q_,List.append_assoc];rfl
theorem Ke (R:List ByteArray)(l:List (DNode×Nat)):(l.foldl (λa p=>if pg R (1+p.2)=ofL (xd p.1) then a else a++[⟨((1+p.2:Nat):Int),ofL (xd p.1)⟩]) ([]:List DWrite)).length<=l.length:=by rw[Ek,T_,f_];exact J_ _ _
theorem Kept.ground {R:List ByteArray}{q:Nat}{t0 t:DTree}{l:List DElem}(K:Kept R q t0)(f:Fine t l)(hq:q<2147483647):StepsOk ⟨R,[]⟩ (wG t) (yh R t.nodes) q (wG t0):=by have ft:=Jf (R:=R) f;refine⟨K.done.ok,ft,λw hw=>?_,hq⟩;have:=ft.page w hw;rw[Ah];exact K.small _ o_ o_
theorem Kept.next {R:List ByteArray}{q:Nat}{t0 t:DTree}{l:List DElem}(K:Kept R q t0)(f:Fine t l)(hq:q<2147483647):Kept (P4 q R (wG t) (yh R t.nodes)) (q+1) t:=by
 have g:Ground q R (wG t) (yh R t.nodes):=(K.ground f hq).ground;have hn:=f.few;refine⟨Lr g K.done.quiet,λi n hi=>?_,λj h1 h2=>?_⟩
 . have hi1:=(ggs.1 hi).1;by_cases e:pg R (1+i)=ofL (xd n)
   . rw[EF g (1+i) o_ o_ (λw hw=>?_),e];obtain⟨k,m,a1,a2,rfl⟩:=B6.1 hw;dsimp only;intro c;obtain rfl:k=i:=o_;rw[hi] at a1;obtain rfl:=F_.inj a1;exact a2 e
   . exact JN g (w:=⟨((1+i:Nat):Int),ofL (xd n)⟩) (B6.2 ⟨i,n,hi,e,rfl⟩)
 . by_cases hw:∃w∈yh R t.nodes,w.page=(j:Int)
   . obtain⟨w,hw,hp⟩:=hw;have:=JN g hw;rw[hp,R_] at this;rw[this];exact g.fit.text w hw
   . rw[EF g j h1 h2 (λw hw' c=>hw ⟨w,hw',c⟩)];exact K.small j h1 h2
theorem Du {R:List ByteArray}{q:Nat}{t0 t:DTree}{l:List DElem}(K:Kept R q t0)(f:Fine t l)(hq:q<2147483647) :
 jn F R [] t.root t.nodes=some (P4 q R (wG t) (yh R t.nodes),[],yS q R (wG t) (yh R t.nodes),0):=by
 obtain⟨h,g,hl⟩:=f.good;have hn:=f.few;have hR:R.length=201:=K.done.ok.len;have G:Ground q R (wG t) (yh R t.nodes):=(K.ground f hq).ground;have hL:=zL q R (wG t) (yh R t.nodes);have hcl:=G.fit.len;have h4:=G.len4;unfold jn;rw[HS g,vT];have hz:t.nodes.zipIdx.length=t.nodes.length:=m4;rw[xq (F:=F) t.nodes.zipIdx (λa p=>if pg R (1+p.2)=ofL (xd p.1) then a else a++[⟨((1+p.2:Nat):Int),ofL (xd p.1)⟩]) [] (r:=yh R t.nodes) o_ rfl (λk p hk=>?_) (by dsimp only;rw[decide_eq_false o_,vY,Ek];rfl),vT,vT]
 . rw[show o9 F ⟨R,[]⟩ (wG t) (yh R t.nodes)=some (yS q R (wG t) (yh R t.nodes),0) from Hu (K.ground f hq),vT];dsimp only;rw[show ((0:Int) !=0)=false from rfl,vY,wq o_ o_,Jy G _ rfl,vT];dsimp only;rw[yJ (by rw[V_];omega) (by rw[V_];omega),vT,yJ c_ c_,vT,vT];rfl
 . obtain⟨n,i⟩:=p;have hk2:(t.nodes.zipIdx)[k]? = some (n,i):=hk;rw[List.getElem?_zipIdx] at hk2;obtain⟨m,hm,e⟩:=o7.1 hk2;obtain⟨rfl,hi⟩:=Prod.mk.inj e;obtain rfl:k=i:=o_;have hk1:=(ggs.1 hm).1;have hc:=f.chk m (B_ hm);have hcx:=Ke R (t.nodes.zipIdx.take k);rw[H_] at hcx;dsimp only;generalize (t.nodes.zipIdx.take k).foldl _ []=a at hcx ⊢;rw[decide_eq_true o_,wg,xo,hm,vT,Bg m (xr hc),if_pos hc,vT];dsimp only;rw[wq o_ o_,Br o_ o_,vT,show (1+(k:Int)).toNat=1+k by omega];by_cases e:pg R (1+k)=ofL (xd m)
   . rw[if_pos e,e,(tF _ _).2 rfl,Z_,vY,vT,wq o_ o_]
   . have hs:seq (pg R (1 + k)) (ofL (xd m))=false:=by
      cases hh:seq (pg R (1+k)) (ofL (xd m)) with
      |false=>rfl
      |true=>exact absurd ((tF _ _).1 hh) e
     rw[if_neg e,hs,Bool.not_false,wg,yJ (by rw[D_];omega) (by rw[D_];omega),vT,vT,wq o_ o_];rfl
theorem GN {R:List ByteArray}{q:Nat}{t0 t:DTree}{l0 l:List DElem}(K:Kept R q t0)(f0:Fine t0 l0)(f:Fine t l)(hq:q<2147483647){e:DDisk}(he:e∈yS q R (wG t) (yh R t.nodes))(bs:List Bool)(hb:bs.length<=9223372036854775807) :
 ∃D,oO F e bs=some (D,0)/\∃R' t',j9 F D.pages D.writes=some (R',[],t'.root,t'.nodes)/\((t'=t0/\Kept R' q t0)\/(t'=t/\Kept R' (q+1) t)):=by
 have g:Ground q R (wG t) (yh R t.nodes):=(K.ground f hq).ground;have Kn:=K.next f hq;unfold yS at he
 have two:GoodD e/\(Mid q R (apply (wW e.writes bs) e.pages)\/apply (wW e.writes bs) e.pages=P4 q R (wG t) (yh R t.nodes)):=by
  rcases j_.1 he with h1|h1
  . exact GO g K.done.quiet h1 bs
  . obtain rfl:=p_.1 h1;exact⟨(JY g).good,.inr rfl⟩
 obtain⟨hg,hm⟩:=two;refine⟨_,CV hg bs hb,?_⟩;dsimp only;rcases hm with m|h4
 . have hsq:=Kw K.done m;have hd:=IM hsq
   have K':Kept (zn q (apply (wW e.writes bs) e.pages) 100) q t0:=by
    refine⟨hd,λi n hi=>?_,λj h1 h2=>?_⟩
    . have hi1:=(ggs.1 hi).1;have:=f0.few;rw[EB m (1+i) o_ o_];exact K.page i n hi
    . rw[EB m j h1 h2];exact K.small j h1 h2
   exact⟨_,t0,ED (Ce hsq) K' f0,.inl ⟨rfl,K'⟩⟩
 . rw[h4];exact⟨_,t,ED (Fm Kn.done) Kn f,.inr ⟨rfl,Kn⟩⟩
theorem EE {t:DTree}{h:Nat}(g:Good t h)(hr:Run (vS t.nodes h t.root)):oN F t=some (yg (vS t.nodes h t.root),0):=by unfold oN;rw[zM (AU g) g,vT];dsimp only;have hl:=hr.len;rw[show ((0:Int) !=0)=false from rfl,vY,FO,vT];unfold ofR;rw[if_neg o_,Ef.2 ⟨hr.ok,Cp g⟩]
theorem FH (P:List ByteArray)(W:List DWrite){t t1:DTree}{l:List DElem}(f:Fine t l){h:Nat}(g:Good t1 h)(hr:Run (vS t1.nodes h t1.root)) :
 ∃t' l' c,jR F P W t.root t.nodes t1.root t1.nodes 0=some (t'.root,t'.nodes,c)/\Fine t' l':=by
 unfold jR;rw[show ((0:Int) !=0)=false from rfl,vY];by_cases hn:(100:Int)<(t1.nodes.length:Int)
 . obtain⟨h',b1,b2,-⟩:=CI hr.len hr.ok (Cp g);rw[decide_eq_true hn,wg,show oN F (DTree.mk t1.root t1.nodes)=some (yg (vS t1.nodes h t1.root),0) from EE g hr,vT];dsimp only;generalize vS t1.nodes h t1.root=m at b1 b2 hr;by_cases hm:(100:Int)<((yg m).nodes.length:Int)
   . rw[decide_eq_true hm,wg,vT];exact⟨t,l,8,rfl,f⟩
   . rw[decide_eq_false hm,vY,vT];exact⟨yg m,m,0,rfl,⟨⟨h',b1,b2⟩,hr,by omega⟩⟩
 . rw[decide_eq_false hn,vY,vT];exact⟨t1,_,0,rfl,⟨⟨h,g,rfl⟩,hr,by omega⟩⟩
omit [Big F] in
theorem GF (P:List ByteArray)(W:List DWrite){t t1:DTree}{c:Int}(hc:c≠0):jR F P W t.root t.nodes t1.root t1.nodes c=some (t.root,t.nodes,c):=by unfold jR;rw[wI hc,wg]
theorem IR (P:List ByteArray)(W:List DWrite){t:DTree}{l:List DElem}(f:Fine t l)(k:DKey)(v:ByteArray)(u:Int) :
 ∃t' l' c,j8 F P W t.root t.nodes k v u=some (t'.root,t'.nodes,c)/\Fine t' l':=by
 obtain⟨h,g,rfl⟩:=f.good;unfold j8;by_cases hz:DN (vS t.nodes h t.root) k v u=0
 . obtain⟨t1,h1,a1,a2,a3⟩:=AS (F:=F) g k v u hz;obtain⟨hr,hc,hl,hn⟩:=Bb.1 hz;obtain⟨t',l',c,b1,b2⟩:=FH (F:=F) P W f a2 (by rw[a3];exact hr.putR hl hc hn);rw[show pP F (DTree.mk t.root t.nodes) k v u=some (t1,0) from a1,vT];dsimp only;rw[b1,vT];exact⟨t',l',c,rfl,b2⟩
 . rw[show pP F (DTree.mk t.root t.nodes) k v u=_ from FE g k v u hz,vT];dsimp only;rw[GF (t1:=zT) P W hz,vT];exact⟨t,_,_,rfl,f⟩
theorem JI:Fine newT []:=⟨⟨0,AZ,rfl⟩,Run.nil,by decide⟩
def yM:List ByteArray:=((m9 201 (ofL [])).set 0 (hN 0 (wG newT))).set 1 (ofL (xd ⟨1,[],[],[],[]⟩))
theorem Lg:nu F=some (yM,newT.root,newT.nodes):=by have hc:wr ⟨1,[],[],[],[]⟩=0:=AZ.chk _ (p_.2 rfl);have h4:(wG newT).size=4:=xK newT;unfold nu;rw[show sd 16 (201:Int)=some () by decide,vT,show (qU:Option DTree)=some newT from rfl,vT,HS AZ,vT,show oA F 0 (wG newT)=some (hN 0 (wG newT),0) from HI 0 c_ (wG newT) o_,vT,K9,vT,show idx newT.nodes 0=some ⟨1,[],[],[],[]⟩ from rfl,vT,Bg _ (xr hc),if_pos hc,vT];dsimp only;have e1:idx ((m9 ((201:Int).toNat) ((l_ #[]):ByteArray)).set ((0:Int).toNat) (hN 0 (wG newT))) 1=some (pg ((m9 ((201:Int).toNat) ((l_ #[]):ByteArray)).set ((0:Int).toNat) (hN 0 (wG newT))) 1):=Br c_ (by rw[G_,W_];decide);rw[e1,vT];rfl
theorem Fg (j:Nat):pg yM j=if j=1 then ofL (xd ⟨1,[],[],[],[]⟩) else if j=0 then hN 0 (wG newT) else ofL []:=by
 unfold yM;rw[Ae _ _ _ _ (by rw[G_,W_];decide),Ae _ _ _ _ (by rw[W_];decide),Lv];by_cases h1:j=1
 . rw[if_pos h1.symm,if_pos h1]
 . rw[if_neg (λc=>h1 c.symm),if_neg h1];by_cases h0:j=0
   . rw[if_pos h0.symm,if_pos h0]
   . rw[if_neg (λc=>h0 c.symm),if_neg h0]
theorem Gb:Kept yM 0 newT:=by
 have hc:wr ⟨1,[],[],[],[]⟩=0:=AZ.chk _ (p_.2 rfl);have h4:(wG newT).size=4:=xK newT;have hl:yM.length=201:=by unfold yM;rw[G_,G_,W_]
 have hx:=Lp 0 (wG newT) c_ o_
 have hs:∀s∈yM,s.size<=3500:=λs hs=>by
  unfold yM at hs;rcases List.mem_or_eq_of_mem_set hs with h1|rfl
  . exact hx.good.pages s h1
  . have:=BA hc;omega
 refine⟨⟨⟨⟨Nat.le_of_eq hl,C_ _,hs,λw hw=>by cases hw⟩,hl,?_⟩,rfl,λi h1 h2=>?_⟩,λi n hi=>?_,λj h1 h2=>?_⟩
 . rw[Ah,Fg,if_neg c_,if_pos rfl];exact EZ 0 c_ _ o_
 . dsimp only;rw[Fg,if_neg o_,if_neg o_];intro n p t ho;have hz:zU (ofL [])=none:=by decide
   rw[hz] at ho;cases ho
 . match i,hi with
   |0,hi=>obtain rfl:(⟨1,[],[],[],[]⟩:DNode)=n:=F_.inj hi;rw[Fg,if_pos rfl]
   |i+1,hi=>exact absurd hi (by simp[newT])
 . rw[Fg];split
   . exact BA hc
   . rw[if_neg o_];decide
theorem Kb {n m:Int}(hm:0<m)(hn:m<=1000000):∃r:Nat,lS n m=some (r:Int)/\(r:Int)<m:=by
 unfold lS qS;have e1:IntKind.u64.wrap m=m:=by simp[IntKind.wrap,IntKind.bits,IntKind.signed];omega
 have e2:0<=IntKind.u64.wrap n:=by simp[IntKind.wrap,IntKind.bits,IntKind.signed];omega
 rw[e1,if_neg o_,obs];have h3:=Int.tmod_nonneg m e2;have h4:=Int.tmod_lt_of_pos (IntKind.u64.wrap n) hm;refine⟨((IntKind.u64.wrap n).tmod m).toNat,?_,by omega⟩;rw[w64 o_ o_];congr 1;omega
end
section
theorem BJ {zs:List Int}(hs:zs.Pairwise (·<=·)):∀m,m<=zs.length->(Lib.compactUpTo zs.toArray m).Pairwise (· < ·)/\(∀x∈Lib.compactUpTo zs.toArray m,∀j,m<=j+1->j<zs.length->x<=zs.toArray[j]!)/\∀x,x∈Lib.compactUpTo zs.toArray m↔∃j,j<m/\zs.toArray[j]! = x
 |0,_=>by simp[Lib.compactUpTo]
 |m+1,hm=>by
  obtain⟨h1,h2,h3⟩:=BJ hs m o_;have at':∀j (hj:j<zs.length),zs.toArray[j]! = zs[j]:=λj hj=>by simp[hj]
  have le:∀i j,i<=j->j<zs.length->zs.toArray[i]!<=zs.toArray[j]!:=λi j hij hj=>by
   rw[at' i o_,at' j hj];rcases n9 i j with h|h
   . exact o5.1 hs i j o_ hj h
   . obtain rfl:i=j:=o_;exact y_ _
  rw[Lib.compactUpTo_succ]
  cases hk:Lib.keeps zs.toArray m with
  |true =>
   rw[if_pos rfl]
   have hne:m=0\/zs.toArray[m]!≠zs.toArray[m-1]!:=by
    unfold Lib.keeps at hk;by_cases h0:m=0
    . exact .inl h0
    . refine .inr λe=>?_;simp[h0,e] at hk
   refine⟨g6.2 ⟨h1,by simp,λx hx y hy=>?_⟩,λx hx j hj hjl=>?_,λx=>?_⟩
   . obtain rfl:=p_.1 hy;rcases hne with rfl|hne
     . simp[Lib.compactUpTo] at hx
     . by_cases h0:m=0
       . subst h0;simp[Lib.compactUpTo] at hx
       . have:=h2 x hx (m-1) o_ o_;have:=le (m-1) m o_ o_;omega
   . rcases j_.1 hx with hx|hx
     . exact h2 x hx j o_ hjl
     . obtain rfl:=p_.1 hx;exact le m j o_ hjl
   . rw[j_,p_,h3];constructor
     . rintro(⟨j,hj,rfl⟩|rfl)
       . exact⟨j,by omega,rfl⟩
       . exact⟨m,by omega,rfl⟩
     . rintro⟨j,hj,rfl⟩;rcases n9 j m with h|h
       . exact .inl ⟨j,h,rfl⟩
       . obtain rfl:j=m:=o_;exact .inr rfl
  |false =>
   have h4:m≠0/\zs.toArray[m]! = zs.toArray[m-1]!:=(by unfold Lib.keeps at hk;simpa using hk);rw[if_neg s_,List.append_nil];refine⟨h1,λx hx j hj hjl=>h2 x hx j o_ hjl,λx=>?_⟩;rw[h3];constructor
   . rintro⟨j,hj,rfl⟩;exact⟨j,by omega,rfl⟩
   . rintro⟨j,hj,rfl⟩;rcases n9 j m with h|h
     . exact⟨j,h,rfl⟩
     . obtain rfl:j=m:=o_;exact⟨j-1,by omega,h4.2.symm⟩
theorem BT (l:List Int):(kp l).Pairwise (·<=·):=by unfold kp;have:=List.pairwise_mergeSort (le:=λx y:Int=>decide (x<=y)) (λa b c h1 h2=>by simp only[decide_eq_true_eq] at *;omega) (λa b=>by simp only[Bool.or_eq_true,decide_eq_true_eq];omega) l;exact this.imp λh=>by simpa using h
def Aj (l:List Int):List Int:=Lib.compact (kp l)
theorem Fw (l:List Int):(Aj l).Pairwise (· < ·):=(BJ (BT l) _ (t_ _)).1
theorem Hd {l:List Int}{x:Int}:x∈Aj l↔x∈l:=by
 have h:=(BJ (BT l) _ (t_ _)).2.2 x;unfold Aj Lib.compact;rw[h];have hm:x∈kp l↔x∈l:=by unfold kp;exact List.mem_mergeSort
 rw[<-hm];constructor
 . rintro⟨j,hj,rfl⟩;rw[show (kp l).toArray[j]! = (kp l)[j] by simp[hj]];exact M_ hj
 . intro hx;obtain⟨j,hj,rfl⟩:=X_ hx;exact⟨j,hj,by simp[hj]⟩
theorem D9 (l:List Int):(Aj l).length<=l.length:=by unfold Aj;rw[<-po l];exact rX _
end
section
def opn (e:DElem):DElem:={ e with gone:=0 }
def cls (q:DElem->Bool)(e:DElem):DElem:=bif q e then e else opn e
def xi (p q:DElem->Bool)(l:List DElem):List DElem:=(l.filter p).map (cls q)
theorem wT {p q:DElem->Bool}{l:List DElem}{x:DElem}:x∈xi p q l↔∃e∈l,p e=true/\x=cls q e:=by
 unfold xi;rw[I_];constructor
 . rintro⟨e,h,rfl⟩;rw[g_] at h;exact⟨e,h.1,h.2,rfl⟩
 . rintro⟨e,h1,h2,rfl⟩;exact⟨e,g_.2 ⟨h1,h2⟩,rfl⟩
theorem yZ (q:DElem->Bool)(e:DElem):(cls q e).key=e.key:=by unfold cls opn;cases q e <;> rfl
theorem Dp (q:DElem->Bool)(e:DElem):(cls q e).made=e.made:=by unfold cls opn;cases q e <;> rfl
theorem za {q:DElem->Bool}{e:DElem}(h:q e=true):cls q e=e:=by unfold cls;rw[h,cond_true]
theorem Cm {q:DElem->Bool}{e:DElem}(h:q e=false):cls q e=opn e:=by unfold cls;rw[h,cond_false]
structure Seen (l:List DElem) (t:Int) (p q:DElem->Bool):Prop where
 made:∀e∈l,p e=true->e.made<=t
 gone:∀e∈l,q e=true->e.gone≠0/\e.gone<=t
 shut:∀a∈l,∀b∈l,a.key=b.key->a.made<b.made->p b=true->p a=true/\q a=true
variable {l:List DElem} {t:Int} {p q:DElem->Bool}
theorem FQ {e:DElem}(h:wa e=0):wa (opn e)=0:=by
 have:=zy (k:=e.key) (v:=e.val) (t:=e.made);revert h;unfold wa opn;simp only;intro h
 (repeat' split at h) <;> (repeat' split) <;> first|omega|contradiction|simp_all
theorem Seen.run (s:Seen l t p q)(h:Run l):Run (xi p q l):=by
 refine⟨?_,λx hx=>?_,?_⟩
 . unfold xi;rw[f_];exact U_ (J_ _ _) h.len
 . obtain⟨e,h1,_,rfl⟩:=wT.1 hx;unfold cls
   cases q e with
   |true=>exact h.ok e h1
   |false=>exact FQ (h.ok e h1)
 . unfold xi;rw[O_];have ho:=h.ord.filter p;refine List.Pairwise.imp_of_mem ?_ ho;intro a b ha hb hab;obtain⟨a1,a2⟩:=g_.1 ha;obtain⟨b1,b2⟩:=g_.1 hb;rw[yY] at hab ⊢;rw[yZ,yZ,Dp,Dp];refine hab.imp id λ⟨k1,k2,k3,k4⟩=>?_;obtain⟨_,hq⟩:=s.shut a a1 b b1 k1 k2 b2;rw[za hq];exact⟨k1,k2,k3,k4⟩
theorem Seen.last (s:Seen l t p q)(h0:0<=t):xl (xi p q l)<=t:=by
 refine zk.2 ⟨h0,λx hx=>?_⟩;obtain⟨e,h1,h2,rfl⟩:=wT.1 hx;refine zQ.2 ⟨by rw[Dp];exact s.made e h1 h2,?_⟩;unfold cls
 cases hq:q e with
 |true=>exact(s.gone e h1 hq).2
 |false=>exact h0
theorem Run.older (h:Run l){a b:DElem}(ha:a∈l)(hb:b∈l)(hk:a.key=b.key):a=b\/a.made<b.made\/b.made<a.made:=by
 rcases Ad h.ord ha hb with e|e|e
 . exact .inl e
 . rcases yY.1 e with h1|h1
   . rw[hk] at h1;have:=wj.refl b.key;omega
   . exact .inr (.inl h1.2.1)
 . rcases yY.1 e with h1|h1
   . rw[hk] at h1;have:=wj.refl b.key;omega
   . exact .inr (.inr h1.2.1)
theorem Seen.one (s:Seen l t p q)(h:Run l){a b:DElem}(ha:a∈l)(hb:b∈l)(hk:a.key=b.key)(pa:p a=true)(pb:p b=true)(qa:q a=false)(qb:q b=false):a=b:=by
 rcases h.older ha hb hk with e|e|e
 . exact e
 . have:=(s.shut a ha b hb hk e pb).2;rw[qa] at this;cases this
 . have:=(s.shut b hb a ha hk.symm e pa).2;rw[qb] at this;cases this
def Cl (p:DElem->Bool)(e:DElem):DElem->Bool:=λx=>p x||x==e
theorem wS {e x:DElem}:Cl p e x=true↔p x=true\/x=e:=by unfold Cl;rw[Bool.or_eq_true,beq_iff_eq]
theorem Seen.cut (s:Seen l t p q)(h:Run l){e:DElem}(he:e∈l)(pe:p e=true)(qe:q e=false)(hg:e.gone=t)(h1:1<=t) :
 Seen l t p (Cl q e)/\Jk (xi p q l) e.key t=0/\cutR (xi p q l) e.key t=xi p (Cl q e) l:=by
 have hok:=h.ok e he
 have hm:e.made<t/\t<=2147483647/\BO e.key=0:=by
  have:wa e=0:=hok;unfold wa at this
  (repeat' split at this) <;> first|omega|(refine⟨?_,?_,?_⟩ <;> first|omega|simp_all)
 have s':Seen l t p (Cl q e):=⟨s.made,λx hx hq=>by
  rcases wS.1 hq with hq|rfl
  . exact s.gone x hx hq
  . exact⟨by omega,by omega⟩,λa ha b hb hk hab pb=>by
  have:=s.shut a ha b hb hk hab pb
  exact⟨this.1,wS.2 (.inl this.2)⟩⟩
 have r:=s.run h;have r':=s'.run h;have hl:=s.last o_;have hmem:opn e∈xi p q l:=wT.2 ⟨e,he,pe,(Cm qe).symm⟩;have hnow:xz (xi p q l) e.key=some (opn e):=(ze r.ord).2 ⟨hmem,rfl,rfl⟩;refine⟨s',Cn.2 ⟨r,hm.2.2,h1,hm.2.1,hl,by rw[hnow];rfl⟩,?_⟩;refine EP (Run.cutR r hl h1 hm.2.1 e.key).ord r'.ord λx=>?_;unfold cutR;rw[zx r.ord,B7];refine Iff.trans ?_ wT.symm;constructor
 . rintro((⟨hx,hgx⟩|⟨y,hy,hgy,hmy,rfl⟩)|⟨hx,hkx⟩)
   . obtain⟨a,a1,a2,rfl⟩:=wT.1 (wF.1 hx).1
     cases hq:q a with
     |true=>exact⟨a,a1,a2,by rw[za hq,za (wS.2 (.inl hq))]⟩
     |false=>rw[Cm hq] at hgx;exact absurd rfl hgx
   . obtain⟨hy1,hyk⟩:=wF.1 hy;obtain⟨a,a1,a2,rfl⟩:=wT.1 hy1;rw[yZ] at hyk
     cases hq:q a with
     |true=>rw[za hq] at hgy;exact absurd hgy (s.gone a a1 hq).1
     |false=>obtain rfl:=s.one h a1 he hyk a2 pe hq qe;refine⟨a,a1,a2,?_⟩;rw[Cm hq,za (wS.2 (.inr rfl)),<-hg];rfl
   . obtain⟨a,a1,a2,rfl⟩:=wT.1 hx;rw[yZ] at hkx;have hne:a≠e:=λe'=>hkx (by rw[e']);refine⟨a,a1,a2,?_⟩;unfold cls Cl;rw[show (a==e)=false from beq_eq_false_iff_ne.2 hne,o6]
 . rintro⟨a,a1,a2,rfl⟩;by_cases hae:a=e
   . subst hae;refine .inl (.inr ⟨opn a,wF.2 ⟨hmem,rfl⟩,rfl,?_,?_⟩)
     . show a.made≠t;omega
     . rw[za (wS.2 (.inr rfl)),<-hg];rfl
   . have hc:cls (Cl q e) a=cls q a:=(by unfold cls Cl;rw[show (a==e)=false from beq_eq_false_iff_ne.2 hae,o6]);rw[hc];by_cases hk:a.key=e.key
     . refine .inl (.inl ⟨wF.2 ⟨wT.2 ⟨a,a1,a2,rfl⟩,by rw[yZ];exact hk⟩,?_⟩)
       cases hq:q a with
       |true=>rw[za hq];exact(s.gone a a1 hq).1
       |false=>exact absurd (s.one h a1 he hk a2 pe hq qe) hae
     . exact .inr ⟨wT.2 ⟨a,a1,a2,rfl⟩,by rw[yZ];exact hk⟩
theorem Seen.put (s:Seen l t p q)(h:Run l){e:DElem}(he:e∈l)(pe:p e=false)(qe:q e=false)(hm:e.made=t)(hs:∀a∈l,a.key=e.key->a.made<e.made->p a=true/\q a=true) :
 Seen l t (Cl p e) q/\DN (xi p q l) e.key e.val t=0/\putR (xi p q l) e.key e.val t=xi (Cl p e) q l:=by
 have hok:=FQ (h.ok e he);have hnew:yn e.key e.val t=opn e:=by rw[<-hm];rfl
 have h1:1<=t/\t<=2147483647:=by rw[<-hnew] at hok;exact⟨(zy hok).2.1,(zy hok).2.2.1⟩
 have s':Seen l t (Cl p e) q:=⟨λx hx hp=>by
  rcases wS.1 hp with hp|rfl
  . exact s.made x hx hp
  . omega,s.gone,λa ha b hb hk hab pb=>by
  rcases wS.1 pb with pb|rfl
  . have:=s.shut a ha b hb hk hab pb;exact⟨wS.2 (.inl this.1),this.2⟩
  . have:=hs a ha hk hab
    exact⟨wS.2 (.inl this.1),this.2⟩⟩
 have r:=s.run h;have r':=s'.run h;have hl:=s.last o_
 have hgone:∀x∈hist (xi p q l) e.key,x.gone≠0:=λx hx=>by
  obtain⟨hx1,hxk⟩:=wF.1 hx;obtain⟨a,a1,a2,rfl⟩:=wT.1 hx1;rw[yZ] at hxk
  have hlt:a.made<e.made:=by
   rcases h.older a1 he hxk with e'|e'|e'
   . subst e';rw[pe] at a2;cases a2
   . exact e'
   . have:=s.made a a1 a2;omega
  have hq:=(hs a a1 hxk hlt).2;rw[za hq];exact(s.gone a a1 hq).1
 have hput:putR (xi p q l) e.key e.val t=upd (xi p q l) e.key (hist (xi p q l) e.key++[opn e]):=by unfold putR;rw[Dn hgone,hnew]
 have hlen:(putR (xi p q l) e.key e.val t).length<=400:=by
  have h2:=BI (k:=e.key) (h:=hist (xi p q l) e.key++[opn e]) r.ord;rw[hput];rw[i_,D_] at h2;have h3:(xi p q l).length<l.length:=by unfold xi;rw[f_];exact o8.2 ⟨e,he,by rw[pe];decide⟩
  have:=h.len;omega
 have hE:DN (xi p q l) e.key e.val t=0:=Bb.2 ⟨r,by rw[hnew];exact hok,hl,hlen⟩;refine⟨s',hE,?_⟩;refine EP (r.putR hl (by rw[hnew];exact hok) hlen).ord r'.ord λx=>?_;rw[hput,zx r.ord,j_,p_];refine Iff.trans ?_ wT.symm;constructor
 . rintro((hx|rfl)|⟨hx,_⟩)
   . obtain⟨a,a1,a2,rfl⟩:=wT.1 (wF.1 hx).1;exact⟨a,a1,wS.2 (.inl a2),rfl⟩
   . exact⟨e,he,wS.2 (.inr rfl),(Cm qe).symm⟩
   . obtain⟨a,a1,a2,rfl⟩:=wT.1 hx;exact⟨a,a1,wS.2 (.inl a2),rfl⟩
 . rintro⟨a,a1,a2,rfl⟩;rcases wS.1 a2 with a2|rfl
   . by_cases hk:a.key=e.key
     . exact .inl (.inl (wF.2 ⟨wT.2 ⟨a,a1,a2,rfl⟩,by rw[yZ];exact hk⟩))
     . exact .inr ⟨wT.2 ⟨a,a1,a2,rfl⟩,by rw[yZ];exact hk⟩
   . exact .inl (.inr (Cm qe))
end
section
theorem H8 {n h:Nat}(hn:n<=400)(h1:cN n h=1)(h2:∀j,j<h->1<cN n j):sNk n h<=100:=by
 have a0:cN n 0<=50:=by show kOf n<=50;unfold kOf;split <;> omega
 have a1:cN n 1<=7:=by show kOf (cN n 0)<=7;unfold kOf;split <;> omega
 have a2:cN n 2<=1:=by show kOf (cN n 1)<=1;unfold kOf;split <;> omega
 match h with
 |0=>show cN n 0<=100;omega
 |1=>show cN n 0+cN n 1<=100;omega
 |2=>show cN n 0+cN n 1+cN n 2<=100;omega
 |h+3=>have:=h2 2 o_;omega
section
variable {F:Nat} [Big F]
theorem Dj (P:List ByteArray)(W:List DWrite){t t1:DTree}{h:Nat}(g:Good t1 h)(hr:Run (vS t1.nodes h t1.root)) :
 ∃t',jR F P W t.root t.nodes t1.root t1.nodes 0=some (t'.root,t'.nodes,0)/\Fine t' (vS t1.nodes h t1.root):=by
 unfold jR;rw[show ((0:Int) !=0)=false from rfl,vY];by_cases hn:(100:Int)<(t1.nodes.length:Int)
 . obtain⟨h',b1,b2,b3,b4,b5⟩:=CI hr.len hr.ok (Cp g);rw[decide_eq_true hn,wg,show oN F (DTree.mk t1.root t1.nodes)=some (yg (vS t1.nodes h t1.root),0) from EE g hr,vT];dsimp only;have hlen:=H8 hr.len b4 b5;generalize vS t1.nodes h t1.root=m at b1 b2 b3 b4 b5 hr hlen;have hm:¬ (100:Int)<((yg m).nodes.length:Int):=by rw[b3];omega
   rw[decide_eq_false hm,vY,vT];exact⟨yg m,rfl,⟨⟨h',b1,b2⟩,hr,by omega⟩⟩
 . rw[decide_eq_false hn,vY,vT];exact⟨t1,rfl,⟨⟨h,g,rfl⟩,hr,by omega⟩⟩
theorem Gw (P:List ByteArray)(W:List DWrite){t:DTree}{l:List DElem}(f:Fine t l)(k:DKey)(v:ByteArray)(u:Int)(hz:DN l k v u=0) :
 ∃t',j8 F P W t.root t.nodes k v u=some (t'.root,t'.nodes,0)/\Fine t' (putR l k v u):=by
 obtain⟨h,g,rfl⟩:=f.good;unfold j8;obtain⟨t1,h1,a1,a2,a3⟩:=AS (F:=F) g k v u hz;obtain⟨hr,hc,hl,hn⟩:=Bb.1 hz;obtain⟨t',b1,b2⟩:=Dj (F:=F) P W (t:=t) a2 (by rw[a3];exact hr.putR hl hc hn);rw[show pP F (DTree.mk t.root t.nodes) k v u=some (t1,0) from a1,vT];dsimp only;rw[b1,vT];rw[a3] at b2;exact⟨t',rfl,b2⟩
theorem JX (P:List ByteArray)(W:List DWrite){t:DTree}{l:List DElem}(f:Fine t l)(k:DKey)(u:Int)(hz:Jk l k u=0) :
 ∃t',lD F P W t.root t.nodes k u=some (t'.root,t'.nodes,0)/\Fine t' (cutR l k u):=by
 obtain⟨h,g,rfl⟩:=f.good;unfold lD;obtain⟨t1,h1,a1,a2,a3⟩:=D1 (F:=F) g k u hz;obtain⟨hr,_,u0,u1,hl,_⟩:=Cn.1 hz;obtain⟨t',b1,b2⟩:=Dj (F:=F) P W (t:=t) a2 (by rw[a3];exact hr.cutR hl u0 u1 k);rw[show pO F (DTree.mk t.root t.nodes) k u=some (t1,0) from a1,vT];dsimp only;rw[b1,vT];rw[a3] at b2;exact⟨t',rfl,b2⟩
theorem Iu {σ ρ:Type}{f:σ->Option (σ⊕ρ)}{Q:ρ->Prop}(n:Nat)(I:Nat->σ->Prop)(hn:n<=9223372036854775807){s:σ}(h0:I 0 s)(hs:∀k s,k<n->I k s->∃s',f s=some (.inl s')/\I (k+1) s')(he:∀s,I n s->∃r,f s=some (.inr r)/\Q r) :
 ∃r,iter f F s=some r/\Q r:=by
 have key:∀(m k N:Nat) (s:σ),k+m=n->m<N->I k s->∃r,iter f N s=some r/\Q r:=by
  intro m
  induction m with
  |zero=>intro k N s hk hN hI;obtain⟨N,rfl⟩:∃M,N=M+1:=⟨N-1,by omega⟩;obtain⟨r,h1,h2⟩:=he s (by rw[<-hk];exact hI);exact⟨r,by rw[iter,h1],h2⟩
  |succ m ih=>intro k N s hk hN hI;obtain⟨N,rfl⟩:∃M,N=M+1:=⟨N-1,by omega⟩;obtain⟨s',h1,h2⟩:=hs k s o_ hI;obtain⟨r,h3,h4⟩:=ih (k+1) N s' o_ o_ h2;exact⟨r,by rw[iter,h1];exact h3,h4⟩
 exact key n 0 F s o_ (zH hn) h0
end
theorem Run.apart {l:List DElem}(h:Run l){k:Nat}{e:DElem}(hk:l[k]? = some e):e∉l.take k:=λhm=>by obtain⟨i,hi,he⟩:=X_ hm;rw[H_] at hi;rw[List.getElem_take] at he;obtain⟨hkl,hke⟩:=ggs.1 hk;have:=o5.1 h.ord i k o_ hkl o_;rw[he,hke] at this;exact this.irrefl
theorem yD {l:List DElem}{k:Nat}{e x:DElem}(hk:l[k]? = some e):x∈l.take (k+1)↔x∈l.take k\/x=e:=by rw[N_,hk,Option.toList_some,j_,p_]
theorem Dr {e:DElem}(h:wa e=0):1<=e.made/\(e.gone=0\/e.made<e.gone):=by
 unfold wa at h
 (repeat' split at h) <;> omega
structure CutAt (l:List DElem) (t:Int) (k:Nat) (p q:DElem->Bool):Prop where
 p:∀x∈l,p x=true↔x.made<t
 q:∀x∈l,q x=true↔x.gone≠0/\(x.gone<t\/x.gone=t/\x∈l.take k)
structure PutAt (l:List DElem) (t:Int) (k:Nat) (p q:DElem->Bool):Prop where
 p:∀x∈l,p x=true↔x.made<t\/x.made=t/\x∈l.take k
 q:∀x∈l,q x=true↔x.gone≠0/\x.gone<=t
theorem Run.behind {l:List DElem}(h:Run l){a b:DElem}(ha:a∈l)(hb:b∈l)(hk:a.key=b.key)(hm:a.made<b.made):a.gone≠0/\a.gone<=b.made:=by
 rcases Ad h.ord ha hb with e|e|e
 . subst e;omega
 . rcases yY.1 e with h1|h1
   . rw[hk] at h1;have:=wj.refl b.key;omega
   . exact⟨h1.2.2.1,h1.2.2.2⟩
 . rcases yY.1 e with h1|h1
   . rw[hk] at h1;have:=wj.refl b.key;omega
   . omega
theorem CutAt.seen {l:List DElem}{t:Int}{k:Nat}{p q:DElem->Bool}(c:CutAt l t k p q)(h:Run l):Seen l t p q :=
 ⟨λe he hp=>by have:=(c.p e he).1 hp;omega,λe he hq=>by have:=(c.q e he).1 hq;exact⟨this.1,by omega⟩,λa ha b hb hk hab pb=>by
  have h1:=(c.p b hb).1 pb;have h2:=h.behind ha hb hk hab
  exact⟨(c.p a ha).2 o_,(c.q a ha).2 ⟨h2.1,.inl o_⟩⟩⟩
theorem PutAt.seen {l:List DElem}{t:Int}{k:Nat}{p q:DElem->Bool}(c:PutAt l t k p q)(h:Run l):Seen l t p q :=
 ⟨λe he hp=>by have:=(c.p e he).1 hp;omega,λe he hq=>(c.q e he).1 hq,λa ha b hb hk hab pb=>by
  have h1:=(c.p b hb).1 pb;have h2:=h.behind ha hb hk hab
  exact⟨(c.p a ha).2 (.inl o_),(c.q a ha).2 ⟨h2.1,by omega⟩⟩⟩
section
variable {F:Nat} [Big F]
theorem Jm (P:List ByteArray){l:List DElem}(h:Run l){t:Int}{k:Nat}{p q:DElem->Bool}{e:DElem}(he:l[k]? = some e)(c:CutAt l t k p q){tr:DTree}(f:Fine tr (xi p q l)) :
 ∃tr' q',(bif ((e.gone==t)&&(decide ((0:Int)<t))) then (lD F P [] tr.root tr.nodes e.key t).bind λr4=>some (r4.1,r4.2.1) else some (tr.root,tr.nodes):Option (Int×List DNode))=some (tr'.root,tr'.nodes)/\CutAt l t (k+1) p q'/\Fine tr' (xi p q' l):=by
 have hm:e∈l:=B_ he;have ht:=Dr (h.ok e hm);by_cases hc:e.gone=t/\0<t
 . obtain⟨hg,h0⟩:=hc
   have qe:q e=false:=by
    cases hq:q e with
    |false=>rfl
    |true=>have:=(c.q e hm).1 hq;exact absurd (this.2.resolve_left o_).2 (h.apart he)
   obtain⟨s1,s2,s3⟩:=(c.seen h).cut h hm ((c.p e hm).2 o_) qe hg o_;obtain⟨tr',b1,b2⟩:=JX (F:=F) P [] f e.key t s2;rw[s3] at b2;refine⟨tr',Cl q e,?_,⟨c.p,λx hx=>?_⟩,b2⟩
   . rw[show ((e.gone==t)&&(decide ((0:Int)<t)))=true by rw[beq_iff_eq.2 hg,decide_eq_true h0];rfl,wg,b1,vT]
   . rw[wS,c.q x hx,yD he];constructor
     . rintro(⟨h1,h2⟩|rfl)
       . exact⟨h1,h2.imp id λh=>⟨h.1,.inl h.2⟩⟩
       . exact⟨by omega,.inr ⟨hg,.inr rfl⟩⟩
     . rintro⟨h1,h2|⟨h2,h3|rfl⟩⟩
       . exact .inl ⟨h1,.inl h2⟩
       . exact .inl ⟨h1,.inr ⟨h2,h3⟩⟩
       . exact .inr rfl
 . refine⟨tr,q,?_,⟨c.p,λx hx=>?_⟩,f⟩
   . rw[show ((e.gone==t)&&(decide ((0:Int)<t)))=false from ?_,vY];rw[Bool.and_eq_false_iff,beq_eq_false_iff_ne,decide_eq_false_iff_not];by_cases h1:e.gone=t
     . exact .inr λh2=>hc ⟨h1,h2⟩
     . exact .inl h1
   . rw[c.q x hx,yD he];constructor
     . rintro⟨h1,h2⟩;exact⟨h1,h2.imp id λh=>⟨h.1,.inl h.2⟩⟩
     . rintro⟨h1,h2|⟨h2,h3|rfl⟩⟩
       . exact⟨h1,.inl h2⟩
       . exact⟨h1,.inr ⟨h2,h3⟩⟩
       . exact absurd ⟨h2,by omega⟩ hc
theorem JU (P:List ByteArray){l:List DElem}(h:Run l){t:Int}{k:Nat}{p q:DElem->Bool}{e:DElem}(he:l[k]? = some e)(c:PutAt l t k p q){tr:DTree}(f:Fine tr (xi p q l)) :
 ∃tr' p',(bif (e.made==t) then (j8 F P [] tr.root tr.nodes e.key e.val t).bind λr5=>some (r5.1,r5.2.1) else some (tr.root,tr.nodes):Option (Int×List DNode))=some (tr'.root,tr'.nodes)/\PutAt l t (k+1) p' q/\Fine tr' (xi p' q l):=by
 have hm:e∈l:=B_ he;have ht:=Dr (h.ok e hm);by_cases hg:e.made=t
 . have pe:p e=false:=by
    cases hp:p e with
    |false=>rfl
    |true=>have:=(c.p e hm).1 hp;exact absurd (this.resolve_left o_).2 (h.apart he)
   have qe:q e=false:=by
    cases hq:q e with
    |false=>rfl
    |true=>have:=(c.q e hm).1 hq;omega
   obtain⟨s1,s2,s3⟩:=(c.seen h).put h hm pe qe hg (λa ha hk hab=>by
    have h2:=h.behind ha hm hk hab
    exact⟨(c.p a ha).2 (.inl o_),(c.q a ha).2 ⟨h2.1,by omega⟩⟩)
   obtain⟨tr',b1,b2⟩:=Gw (F:=F) P [] f e.key e.val t s2;rw[s3] at b2;refine⟨tr',Cl p e,?_,⟨λx hx=>?_,c.q⟩,b2⟩
   . rw[beq_iff_eq.2 hg,wg,b1,vT]
   . rw[wS,c.p x hx,yD he];constructor
     . rintro(h2|rfl)
       . exact h2.imp id λh=>⟨h.1,.inl h.2⟩
       . exact .inr ⟨hg,.inr rfl⟩
     . rintro(h2|⟨h2,h3|rfl⟩)
       . exact .inl (.inl h2)
       . exact .inl (.inr ⟨h2,h3⟩)
       . exact .inr rfl
 . refine⟨tr,p,?_,⟨λx hx=>?_,c.q⟩,f⟩
   . rw[beq_eq_false_iff_ne.2 hg,vY]
   . rw[c.p x hx,yD he];constructor
     . exact λh2=>h2.imp id λh=>⟨h.1,.inl h.2⟩
     . rintro(h2|⟨h2,h3|rfl⟩)
       . exact .inl h2
       . exact .inr ⟨h2,h3⟩
       . exact absurd h2 hg
theorem Da {σ ρ β γ:Type}{f:σ->Option (σ⊕ρ)}{K:ρ->Option γ}(g:β->γ)(S:β->Prop)(Q:ρ->Prop)(n:Nat)(I:Nat->σ->Prop)(hn:n<=9223372036854775807){s:σ}(h0:I 0 s)(hs:∀k s,k<n->I k s->∃s',f s=some (.inl s')/\I (k+1) s')(he:∀s,I n s->∃r,f s=some (.inr r)/\Q r)
 (hk:∀r,Q r->∃y,K r=some (g y)/\S y):∃y,(iter f F s).bind K=some (g y)/\S y:=by
 obtain⟨r,h1,h2⟩:=Iu (F:=F) n I hn h0 hs he;rw[h1,vT];exact hk r h2
theorem De {ts:List Int}(hs:ts.Pairwise (· < ·)){m:Nat}{t y:Int}(ht:ts[m]? = some t)(hy:y∈ts):(y∈ts.take m↔y<t)/\(y∈ts.take (m+1)↔y<=t):=by
 obtain⟨hm,hmt⟩:=ggs.1 ht;obtain⟨j,hj,rfl⟩:=X_ hy;have lt:∀i j (hi:i<ts.length) (hj:j<ts.length),i<j->ts[i]<ts[j]:=λi j hi hj h=>o5.1 hs i j hi hj h
 have mt:∀n,ts[j]∈ts.take n↔j<n:=λn=>by
  constructor
  . intro h;obtain⟨i,hi,he⟩:=X_ h;rw[H_] at hi;rw[List.getElem_take] at he;rcases Nat.lt_trichotomy i j with h1|h1|h1
    . have:=lt i j o_ hj h1;omega
    . omega
    . have:=lt j i hj o_ h1;omega
  . intro h;exact v6.2 ⟨j,by omega,rfl⟩
 rw[mt,mt,<-hmt];rcases Nat.lt_trichotomy j m with h1|h1|h1
 . have:=lt j m hj hm h1;exact⟨⟨λ_=>this,λ_=>h1⟩,⟨λ_=>by omega,λ_=>by omega⟩⟩
 . subst h1;exact⟨⟨λh=>absurd h (Nat.lt_irrefl _),λh=>absurd h (Int.lt_irrefl _)⟩,⟨λ_=>y_ _,λ_=>by omega⟩⟩
 . have:=lt m j hm hj h1;exact⟨⟨λh=>by omega,λh=>by omega⟩,⟨λh=>by omega,λh=>by omega⟩⟩
theorem JM {l:List DElem}{p q:DElem->Bool}(hp:∀x∈l,p x=true)(hq:∀x∈l,q x=false->x.gone=0):xi p q l=l:=by
 unfold xi;rw[List.filter_eq_self.2 hp];refine(List.map_congr_left λx hx=>?_).trans (List.map_id l)
 cases h:q x with
 |true=>exact za h
 |false=>rw[Cm h];have:=hq x hx h;unfold opn;rw[<-this];rfl
theorem CL {l:List DElem}(h:Run l):∃t:DTree,jh F l=some (yM,t.root,t.nodes)/\Fine t l:=by
 have hl:=h.len;unfold jh;rw[Lg,vT];dsimp only;refine Da (F:=F) (λt:DTree=>(yM,t.root,t.nodes)) (λt=>Fine t l) (λz=>z.length<=800/\∀x,x∈z↔∃e∈l,x=e.made\/x=e.gone) l.length (λk s=>s.2=(k:Int)/\s.1.length=2*k/\∀x,x∈s.1↔∃e∈l.take k,x=e.made\/x=e.gone) o_ ⟨rfl,rfl,by simp⟩ ?_ ?_ ?_
 . rintro k ⟨a,i⟩ hk ⟨h1,ha,hm⟩;dsimp only at h1 ha hm;subst h1;obtain⟨e,he⟩:∃e,l[k]? = some e:=⟨_,gge hk⟩;dsimp only;rw[decide_eq_true (show (k:Int)<(l.length:Int) by omega),wg,vX,he,vT,wo (by simp only[z_,V_];omega) (by simp only[z_,V_];omega),vT,w64 o_ o_];refine⟨_,rfl,by simp,by simp[ha];omega,λx=>?_⟩;dsimp only;rw[j_,hm];constructor
   . rintro(⟨e',h1,h2⟩|h1)
     . exact⟨e',(yD he).2 (.inl h1),h2⟩
     . exact⟨e,(yD he).2 (.inr rfl),by simpa using h1⟩
   . rintro⟨e',h1,h2⟩;rcases(yD he).1 h1 with h1|rfl
     . exact .inl ⟨e',h1,h2⟩
     . exact .inr (by simpa using h2)
 . rintro⟨a,i⟩ ⟨h1,ha,hm⟩;dsimp only at h1 ha hm;subst h1;dsimp only;rw[decide_eq_false o_,vY];refine⟨a,rfl,by omega,λx=>?_⟩;rw[hm,x_]
 . intro z ⟨hz,hmz⟩;rw[show uA z=some (kp z) by unfold uA;rw[if_pos o_],vT];rw[show Lib.compact (kp z)=Aj z from rfl];have hts:=Fw z;have hmt:∀x,x∈Aj z↔∃e∈l,x=e.made\/x=e.gone:=λx=>(Hd).trans (hmz x);have htl:(Aj z).length<=800:=U_ (D9 z) hz;generalize Aj z=ts at hts hmt htl;have hmade:∀x∈l,x.made∈ts:=λx hx=>(hmt _).2 ⟨x,hx,.inl rfl⟩;have hgone:∀x∈l,x.gone∈ts:=λx hx=>(hmt _).2 ⟨x,hx,.inr rfl⟩;refine Da (F:=F) (λt:DTree=>(yM,t.root,t.nodes)) (λt=>Fine t l) (λr=>∃t:DTree,r=(t.root,t.nodes)/\Fine t l) ts.length (λm s=>∃(tr:DTree) (p q:DElem->Bool),s=(tr.root,tr.nodes,(m:Int))/\Fine tr (xi p q l)/\(∀x∈l,p x=true↔x.made∈ts.take m)/\∀x∈l,q x=true↔x.gone≠0/\x.gone∈ts.take m) o_ ⟨newT,λ_=>false,λ_=>false,rfl,?_,by simp,by simp⟩ ?_ ?_ ?_
   . have:xi (λ_=>false) (λ_=>false) l=[]:=(by unfold xi;simp);rw[this];exact JI
   . rintro m s hm ⟨tr,p,q,rfl,f,hp,hq⟩;obtain⟨t,ht⟩:∃t,ts[m]? = some t:=⟨_,gge hm⟩
     have c:CutAt l t 0 p q:=⟨λx hx=>(hp x hx).trans (De hts ht (hmade x hx)).1,λx hx=>by
      rw[hq x hx,(De hts ht (hgone x hx)).1]
      simp⟩
     dsimp only;rw[decide_eq_true (show (m:Int)<(ts.length:Int) by omega),wg,vX,ht,vT,w64 o_ o_];refine Da (F:=F) Sum.inl _ (λr=>∃(tr:DTree) (q:DElem->Bool),r=(tr.root,tr.nodes)/\Fine tr (xi p q l)/\CutAt l t l.length p q) l.length (λk s=>∃(tr:DTree) (q:DElem->Bool),s=(tr.root,tr.nodes,(k:Int))/\Fine tr (xi p q l)/\CutAt l t k p q) o_ ⟨tr,q,rfl,f,c⟩ ?_ ?_ ?_
     . rintro k s hk ⟨tr,q,rfl,f,c⟩;obtain⟨e,he⟩:∃e,l[k]? = some e:=⟨_,gge hk⟩;obtain⟨tr',q',b1,b2,b3⟩:=Jm (F:=F) yM h he c f;dsimp only;rw[decide_eq_true (show (k:Int)<(l.length:Int) by omega),wg,vX,he,vT,b1,vT,w64 o_ o_];exact⟨_,rfl,tr',q',by simp,b3,b2⟩
     . rintro s ⟨tr,q,rfl,f,c⟩;dsimp only;rw[decide_eq_false o_,vY];exact⟨_,rfl,tr,q,rfl,f,c⟩
     . rintro r ⟨tr,q,rfl,f,c⟩
       have c2:PutAt l t 0 p q:=⟨λx hx=>by rw[c.p x hx];simp,λx hx=>by
        rw[c.q x hx,x_];constructor
        . rintro⟨h1,h2⟩;exact⟨h1,by omega⟩
        . rintro⟨h1,h2⟩;rcases Int.lt_or_eq_of_le h2 with h2|h2
          . exact⟨h1,.inl h2⟩
          . exact⟨h1,.inr ⟨h2,hx⟩⟩⟩
       dsimp only;refine Da (F:=F) Sum.inl _ (λr=>∃(tr:DTree) (p:DElem->Bool),r=(tr.root,tr.nodes)/\Fine tr (xi p q l)/\PutAt l t l.length p q) l.length (λk s=>∃(tr:DTree) (p:DElem->Bool),s=(tr.root,tr.nodes,(k:Int))/\Fine tr (xi p q l)/\PutAt l t k p q) o_ ⟨tr,p,rfl,f,c2⟩ ?_ ?_ ?_
       . rintro k s hk ⟨tr,p,rfl,f,c⟩;obtain⟨e,he⟩:∃e,l[k]? = some e:=⟨_,gge hk⟩;obtain⟨tr',p',b1,b2,b3⟩:=JU (F:=F) yM h he c f;dsimp only;rw[decide_eq_true (show (k:Int)<(l.length:Int) by omega),wg,vX,he,vT,b1,vT,w64 o_ o_];exact⟨_,rfl,tr',p',by simp,b3,b2⟩
       . rintro s ⟨tr,p,rfl,f,c⟩;dsimp only;rw[decide_eq_false o_,vY];exact⟨_,rfl,tr,p,rfl,f,c⟩
       . rintro r ⟨tr,p,rfl,f,c⟩;refine⟨_,rfl,tr,p,q,by simp,f,λx hx=>?_,λx hx=>?_⟩
         . rw[c.p x hx,(De hts ht (hmade x hx)).2,x_];constructor
           . rintro(h1|h1) <;> omega
           . intro h1;rcases Int.lt_or_eq_of_le h1 with h1|h1
             . exact .inl h1
             . exact .inr ⟨h1,hx⟩
         . rw[c.q x hx,(De hts ht (hgone x hx)).2]
   . rintro s ⟨tr,p,q,rfl,f,hp,hq⟩;dsimp only;rw[decide_eq_false o_,vY];refine⟨_,rfl,tr,rfl,?_⟩
     rw[JM (λx hx=>(hp x hx).2 (by rw[x_];exact hmade x hx)) (λx hx hqx=>by
      by_cases h0:x.gone=0
      . exact h0
      . have:=(hq x hx).2 ⟨h0,by rw[x_];exact hgone x hx⟩
        rw[hqx] at this;cases this)] at f
     exact f
   . rintro r ⟨tr,rfl,f⟩;exact⟨tr,rfl,f⟩
end
end
section
variable {F:Nat} [Big F]
theorem KI:Run [⟨⟨0,0,1⟩,1,0,l_ #[97]⟩]:=xE.1 c_
theorem Kept.len {R:List ByteArray}{q:Nat}{t:DTree}(K:Kept R q t):R.length=201:=K.done.ok.len
end
section
open Go.ChangeShapes
section
variable {F:Nat} [Big F]
theorem KQ:DN [⟨⟨0,0,1⟩,1,0,l_ #[97]⟩] ⟨0,0,2⟩ (l_ #[98]) 1=0:=by decide
theorem KP:(putR [⟨⟨0,0,1⟩,1,0,l_ #[97]⟩] ⟨0,0,2⟩ (l_ #[98]) 1).length=2:=by decide
end
theorem zr (F:Nat)[Big F](l:List DElem)(k:DKey)(v:ByteArray)(n:Int)(kept:List Bool)(k0:DK 56 okElem l)(k1:okKey k)(k2:Lt v)(k2_:v.size<=reachBytes)(k3:Ar .i64 n)(k4:DK 1 (λ_=>True) kept):mc F l k v n kept=some true:=by
 have hb:kept.length<=9223372036854775807:=by have:=k4.1;unfold reachBytes at this;omega
 unfold mc;rw[K1,vT];obtain⟨t1,a1,f1⟩:=CL (F:=F) KI;rw[a1,vT];dsimp only;obtain⟨t2,b1,f2⟩:=Gw (F:=F) yM [] f1 ⟨0,0,2⟩ (l_ #[98]) 1 KQ;rw[b1,vT];dsimp only;rw[show ((0:Int) !=0)=false from rfl,vY,show j6 F (DTree.mk t2.root t2.nodes)=_ from f2.all,vT,vT,KP,vT,show (((2:Nat):Int) !=2)=false from rfl,vY,Ag,vT];by_cases hr:Bk l=0
 . have hR:=xE.1 hr;obtain⟨t,c1,f⟩:=CL (F:=F) hR;have fl:=Du (F:=F) Gb f o_;have kn:=Gb.next f o_;rw[hr,show ((0:Int) !=0)=false from rfl,vY,c1,vT];dsimp only;rw[fl,vT];dsimp only;rw[show ((0:Int) !=0)=false from rfl,vY,Gp,vT,hr];dsimp only;rw[show ((0:Int) !=0)=false from rfl,vY];obtain⟨t',l',c,d1,f'⟩:=IR (F:=F) (P4 0 yM (wG t) (yh yM t.nodes)) [] f k v (if (2147483647:Int)<(IntKind.i64.wrap ((if (0:Int)=0 then xl l else 0)+1)) then 2147483647 else IntKind.i64.wrap ((if (0:Int)=0 then xl l else 0)+1));rw[d1,vT,vT];dsimp only;by_cases hc:c=0
   . subst hc;rw[show ((0:Int) !=0)=false from rfl,vY,show j6 F (DTree.mk t'.root t'.nodes)=_ from f'.all,vT,vT];have fl2:=Du (F:=F) kn f' o_;rw[fl2,vT];dsimp only;generalize hS:yS (0+1) (P4 0 yM (wG t) (yh yM t.nodes)) (wG t') (yh (P4 0 yM (wG t) (yh yM t.nodes)) t'.nodes)=S;have hL:=zL (0+1) (P4 0 yM (wG t) (yh yM t.nodes)) (wG t') (yh (P4 0 yM (wG t) (yh yM t.nodes)) t'.nodes);have hch:(yh (P4 0 yM (wG t) (yh yM t.nodes)) t'.nodes).length<=100:=(by unfold yh;rw[f_];exact U_ (J_ _ _) (by rw[m4];exact f'.few));rw[hS] at hL;obtain⟨i,hi1,hi2⟩:=Kb (n:=n) (m:=(S.length:Int)) o_ o_;have hil:i<S.length:=o_;rw[show ((0:Int) !=0)=false from rfl,show ((S.length:Int)==0)=false by rw[beq_eq_false_iff_ne];omega,o6,vY,hi1,vT,vX,gge hil,vT];obtain⟨D,e1,R',t'',e2,e3⟩:=GN (F:=F) kn f f' o_ (e:=S[i]) (by rw[hS];exact M_ hil) kept hb
     have ft:∃l'',Fine t'' l''/\(l''=l\/l''=l'):=by
      rcases e3 with ⟨rfl,_⟩|⟨rfl,_⟩
      . exact⟨l,f,.inl rfl⟩
      . exact⟨l',f',.inr rfl⟩
     obtain⟨l'',f'',hl''⟩:=ft;have hll:=f''.run.len;rw[e1,vT];dsimp only;rw[show ((0:Int) !=0)=false from rfl,vY,e2,vT];dsimp only;rw[show j6 F (DTree.mk t''.root t''.nodes)=_ from f''.all,vT,vT,Jo l'' l o_,vT];by_cases h1:l''=l
     . rw[decide_eq_true h1,wg,vT]
     . have h2:=hl''.resolve_left h1;rw[decide_eq_false h1,vY];dsimp only;rw[vT,Jo l'' l' o_,vT,vT,decide_eq_true h2]
   . rw[wI hc,wg];rfl
 . rw[wI hr,wg]
end
section
open Go.RowKit
theorem JS:ownKnob Tryz.prog.godebug=none:=by kernel_rfl
theorem IJ:laidOutB Tryz.prog=true:=by kernel_rfl
theorem Lu:yf Tryz.prog 24 vR okKey:=IA Tryz.underlying24 (by kernel_rfl) rfl (by kernel_rfl) (zV Tryz.underlying3) rfl (by kernel_rfl) (zV Tryz.underlying3) rfl (by kernel_rfl) (zV Tryz.underlying3)
theorem Lz:yf Tryz.prog 28 eElem okElem:=Hj Tryz.underlying28 (by kernel_rfl) rfl (by kernel_rfl) Lu rfl (by kernel_rfl) (zV Tryz.underlying3) rfl (by kernel_rfl) (zV Tryz.underlying3) rfl (by kernel_rfl) (IB Tryz.underlying9)
theorem Ly:yf Tryz.prog 22 (ku eElem) (DK 56 okElem):=DL Tryz.underlying22 (by kernel_rfl) (by kernel_rfl) Lz
theorem LA:yf Tryz.prog 55 (ku eBool) (DK 1 (λ_=>True)):=DL Tryz.underlying55 (by kernel_rfl) (by kernel_rfl) (Hi Tryz.underlying4)
set_option maxRecDepth 100000
def orderSigns:List Char:=[.ofNat 104,.ofNat 97,.ofNat 114,.ofNat 110,.ofNat 101,.ofNat 115,.ofNat 115,.ofNat 32,.ofNat 56,.ofNat 55,.ofNat 52,.ofNat 53,.ofNat 49,.ofNat 51,.ofNat 54,.ofNat 50,.ofNat 97,.ofNat 100,.ofNat 55,.ofNat 101,.ofNat 102,.ofNat 56,.ofNat 99,.ofNat 51,.ofNat 57,.ofNat 50,.ofNat 101,.ofNat 100,.ofNat 53,.ofNat 57,.ofNat 100,.ofNat 54,.ofNat 50,.ofNat 56,.ofNat 55,.ofNat 102,.ofNat 97,.ofNat 48,.ofNat 49,.ofNat 55,.ofNat 100,.ofNat 102,.ofNat 53,.ofNat 50,.ofNat 56,.ofNat 56,.ofNat 54,.ofNat 101,.ofNat 50,.ofNat 56,.ofNat 52,.ofNat 100,.ofNat 51,.ofNat 48,.ofNat 101,.ofNat 53,.ofNat 49,.ofNat 53,.ofNat 50,.ofNat 99,.ofNat 98,.ofNat 54,.ofNat 97,.ofNat 57,.ofNat 100,.ofNat 51,.ofNat 50,.ofNat 100,.ofNat 48,.ofNat 99,.ofNat 97,.ofNat 53,.ofNat 32,.ofNat 99,.ofNat 117,.ofNat 116,.ofNat 32,.ofNat 97,.ofNat 116,.ofNat 32,.ofNat 97,.ofNat 110,.ofNat 110,.ofNat 97,.ofNat 108,.ofNat 105,.ofNat 115,.ofNat 116,.ofNat 47,.ofNat 97,.ofNat 110,.ofNat 110,.ofNat 97,.ofNat 108,.ofNat 107,.ofNat 101,.ofNat 101,.ofNat 112,.ofNat 46,.ofNat 83,.ofNat 116,.ofNat 111,.ofNat 114,.ofNat 101,.ofNat 79,.ofNat 119,.ofNat 110,.ofNat 32,.ofNat 97,.ofNat 110,.ofNat 110,.ofNat 97,.ofNat 108,.ofNat 105,.ofNat 115,.ofNat 116,.ofNat 47,.ofNat 97,.ofNat 110,.ofNat 110,.ofNat 97,.ofNat 108,.ofNat 107,.ofNat 101,.ofNat 101,.ofNat 112,.ofNat 46,.ofNat 83,.ofNat 116,.ofNat 111,.ofNat 114,.ofNat 101,.ofNat 83,.ofNat 116,.ofNat 101,.ofNat 112,.ofNat 115,.ofNat 32,.ofNat 97,.ofNat 110,.ofNat 110,.ofNat 97,.ofNat 108,.ofNat 105,.ofNat 115,.ofNat 116,.ofNat 47,.ofNat 97,.ofNat 110,.ofNat 110,.ofNat 97,.ofNat 108,.ofNat 107,.ofNat 101,.ofNat 101,.ofNat 112,.ofNat 46,.ofNat 83,.ofNat 116,.ofNat 111,.ofNat 114,.ofNat 101,.ofNat 72,.ofNat 111,.ofNat 108,.ofNat 100,.ofNat 115,.ofNat 32,.ofNat 97,.ofNat 110,.ofNat 110,.ofNat 97,.ofNat 108,.ofNat 105,.ofNat 115,.ofNat 116,.ofNat 47,.ofNat 97,.ofNat 110,.ofNat 110,.ofNat 97,.ofNat 108,.ofNat 107,.ofNat 101,.ofNat 101,.ofNat 112,.ofNat 46,.ofNat 83,.ofNat 116,.ofNat 111,.ofNat 114,.ofNat 101,.ofNat 76,.ofNat 97,.ofNat 122,.ofNat 121,.ofNat 32,.ofNat 97,.ofNat 110,.ofNat 110,.ofNat 97,.ofNat 108,.ofNat 105,.ofNat 115,.ofNat 116,.ofNat 47,.ofNat 97,.ofNat 110,.ofNat 110,.ofNat 97,.ofNat 108,.ofNat 107,.ofNat 101,.ofNat 101,.ofNat 112,.ofNat 46,.ofNat 83,.ofNat 116,.ofNat 111,.ofNat 114,.ofNat 101,.ofNat 65,.ofNat 103,.ofNat 97,.ofNat 105,.ofNat 110]
theorem Hk:Tryz.prog.initOrder = "harness 87451362ad7ef8c392ed59d6287fa017df52886e284d30e5152cb6a9d32d0ca5 cut at annalist/annalkeep.StoreOwn annalist/annalkeep.StoreSteps annalist/annalkeep.StoreHolds annalist/annalkeep.StoreLazy annalist/annalkeep.StoreAgain":=by kernel_rfl
theorem Gg:("harness 87451362ad7ef8c392ed59d6287fa017df52886e284d30e5152cb6a9d32d0ca5 cut at annalist/annalkeep.StoreOwn annalist/annalkeep.StoreSteps annalist/annalkeep.StoreHolds annalist/annalkeep.StoreLazy annalist/annalkeep.StoreAgain" : String)=String.ofList orderSigns:=by kernel_rfl
theorem BB:Tryz.prog.initOrder.toList=orderSigns:=by rw[Hk,Gg];exact String.toList_ofList
theorem Kv (P:Program)(h:P.initOrder.toList=orderSigns):P.make=some .cut:=by unfold Program.make Program.headLifts;rw[h];kernel_rfl
theorem JE (P:Program)(h:P.initOrder.toList=orderSigns):P.liftsFinal=false:=by unfold Program.liftsFinal Program.headLifts;rw[h];kernel_rfl
theorem Jn (P:Program)(h:P.initOrder.toList=orderSigns)(h1:P.laysLater=false)(h2:P.bearsReflect=false)(h3:P.doorFits []=true):P.mayEnter=true:=by
 unfold Program.mayEnter
 rw[h,h1,h2]
 have e:(stripLifts liftWords (behindMainWord (wordsSigns orderSigns))).1=[]:=by kernel_rfl
 have e0:behindMainWord (wordsSigns orderSigns) = "cut".toList::(behindMainWord (wordsSigns orderSigns)).tail:=by kernel_rfl
 rw[e0] at e ⊢
 dsimp only
 rw[e,h3]
 clear h h1 h2 h3
 change _=true
 kernel_rfl
theorem IK:Tryz.prog.make=some .cut:=Kv _ BB
theorem Ho:Tryz.prog.liftsFinal=false:=JE _ BB
theorem Hn:Tryz.prog.mayEnter=true:=Jn _ BB (by kernel_rfl) (by kernel_rfl) (by kernel_rfl)
end
end
end Go.Proofs.YtnofgfobljadbaaGreat
