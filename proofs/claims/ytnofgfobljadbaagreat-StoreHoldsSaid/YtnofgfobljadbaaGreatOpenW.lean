/- Plain Lean: what the editors' contracts compute is what the plain laws speak of. Its conditions: none. -/
import Derived.Test.YtnofgfobljadbaaGreatPRemW
import Derived.Test.YtnofgfobljadbaaGreatWStoreHoldsLW
open Option renaming bind→a_, bind_assoc→d_, some→F_, map_eq_some_iff→o5
open List renaming mem_filter→f_, length_append→g_, length_map→i_, mem_cons_self→p_, mem_append→t_, flatMap_cons→u_, mem_singleton→v_, take_length→x_, length_cons→z_, mem_cons_of_mem→B_, mem_of_getElem?→C_, length_singleton→D_, nil_append→G_, length_drop→I_, length_nil→J_, length_set→K_, length_take→L_, mem_map→M_, flatMap_append→N_, take_append_drop→O_, take_add_one→Q_, pairwise_map→R_, length_filter_le→S_, length_flatMap→T_, map_cons→U_, flatMap_singleton→W_, pairwise_cons→X_, mem_iff_getElem?→Y_, find?_cons→Z_, length_replicate→g6, getElem_of_mem→g8, set_set→g9, getElem_mem→l7, pairwise_append→l9, replicate→m4, pairwise_iff_getElem→n9, length_filter_lt_length_iff_exists→o6, filter_cons_of_pos→o7, filter_cons_of_neg→o8, take_of_length_le→p6, drop_eq_getElem_cons→p7, mem_of_mem_drop→p8, mem_take_iff_getElem→t6, mem_zipIdx_iff_getElem?→v6
open Sum renaming inr→j_, inl→H_
open Nat renaming zero_le→l_, le_refl→q_, le_trans→m0, lt_or_ge→m9
open Int renaming le_refl→y_, toNat_natCast→V_
open Bool renaming not_true→E_, and_eq_true_iff→t7
open ByteArray renaming mk→P_
namespace Go.Proofs.YtnofgfobljadbaaGreat
set_option linter.unusedSimpArgs false
set_option linter.unusedVariables false
section
section
variable {F:Nat}
theorem ED {α:Type}(x:Option α):(x.bind λz=>some z)=x:=by cases x <;> rfl
theorem DZ (root:Int)(N:NL)(i:Int)(e:DElem):j7 F root N i e=qc (Ax F e) F (N,i):=ED _
theorem H8 (root:Int)(N:NL)(i:Int)(e:DElem):kW F root N i e=qc (Bt F e) F (N,i):=by refine Eq.trans ?_ (ED (qc (Bt F e) F (N,i)));refine congrArg (λg=>(qc g F (N,i)).bind λz=>some z) (funext λrf=>funext λx=>?_);rfl
theorem KK (root:Int)(N:NL)(e:DElem):lw F root N e=Gm F e N root:=by unfold lw Gm;rw[H8];rfl
theorem Bz (N:NL)(i:Int):(ja N i).length=N.length:=K_
theorem Kr {N:NL}{a b:Int}{x y:DNode}(h:a.toNat≠b.toNat):jA (jA (ja (ja N a) b) a x) b y=jA (jA (ja N a) a x) b y:=by unfold jA;rw[show ja (ja N a) b=(ja N a).set b.toNat (.inl ((((ja N a)[b.toNat]?).map tD).getD 0)) from rfl,List.set_comm _ _ (Ne.symm h),g9]
theorem Hr {N M:NL}{i:Int}(h:N.length=M.length):ll N i=ll M i:=by unfold ll;rw[h]
theorem K5 {N:NL}{a b:Int}{n:DNode}(h:kI (ja N a) b=some n):a.toNat≠b.toNat:=λe=>by
 obtain⟨_,h2⟩:=nU h;rw[<-e] at h2;have hl:a.toNat<N.length:=by have:=(ggs.1 h2).1;rwa[Bz] at this
 unfold ja at h2;rw[List.getElem?_set_self hl] at h2;cases h2
theorem Kh (n m:DNode)(s:DSpot):mL n.kind n.elems n.kids n.seps n.tids m.kind m.elems m.kids m.seps m.tids s=FQ n m s:=rfl
theorem Ka (root:Int)(n:DNode)(r10 r11:Int)(N:NL):kX F root N n.kind n.elems n.kids n.seps (n.tids.set r10.toNat r11) r10=(Dj F n r10 r11 N).bind λz=>some (z.2.2.2,z.1,z.2.1,z.2.2.1):=by
 unfold kX Dj;rw[d_];refine congrArg (a_ _) (funext λz=>?_);rw[d_];refine congrArg (a_ _) (funext λa=>?_);rw[d_];refine congrArg (a_ _) (funext λb=>?_);rw[d_]
 cases h1:kI N a with
 |none=>rfl
 |some n1 =>
 rw[obs,obs,d_]
 cases h2:kI (ja N a) b with
 |none=>rfl
 |some n2 =>
 have hne:=K5 h2;rw[obs,obs,d_];refine congrArg (a_ _) (funext λx=>?_);rw[d_,Kh];refine congrArg (a_ _) (funext λX=>?_);rw[d_];have hh:∀q,ll (ja (ja N a) b) q=ll (ja N a) q:=λq=>Hr (Bz _ _);have hp:∀q y,ll (jA (ja (ja N a) b) a y) q=ll (jA (ja N a) a y) q:=λq y=>Hr (by rw[vY,vY,Bz]);simp only[hh,hp,Kr hne];refine Eq.trans (b:=(Jw F n r10 r11 N z a b n1 n2 X).bind λz'=>(kI z'.2.2.2 a).bind λn7=>(jw F n7).bind λr24=>(idx z'.2.2.1 z).bind λ_=>some (z'.2.2.2,z'.1,z'.2.1,z'.2.2.1.set z.toNat r24)) rfl ?_;refine congrArg (a_ _) (funext λq=>?_);obtain⟨q1,q2,q3,q4⟩:=q;dsimp only;rw[d_];refine congrArg (a_ _) (funext λn7=>?_);rw[d_];refine congrArg (a_ _) (funext λg=>?_);rw[d_];rfl
set_option maxHeartbeats 4000000 in
theorem Iy (root:Int)(N:NL)(i:Int)(s:DSpot):kK F root N i s=qc (CQ F s) F (N,i):=by
 refine Eq.trans ?_ (ED (qc (CQ F s) F (N,i)));refine congrArg (λg=>(qc g F (N,i)).bind λz=>some z) (funext λrf=>funext λx=>?_);obtain⟨x1,x2⟩:=x;show a_ (kI x1 x2) _=a_ (kI x1 x2) _
 cases kI x1 x2 with
 |none=>rfl
 |some n =>
 rw[obs,obs];refine congr (congrArg (λa b=>bif n.kind==1 then a else b) ?_) ?_
 . exact congrArg (λq=>a_ q _) (show _=J6 F n.elems s from rfl)
 . refine congrArg (a_ _) (funext λw=>?_);refine congrArg (a_ _) (funext λk=>?_);refine congrArg (a_ _) (funext λN2=>?_);refine congrArg (a_ _) (funext λk2=>?_);refine congrArg (a_ _) (funext λn4=>?_);refine congrArg (a_ _) (funext λg=>?_);refine congrArg (a_ _) (funext λt=>?_);refine congrFun (congrArg a_ ?_) _;unfold Kt
   cases decide ((IntKind.i64.wrap ((n4.elems.length:Int)+(n4.kids.length:Int)))<4) with
   |false=>rfl
   |true=>rw[cond_true,cond_true,Ka,d_];refine congrArg (a_ _) (funext λq=>?_);obtain⟨q1,q2,q3,q4⟩:=q;rfl
theorem KL (root:Int)(N:NL)(s:DSpot):lZ F root N s=Il F s N root:=by unfold lZ Il;rw[Iy]
end
section
variable {F:Nat} [Big F]
theorem EQ {n:DNode}(h:wq n=0):pH n=some n:=by
 obtain⟨h1,h2⟩:=yi h
 have h3:n.seps.length<=8/\n.tids.length<=8:=by
  rcases wy.1 h with h|h|h
  . rw[h.2.2.2.1,h.2.2.2.2];simp
  . rw[h.2.seps,h.2.tids];simp
  . have:=h.2.seps;have:=h.2.tids;omega
 unfold pH;rw[wo (by simp;omega) (by simp;omega),obs,wo (by simp;omega) (by simp;omega),obs,wo (by simp;omega) (by simp;omega),obs,wo (by simp;omega) (by simp;omega),obs];rfl
theorem CS {N:NL}(h:∀(j:Nat) (k:Int),N[j]?≠some (.inl k)):qY N=some (fN N):=by
 have e:N=(fN N).map j_:=List.ext_getElem? λj=>by
  rw[List.getElem?_map,Az]
  cases hj:N[j]? with
  |none=>rfl
  |some x =>
   cases x with
   |inl k=>exact absurd hj (h j k)
   |inr n=>rfl
 conv=>lhs;rw[e]
 exact vo _
theorem Ae {t:DTree}(hl:t.nodes.length<=400)(hc:∀n∈t.nodes,wq n=0):mz F t=some t:=by
 unfold mz;rw[wB (λk=>((t.nodes.take k).map (j_:DNode->Int⊕DNode),(k:Int))) t.nodes.length s_ o_ (λk hk=>?_) (r:=t.nodes.map j_) ?_,obs,vo,obs]
 . dsimp only;rw[decide_eq_false o_,cond_false,x_]
 . have hg:t.nodes[k]? = some t.nodes[k]:=gge hk;have hr:tE 104 (((t.nodes.take k).map (j_:DNode->Int⊕DNode)).length+1)=some ():=by unfold tE;rw[i_,L_,if_pos ⟨by omega,by unfold maxLen;omega⟩]
   dsimp only;rw[decide_eq_true o_,cond_true,vX,hg,obs,EQ (hc _ (l7 _)),obs,hr,obs,w64 o_ o_,Q_,hg,List.map_append];rfl
def nlT (t:DTree):NL:=t.nodes.map j_
theorem xc (t:DTree):fN (nlT t)=t.nodes:=KR _
theorem Ct {t:DTree}{j:Nat}{x:Int⊕DNode}(h:(nlT t)[j]? = some x):∃n,t.nodes[j]? = some n/\x=.inr n:=by unfold nlT at h;rw[List.getElem?_map] at h;obtain⟨n,hn,rfl⟩:=o5.1 h;exact⟨n,hn,rfl⟩
theorem Dm {t:DTree}{h:Nat}(g:Good t h):xq (nlT t):=λn hn=>by rw[xc] at hn;exact g.chk n hn
theorem AB {t:DTree}{h:Nat}(g:Good t h):wn (fN (nlT t)) h t.root (mOf 0 h) topS:=by rw[xc];exact(CY g.chk h t.root 0 topS (y_ _)).1 g.ok
theorem FH {α:Type}{p:α->Bool}:∀ {N:List α} {K:List Nat},K.Nodup->(∀(j:Nat) (x:α),N[j]? = some x->p x=true->j∈K)->N.countP p<=K.length
 |[],K,_,_=>l_ _
 |a::N,K,hn,h=>by
  have hK:∀(j:Nat) (x:α),N[j]? = some x->p x=true->j∈(K.filter (λj=>j !=0)).map (· - 1):=λj x hx hp =>
   M_.2 ⟨j+1,f_.2 ⟨h (j+1) x (by simpa using hx) hp,by simp⟩,by simp⟩
  have hnd:((K.filter (λj=>j !=0)).map (· - 1)).Nodup:=by unfold List.Nodup;rw[R_];refine((hn.filter _).imp_of_mem λ{a b} ha hb hab e=>hab ?_);have h1:=(f_.1 ha).2;have h2:=(f_.1 hb).2;simp only[bne_iff_ne,ne_eq] at h1 h2;omega
  have ih:=FH hnd hK;rw[i_] at ih;rw[List.countP_cons];by_cases hp:p a=true
  . have h0:0∈K:=h 0 a rfl hp;have hlt:(K.filter (λj=>j !=0)).length<K.length:=o6.2 ⟨0,h0,by simp⟩;rw[if_pos hp];omega
  . have:=S_ (λj=>j !=0) K;rw[if_neg hp];omega
theorem HZ {t:DTree}{h:Nat}(g:Good t h):used (nlT t)<=(ids t.nodes h t.root).length:=by refine FH g.nodup λj x hx hp=>?_;obtain⟨n,hn,rfl⟩:=Ct hx;have hlt:=(ggs.1 hn).1;exact g.all j hlt (by rw[B7 hn];exact yx.1 hp)
theorem Kc {ns:List DNode}(hns:∀n∈ns,wq n=0):∀ {h:Nat} {i:Int} {s:Span},wn ns h i 4 s->3*(ids ns h i).length+1<=(vS ns h i).length:=by
 intro h
 induction h with
 |zero=>intro i s c;have:=c.2.2.1;simp only[ids,vS,D_];omega
 |succ h ih =>
  intro i s c;rw[ids,vS,z_,T_,T_]
  have key:∀l:List Int,(∀k∈l,3*(ids ns h k).length+1<=(vS ns h k).length)->3*(l.map λa=>(ids ns h a).length).sum+l.length<=(l.map λa=>(vS ns h a).length).sum:=by
   intro l
   induction l with
   |nil=>intro _;simp
   |cons a l ihl=>intro hk;have:=ihl λk h=>hk k (B_ _ h);have:=hk a p_;simp only[U_,List.sum_cons,z_];omega
  have:=key (nd ns i).kids λk hk=>by obtain⟨t,s',x,_⟩:=c.2.2.2.mem k hk;exact ih x.1
  have:=c.2.2.1;omega
theorem Jh {t:DTree}{h:Nat}(g:Good t h)(hl:(vS t.nodes h t.root).length<=400):(ids t.nodes h t.root).length<=134/\h<134:=by
 have hh:=Bq g.chk h t.root 0 topS g.ok;have c:=AB g;rw[xc] at c
 have:(ids t.nodes h t.root).length<=134:=by
  cases h with
  |zero=>simp[ids]
  |succ h =>
   have key:∀l:List Int,(∀k∈l,3*(ids t.nodes h k).length+1<=(vS t.nodes h k).length)->3*(l.map λa=>(ids t.nodes h a).length).sum+l.length<=(l.map λa=>(vS t.nodes h a).length).sum:=by
    intro l
    induction l with
    |nil=>intro _;simp
    |cons a l ihl=>intro hk;have:=ihl λk h=>hk k (B_ _ h);have:=hk a p_;simp only[U_,List.sum_cons,z_];omega
   have h1:=key (nd t.nodes t.root).kids λk hk=>by obtain⟨t',s',x,_⟩:=c.2.2.2.mem k hk;exact Kc g.chk x.1
   have h2:2<=(nd t.nodes t.root).kids.length:=(by have:=c.2.2.1;unfold mOf at this;simpa using this);rw[vS,T_] at hl;rw[ids,z_,T_];omega
 omega
theorem CV {N:NL}{h:Nat}{root:Int}(hc:xq N)(hl:N.length<=400)(c:wn (fN N) h root (mOf 0 h) topS)(hn:(ids (fN N) h root).Nodup)(hall:∀(j:Nat) (x:Int⊕DNode),N[j]? = some x->tD x≠0->j∈ids (fN N) h root):Good ⟨root,fN N⟩ h:=by
 refine⟨by show (fN N).length<=400;rw[wb];exact hl,hc,(CY hc h root 0 topS (y_ _)).2 c,hn,λi hi hk=>?_⟩;have hi':i<(fN N).length:=hi;rw[wb] at hi';have hg:N[i]? = some N[i]:=gge hi';refine hall i _ hg λh0=>hk ?_;have:nd (fN N) (i:Int)=fN1 N[i]:=by unfold nd;rw[V_,Az,hg];rfl
 rw[this]
 cases hx:N[i] with
 |inl k=>rfl
 |inr n=>rw[hx] at h0;exact h0
theorem KZ (d:Int)(h:Nat):mOf d h<=4:=by
 unfold mOf;split
 . exact q_ _
 . split <;> omega
theorem F1 {t:DTree}{h:Nat}(g:Good t h){N':NL}{K:List Nat}{c:Nat}(f:Fr2 (nlT t) N' (ids (fN (nlT t)) h t.root) K c)(hK:∀j∈K,∃n:DNode,N'[j]? = some (.inr n)/\n.kind≠0):∀(j:Nat) (k:Int),N'[j]?≠some (.inl k):=λj k hj=>by
 have hold:∀(j:Nat) (x:Int⊕DNode),(nlT t)[j]? = some x->tD x≠0->j∈ids (fN (nlT t)) h t.root:=λj x hx hk=>by obtain⟨n,hn,rfl⟩:=Ct hx;rw[xc];exact g.all j (ggs.1 hn).1 (by rw[B7 hn];exact hk)
 by_cases hk:k=0
 . subst hk;obtain⟨n,_,h⟩:=Ct (f.zero j hj);cases h
 . rcases f.all j _ hj hk with h|⟨h,y,hy,hyk⟩
   . obtain⟨n,hn,_⟩:=hK j h;rw[hn] at hj;cases hj
   . exact h (hold j y hy hyk)
theorem Hl {t:DTree}{h:Nat}(g:Good t h){N':NL}{K:List Nat}{c:Nat}(f:Fr2 (nlT t) N' (ids (fN (nlT t)) h t.root) K c):∀(j:Nat) (x:Int⊕DNode),N'[j]? = some x->tD x≠0->j∈K:=λj x hx hk=>by
 rcases f.all j x hx hk with h|⟨h,y,hy,hyk⟩
 . exact h
 . obtain⟨n,hn,rfl⟩:=Ct hy;exact absurd (by rw[xc];exact g.all j (ggs.1 hn).1 (by rw[B7 hn];exact hyk)) h
theorem HN {t:DTree}{h:Nat}{e:DElem}(g:Good t h)(he:wa e=0)(hne:∀x∈vS t.nodes h t.root,vU x≠vU e)(hl:(vS t.nodes h t.root).length<=400) :
 ∃(root:Int) (N:NL),Gm F e (nlT t) t.root=some (root,N)/\qY N=some (fN N)/\∃h',Good ⟨root,fN N⟩ h'/\vS (fN N) h' root=GG (vS t.nodes h t.root) e:=by
 obtain⟨f1,f2⟩:=Jh g hl;have hu:=HZ g;have hF:=(inferInstance:Big F).le;have c:=AB g;have hsort:=(xm g.chk h t.root 0 topS g.ok).1;have hlen:(nlT t).length<=400:=by unfold nlT;rw[i_];exact g.len
 obtain⟨N',sp,r,b,hrun,hpost⟩:=Jk (F:=F) he h F (nlT t) t.root (mOf 0 h) topS o_ (Dm g) hlen o_ c (by rw[xc];exact g.nodup) rfl (by rw[xc];exact hne)
 have sorted:∀ {ns:List DNode} {h':Nat} {root:Int},Good ⟨root,ns⟩ h'->(∀x,x∈vS ns h' root↔x=e\/x∈vS t.nodes h t.root)->vS ns h' root=GG (vS t.nodes h t.root) e:=λ{ns h' root} gg hm=>by
  refine Fb (xm gg.chk h' root 0 topS gg.ok).1 (CJ hsort e) λx=>?_;rw[hm x,FZ];constructor
  . rintro(h|h)
    . exact .inl h
    . exact .inr ⟨h,hne x h⟩
  . rintro(h|h)
    . exact .inl h
    . exact .inr h.1
 unfold Gm;rw[hrun,obs];dsimp only;rcases hpost with ⟨rfl,P⟩|⟨rfl,hsp,P⟩
 . obtain⟨k,t',e1,e2,x⟩:=P.ch;obtain rfl:t.root=k:=by simpa using e1
   have hK:[t.root].flatMap (ids (fN N') h)=ids (fN N') h t.root:=W_ ..;have fr:=P.fr;rw[hK] at fr;have hcap:N'.length<=400:=(by have:=fr.cap;have:=fr.use;omega);have gg:=CV fr.chk hcap x.1 fr.nodup (Hl g fr);refine⟨t.root,N',rfl,CS (F1 g fr x.1.used),h,gg,sorted gg λy=>?_⟩;have:=P.elems y;rw[W_,xc] at this;exact this
 . obtain⟨k,ks',t',ts',e1,e2,i1,x,k2,t2,e3,e4,y⟩:=P.ch;obtain⟨rfl,rfl⟩:t.root=k/\[r]=ks':=by simpa using e1
   obtain rfl:r=k2:=(by simpa using e3);have hK:[t.root,r].flatMap (ids (fN N') h)=ids (fN N') h t.root++ids (fN N') h r:=s_;have fr:=P.fr;rw[hK] at fr;have hcap:N'.length<=400:=by have:=fr.cap;have:=fr.use;omega
   have hKu:∀q∈ids (fN N') h t.root++ids (fN N') h r,∃n:DNode,N'[q]? = some (.inr n)/\n.kind≠0:=λq hq=>by
    rcases t_.1 hq with hq|hq
    . exact x.1.used q hq
    . exact y.1.used q hq
   obtain⟨N2,j,hT,tk⟩:=Gh (F:=F) (N:=N') ⟨2,[],[t.root,r],[sp],[wd (nd (fN N') t.root),wd (nd (fN N') r)]⟩ o_;have cc:Ch (BL (fN N') h) [sp] topS [t.root,r] [wd (nd (fN N') t.root),wd (nd (fN N') r)]:=⟨t.root,[r],_,_,rfl,rfl,i1,⟨x.1,rfl⟩,r,_,rfl,rfl,⟨y.1,rfl⟩⟩;have hck:=wK (n:=⟨2,[],[t.root,r],[sp],[wd (nd (fN N') t.root),wd (nd (fN N') r)]⟩) rfl (yf fr.chk hcap cc s_ s_ (List.pairwise_singleton _ _) (by simpa using hsp));have fr2:=fr.take tk (Cz _ _ _ _) hck λq hq=>by obtain⟨n,hn,hk⟩:=hKu q hq;exact⟨_,hn,hk⟩
   have hlen2:N'.length<=N2.length:=(by rcases tk.len with h|⟨h,_⟩ <;> omega);have hjK:∀q∈ids (fN N') h t.root++ids (fN N') h r,N2[q]? = N'[q]?:=λq hq=>tk.same q λe=>by subst e;obtain⟨n,hn,hk⟩:=hKu q hq;exact absurd (tk.free _ hn) hk
   obtain⟨a1,a2,a3⟩:=xu hlen2 cc λq hq=>hjK q (by rw[hK] at hq;exact hq);have hnd:nd (fN N2) (j:Int)=⟨2,[],[t.root,r],[sp],[wd (nd (fN N') t.root),wd (nd (fN N') r)]⟩:=Al (by rw[V_];exact tk.at_);have hjl:j<N2.length:=(ggs.1 tk.at_).1;have hids:ids (fN N2) (h+1) (j:Int)=j::(ids (fN N') h t.root++ids (fN N') h r):=(by rw[ids,hnd,V_];show j::[t.root,r].flatMap _=_;rw[a2,hK]);have sub:wn (fN N2) (h+1) (j:Int) (mOf 0 (h+1)) topS:=⟨by rw[wb];omega,by rw[hnd],by rw[hnd];unfold mOf;simp,by rw[hnd];exact a1⟩;rw[<-hids] at fr2;have hcap2:N2.length<=400:=(by have:=fr2.cap;have:=fr2.use;omega);have gg:=CV fr2.chk hcap2 sub fr2.nodup (Hl g fr2);refine⟨(j:Int),N2,?_,CS (F1 g fr2 sub.used),h+1,gg,sorted gg λz=>?_⟩
   . rw[E_,cond_false,x.1.node.1,obs,y.1.node.1,obs,wY fr.chk x.1.range,obs,wY fr.chk y.1.range,obs,Fc,hT,obs]
   . have:=P.elems z;rw[xc] at this;rw[<-this,vS,hnd];show z∈[t.root,r].flatMap _↔_;rw[a3]
theorem De {t:DTree}{h:Nat}{e:DElem}(g:Good t h)(he:wa e=0) :
 ∃N:NL,qc (Ax F e) F (nlT t,t.root)=some N/\qY N=some (fN N)/\Good ⟨t.root,fN N⟩ h/\vS (fN N) h t.root=(vS t.nodes h t.root).map (xQ e):=by
 have hF:=(inferInstance:Big F).le;have hh:=yr g;obtain⟨N,hrun,P⟩:=IZ (F:=F) he h F (nlT t) t.root (mOf 0 h) topS o_ (Dm g) (AB g) (by rw[xc];exact g.nodup) rfl;have hn:(ids (fN N) h t.root).Nodup:=by rw[P.ids,xc];exact g.nodup
 have hin:∀(j:Nat) (x:Int⊕DNode),N[j]? = some x->(∃n,x=.inr n)/\(tD x≠0->j∈ids (fN N) h t.root):=λj x hx=>by
  by_cases hj:j∈ids (fN N) h t.root
  . obtain⟨n,hn,_⟩:=P.sub.used j hj;rw[hn] at hx;exact⟨⟨n,(F_.inj hx).symm⟩,λ_=>hj⟩
  . rw[P.out j (by rw[<-P.ids];exact hj)] at hx;obtain⟨n,hn,rfl⟩:=Ct hx
    exact⟨⟨n,rfl⟩,λhk=>by
     rw[P.ids,xc]
     exact g.all j (ggs.1 hn).1 (by rw[B7 hn];exact hk)⟩
 refine⟨N,hrun,CS λj k hj=>?_,CV P.chk ?_ P.sub hn λj x hx=>(hin j x hx).2,?_⟩
 . obtain⟨⟨n,hn⟩,_⟩:=hin j _ hj;cases hn
 . rw[P.len];unfold nlT;rw[i_];exact g.len
 . rw[P.elems,xc]
theorem HW {α β:Type}(f:α->List β){l:List α}{k:Nat}(hk:k<l.length):(l.take (k+1)).flatMap f=(l.take k).flatMap f++f l[k]/\((l.take k).flatMap f).length+(f l[k]).length<=(l.flatMap f).length:=by
 have h1:(l.take (k+1)).flatMap f=(l.take k).flatMap f++f l[k]:=by rw[Q_,gge hk,N_];simp
 refine⟨h1,?_⟩;have h2:l.flatMap f=(l.take (k+1)).flatMap f++(l.drop (k+1)).flatMap f:=by rw[<-N_,O_]
 rw[h2,h1,g_,g_];omega
theorem D6 {t:DTree}{h:Nat}(g:Good t h):(vS t.nodes h t.root).Pairwise SpO:=(xm g.chk h t.root 0 topS g.ok).1
theorem zH {t:DTree}{h:Nat}(g:Good t h):∀n∈t.nodes,Small n:=λn hn=>xo (g.chk n hn)
def newT:DTree:=⟨0,[⟨1,[],[],[],[]⟩]⟩
theorem Bb:Good newT 0:=by
 have hc:wq ⟨1,[],[],[],[]⟩=0:=wy.2 (.inr (.inl ⟨rfl,⟨rfl,rfl,rfl,l_ _,λe he=>(by cases he),List.Pairwise.nil⟩⟩));refine⟨by simp[newT],λn hn=>?_,⟨⟨by decide,by simp[newT]⟩,rfl,λh=>absurd h c_,λx hx=>(by cases hx)⟩,by simp[newT,ids],λi hi _=>?_⟩
 . obtain rfl:n=⟨1,[],[],[],[]⟩:=by simpa[newT] using hn
   exact hc
 . simp[newT,ids] at hi ⊢;exact hi
end
section
variable {F:Nat} [Big F]
theorem AS {t:DTree}{h h':Nat}{root':Int}{N':NL}(g:Good t h)(len:N'.length=(nlT t).length)(out:∀j:Nat,j∉ids t.nodes h t.root->N'[j]? = (nlT t)[j]?)(chk:xq N')(sub:wn (fN N') h' root' (mOf 0 h') topS)
 (perm:∃Z,(ids t.nodes h t.root).Perm (Z++ids (fN N') h' root')/\∀j∈Z,N'[j]? = some (.inr zN)):qY N'=some (fN N')/\Good ⟨root',fN N'⟩ h':=by
 obtain⟨Z,hZ,hz⟩:=perm
 have key:∀(j:Nat) (x:Int⊕DNode),N'[j]? = some x->(∃n,x=.inr n)/\(tD x≠0->j∈ids (fN N') h' root'):=λj x hx=>by
  by_cases hj:j∈ids t.nodes h t.root
  . rcases t_.1 (hZ.mem_iff.1 hj) with hj|hj
    . rw[hz j hj] at hx;obtain rfl:=F_.inj hx;exact⟨⟨_,rfl⟩,λhk=>absurd rfl hk⟩
    . obtain⟨n,hn,_⟩:=sub.used j hj;rw[hn] at hx;exact⟨⟨n,(F_.inj hx).symm⟩,λ_=>hj⟩
  . rw[out j hj] at hx;obtain⟨n,hn,rfl⟩:=Ct hx;exact⟨⟨n,rfl⟩,λhk=>absurd (g.all j (ggs.1 hn).1 (by rw[B7 hn];exact hk)) hj⟩
 refine⟨CS λj k hj=>?_,CV chk ?_ sub ?_ λj x hx=>(key j x hx).2⟩
 . obtain⟨⟨n,hn⟩,_⟩:=key j _ hj;cases hn
 . rw[len];unfold nlT;rw[i_];exact g.len
 . exact(List.nodup_append.1 (hZ.nodup_iff.1 g.nodup)).2.1
theorem F6 {N:NL}{i:Int}{n:DNode}(h:N[i.toNat]? = some (.inr n)):jA (ja N i) i n=N:=by
 refine List.ext_getElem? λj=>?_;by_cases hj:j=i.toNat
 . subst hj;rw[wH _ (by rw[vW];exact(ggs.1 h).1),h]
 . rw[wm _ hj,wz _ hj]
theorem Im {t:DTree}{h:Nat}{sp:DSpot}(g:Good t h) :
 ∃(root:Int) (N:NL),Il F sp (nlT t) t.root=some (N,root)/\qY N=some (fN N)/\∃h',Good ⟨root,fN N⟩ h'/\vS (fN N) h' root=(vS t.nodes h t.root).filter (yI sp):=by
 have hF:=(inferInstance:Big F).le;have hfu:=yr g;have hc:=Dm g;have c:=AB g;have hlen:(nlT t).length<=400:=by unfold nlT;rw[i_];exact g.len
 have hnd:(ids (fN (nlT t)) h t.root).Nodup:=by rw[xc];exact g.nodup
 have hr:=c.range;rw[wb] at hr;unfold Il
 cases h with
 |zero=>obtain⟨N',hrun,P⟩:=F9 (F:=F) sp 0 F (nlT t) t.root 0 topS o_ hc hlen (.inl rfl) c hnd rfl;have c':wn (fN N') 0 t.root 0 topS:=P.sub;have L:=c'.leaf P.chk;obtain⟨q1,q2⟩:=c'.node;obtain⟨r1,r2⟩:=AS g P.len (λj hj=>P.out j (by rw[xc];exact hj)) P.chk c' (by obtain⟨Z,hZ,hz⟩:=P.perm;rw[xc] at hZ;exact⟨Z,hZ,hz⟩);refine⟨t.root,N',?_,r1,0,r2,by rw[P.elems,xc]⟩;rw[hrun,obs,q1,obs,L.kids,show (((([]:List Int).length:Int))==1)=false from rfl,cond_false,obs,F6 q2]
 |succ h =>
  obtain⟨f,hf⟩:∃f,F=f+1:=⟨F-1,by omega⟩;obtain⟨N3,K,X,T,hrun,M⟩:=HC (F:=F) (F9 sp h) (mf:=f) o_ hc hlen c hnd rfl;rw[<-hf] at hrun;have hids:ids t.nodes (h+1) t.root=t.root.toNat::(nd t.nodes t.root).kids.flatMap (ids t.nodes h):=rfl;have hels:vS t.nodes (h+1) t.root=(nd t.nodes t.root).kids.flatMap (vS t.nodes h):=rfl;have hMe:=M.elems;obtain⟨Z,hZ,hz⟩:=M.perm;rw[xc] at hMe hZ;have hn1:=g.nodup;rw[hids] at hn1;obtain⟨n1,n2⟩:=List.nodup_cons.1 hn1;have hl3:=M.len;have h2:2<=(nd t.nodes t.root).kids.length:=by have:=c.2.2.1;rw[xc] at this;unfold mOf at this;simpa using this
  have hmore:=M.more;rw[xc] at hmore;have hget:(jA N3 t.root ⟨2,[],K,X,T⟩)[t.root.toNat]? = some (.inr ⟨2,[],K,X,T⟩):=wH _ (by rw[hl3];omega);have hnode:kI (jA N3 t.root ⟨2,[],K,X,T⟩) t.root=some ⟨2,[],K,X,T⟩:=by unfold kI;rw[if_neg o_,hget];rfl
  rw[hrun,obs,hnode,obs];dsimp only;by_cases h1:K.length=1
  . obtain⟨k,rfl⟩:=List.length_eq_one_iff.1 h1;obtain⟨X0,hX0⟩:∃X0,X0=X:=⟨_,rfl⟩;have hXl:=M.ch.lens.1;obtain rfl:X=[]:=List.eq_nil_of_length_eq_zero (by simpa using hXl);obtain⟨k',t',e1,e2,q⟩:=M.ch;obtain rfl:k=k':=by simpa using e1
    have hkn:∀j∈ids (fN N3) h k,j≠t.root.toNat:=λj hj e=>n1 (hZ.mem_iff.2 (List.mem_append_right _ (by rw[W_,<-e];exact hj)));have hN:jA (ja (jA N3 t.root ⟨2,[],[k],[],T⟩) t.root) t.root zN=jA N3 t.root zN:=(by unfold jA ja;rw[g9,g9]);obtain⟨a1,a2,a3,a4⟩:=wn.agree (N':=jA N3 t.root zN) (by rw[vY];exact q_ _) q.1 λj hj=>wm N3 (hkn j hj);rw[W_] at hMe hZ
    obtain⟨r1,r2⟩:=AS (root':=k) g (by rw[vY];exact hl3) (λj hj=>by
     have:=M.out j (by rw[xc];exact hj);rw[hids,List.mem_cons,not_or] at hj
     rw[wm N3 hj.1,this]) (M.chk.put Hi) (a1.weak (KZ 0 h)) ⟨t.root.toNat::Z,by rw[hids,a2];exact List.Perm.cons _ hZ,λj hj=>by
     rcases List.mem_cons.1 hj with rfl|hj
     . exact wH _ (by rw[hl3];omega)
     . rw[wm N3 (show j≠t.root.toNat from λe=>n1 (hZ.mem_iff.2 (List.mem_append_left _ (by rw[<-e];exact hj))))]
       exact hz j hj⟩
    refine⟨k,jA N3 t.root zN,?_,r1,h,r2,by rw[a3,hMe,hels]⟩;rw[show ((([k]:List Int).length:Int)==1)=true from rfl,cond_true,zu (by rw[vW,vY,hl3];exact hr),obs,show idx [k] 0=some k from rfl,obs,obs];dsimp only;exact congrArg (λq=>some (q,k)) hN
  . have P:=HE hlen c hc hnd M o_;have h2K:2<=K.length:=o_;have hck:=wK (n:=⟨2,[],K,X,T⟩) rfl (yf M.chk (by rw[hl3];exact hlen) M.ch h2K (by have:=M.few;rw[xc] at this;have:=(c.inner hc).eight;rw[xc] at this;omega) M.ord M.ok);have hnd2:=Al hget
    have c':wn (fN (jA N3 t.root ⟨2,[],K,X,T⟩)) (h+1) t.root (mOf 0 (h+1)) topS :=
     ⟨P.sub.1,P.sub.2.1,by rw[hnd2];unfold mOf;simpa using h2K,P.sub.2.2.2⟩
    obtain⟨r1,r2⟩:=AS g P.len (λj hj=>P.out j (by rw[xc];exact hj)) P.chk c' (by obtain⟨Z,hZ,hz⟩:=P.perm;rw[xc] at hZ;exact⟨Z,hZ,hz⟩);refine⟨t.root,_,?_,r1,h+1,r2,by rw[P.elems,xc]⟩;rw[show ((K.length:Int)==1)=false by rw[beq_eq_false_iff_ne];omega,cond_false,obs,F6 hget]
theorem K8 {l:List DElem}{r:Nat}{x:DElem}(ho:l.Pairwise SpO)(hx:l[r]? = some x):l.filter (yI (vU x))=l.take r++l.drop (r+1):=by
 obtain⟨hr,he⟩:=ggs.1 hx;have e:=zZ l hr;rw[he] at e;have hnx:yI (vU x) x=false:=by unfold yI;simp
 have ho':=ho;rw[e] at ho';obtain⟨o1,o2,o3⟩:=l9.1 ho'
 conv=>lhs;rw[e]
 rw[List.filter_append,List.filter_cons,if_neg (by rw[hnx];decide),B8,B8]
 . intro y hy hs;have h1:cmpS (vU x) (vU y)<0:=(X_.1 o2).1 y hy;rw[hs,we.refl] at h1;omega
 . intro y hy hs;have h1:cmpS (vU y) (vU x)<0:=o3 y hy x p_;rw[hs,we.refl] at h1;omega
end
end
section
section walks
variable {τ α β:Type} {F:Nat}
def wI (t:τ->α->τ×Nat):List α->τ->τ×Nat
 |[],a=>(a,0)
 |e::l,a=>if (t a e).2=0 then wI t l (t a e).1 else t a e
theorem xY (t:τ->α->τ×Nat):∀(l m:List α) (a:τ),wI t (l++m) a=if (wI t l a).2=0 then wI t m (wI t l a).1 else wI t l a
 |[],m,a=>by simp[wI]
 |e::l,m,a=>by
  rw[List.cons_append,wI,wI];by_cases h:(t a e).2=0
  . rw[if_pos h,if_pos h,xY t l m]
  . rw[if_neg h,if_neg h,if_neg h]
theorem zp (t:τ->α->τ×Nat)(p:α->Bool):∀(l:List α) (a:τ),wI (λst e=>if p e then t st e else (st,0)) l a=wI t (l.filter p) a
 |[],a=>rfl
 |e::l,a=>by
  rw[wI];by_cases h:p e=true
  . rw[if_pos h,o7 h,wI];by_cases h0:(t a e).2=0
    . rw[if_pos h0,if_pos h0,zp t p l]
    . rw[if_neg h0,if_neg h0]
  . rw[if_neg h,if_pos rfl,o8 h,zp t p l]
theorem yQ (t:τ->α->τ×Nat)(g:β->List α):∀(l:List β) (a:τ),wI (λst k=>wI t (g k) st) l a=wI t (l.flatMap g) a
 |[],a=>rfl
 |b::l,a=>by rw[wI,u_,xY,yQ t g l]
theorem DE (t:τ->α->τ×Nat)(len:τ->Nat)(ht:∀a e,len (t a e).1<=len a+1):∀(l:List α) (a:τ),len (wI t l a).1<=len a+l.length
 |[],a=>q_ _
 |e::l,a=>by
  rw[wI,z_];have h1:=ht a e;by_cases h:(t a e).2=0
  . rw[if_pos h];have:=DE t len ht l (t a e).1;omega
  . rw[if_neg h];omega
theorem AY {S R:Type}[Big F]{f:S->Option (S⊕R)}(t:τ->α->τ×Nat)(l:List α)(enc:τ->Int->S)(o0:τ->R)(o1:τ->Nat->R)(a:τ)(hn:l.length<=9223372036854775807){s:S}(h0:s=enc a 0)
 (hs:∀(k:Nat) (e:α) (st:τ),l[k]? = some e->wI t (l.take k) a=(st,0)->f (enc st (k:Int))=some (j5 (t st e).2 (.inl (enc (t st e).1 ((k:Int)+1))) (λn=>.inr (o1 (t st e).1 n))))
 (he:∀st,wI t l a=(st,0)->f (enc st (l.length:Int))=some (.inr (o0 st))) :
 iter f F s=some (j5 (wI t l a).2 (o0 (wI t l a).1) (λn=>o1 (wI t l a).1 n)):=by
 subst h0
 have key:∀(m k N:Nat) (st:τ),k+m=l.length->m<N->wI t (l.take k) a=(st,0)->iter f N (enc st (k:Int))=some (j5 (wI t l a).2 (o0 (wI t l a).1) (λn=>o1 (wI t l a).1 n)):=by
  intro m
  induction m with
  |zero=>intro k N st hk hN hr;obtain⟨N,rfl⟩:∃M,N=M+1:=⟨N-1,by omega⟩;rw[p6 o_] at hr;rw[iter,show k=l.length by omega,he st hr,hr];rfl
  |succ m ih =>
   intro k N st hk hN hr;obtain⟨N,rfl⟩:∃M,N=M+1:=⟨N-1,by omega⟩;have hkl:k<l.length:=o_;have hg:=gge hkl;have hsplit:wI t l a=wI t (l[k]::l.drop (k+1)) st:=(by have h1:=xY t (l.take k) (l.drop k) a;rw[O_,hr,if_pos rfl,p7 hkl] at h1;exact h1);rw[iter,hs k l[k] st hg hr];rw[wI] at hsplit
   cases hz:(t st l[k]).2 with
   |zero=>rw[iK];refine ih (k+1) N _ o_ o_ ?_;rw[Q_,hg,xY,hr,if_pos rfl];show wI t [l[k]] st=_;rw[wI,if_pos hz];rfl
   |succ n=>rw[if_neg o_] at hsplit;rw[iO,hsplit,hz,iO]
 exact key l.length 0 F a o_ (zw hn) rfl
end walks
def geB (s:DSpot)(e:DElem):Bool:=decide (0<=cmpS (vU e) s)
def xd (ns:List DNode)(s:DSpot):Nat->Int->List DElem
 |0,_=>[]
 |m+1,i=>(nd ns i).elems.filter (geB s)++(if (nd ns i).kind=1 then [] else ((nd ns i).kids.drop (yj (nd ns i).seps s)).flatMap (xd ns s m))
theorem HY (ns:List DNode)(s:DSpot):∀(m:Nat) (i:Int),(xd ns s m i).Sublist (wv ns m i):=by
 intro m
 induction m with
 |zero=>intro i;exact List.Sublist.refl _
 |succ m ih =>
  intro i;rw[xd,wv];refine List.Sublist.append List.filter_sublist ?_;split
  . exact List.nil_sublist _
  . have h1:∀l:List Int,(l.flatMap (xd ns s m)).Sublist (l.flatMap (wv ns m)):=by
     intro l
     induction l with
     |nil=>exact List.Sublist.refl _
     |cons a l ihl=>rw[u_,u_];exact(ih a).append ihl
    refine(h1 _).trans ?_
    have h2:∀(l:List Int) (k:Nat),((l.drop k).flatMap (wv ns m)).Sublist (l.flatMap (wv ns m)):=by
     intro l k
     conv=>rhs;rw[<-O_ k l,N_]
     exact List.sublist_append_right _ _
    exact h2 _ _
theorem Aj {α β:Type}(p:β->Bool)(f:α->List β):∀l:List α,(l.flatMap f).filter p=l.flatMap λa=>(f a).filter p
 |[]=>rfl
 |a::l=>by rw[u_,u_,List.filter_append,Aj p f l]
theorem Jf {ns:List DNode}(hns:∀n∈ns,wq n=0)(s:DSpot):∀(h m:Nat) (i d:Int) (sp:Span),okN ns h i d sp->h<m->xd ns s m i=(vS ns h i).filter (geB s):=by
 intro h
 induction h with
 |zero=>intro m i d sp hok hm;obtain⟨m,rfl⟩:∃q,m=q+1:=⟨m-1,by omega⟩;rw[xd,vS,if_pos hok.2.1,List.append_nil]
 |succ h ih =>
  intro m i d sp hok hm;obtain⟨m,rfl⟩:∃q,m=q+1:=⟨m-1,by omega⟩;have hI:=(yg hns hok.1 hok.2.1).2;rw[xd,vS,if_neg hok.2.1.2,hI.elems,List.filter_nil,G_,Aj];have hk:∀k∈(nd ns i).kids,xd ns s m k=(vS ns h k).filter (geB s):=λk hk=>by obtain⟨q,hq⟩:=Y_.1 hk;exact ih m k _ _ (hok.2.2.2 (k,q) (Ag hq)).1 o_
  have hcong:∀l:List Int,(∀k∈l,k∈(nd ns i).kids)->l.flatMap (xd ns s m)=l.flatMap λk=>(vS ns h k).filter (geB s):=by
   intro l
   induction l with
   |nil=>intro _;rfl
   |cons a l ihl=>intro hl;rw[u_,u_,hk a (hl a p_),ihl λk hk=>hl k (B_ _ hk)]
  rw[hcong _ λk hk=>p8 hk];have hnil:((nd ns i).kids.take (yj (nd ns i).seps s)).flatMap (λk=>(vS ns h k).filter (geB s))=[]:=by rw[List.flatMap_eq_nil_iff];intro k hk;rw[t6] at hk;obtain⟨q,hq,rfl⟩:=hk;rw[List.filter_eq_nil_iff];intro e he;have hqk:(nd ns i).kids[q]? = some (nd ns i).kids[q]:=gge o_;have h1:=(hok.2.2.2 (_,q) (Ag hqk)).1;have h2:=((xm hns h _ _ _ h1).2 e he).1;have hw:=C9 (nd ns i).seps s;have hx:(nd ns i).seps[q]? = some (nd ns i).seps[q]:=gge o_;have h3:=Dt hx h2;have h4:=(Fm (nd ns i).seps s).1 q _ o_ hx;have h5:=xN h3 h4;unfold geB;rw[decide_eq_true_eq];omega
  conv=>rhs;rw[<-O_ (yj (nd ns i).seps s) (nd ns i).kids,N_,hnil,G_]
def JC {τ:Type}(ns:List DNode)(s:DSpot)(len:τ->Nat)(m:Nat)(x:τ×Int):Prop:=Ej ns m x.2/\len x.1+(xd ns s m x.2).length<=100000
theorem Er {τ:Type}{t:DTree}{h:Nat}(hg:Good t h)(s:DSpot)(len:τ->Nat)(a:τ)(ha:len a=0){F:Nat}[Big F]:JC t.nodes s len F (a,t.root):=by have hF:=(inferInstance:Big F).le;have h4:=yr hg;refine⟨⟨h,0,topS,by omega,hg.ok⟩,?_⟩;dsimp only;have h1:=(HY t.nodes s F t.root).length_le;rw[Cl hg.chk h F t.root 0 topS hg.ok o_] at h1;have:=Bn hg;omega
theorem Ec {t:DTree}{h:Nat}(hg:Good t h)(s:DSpot){F:Nat}[Big F]:xd t.nodes s F t.root=(vS t.nodes h t.root).filter (geB s):=by have hF:=(inferInstance:Big F).le;have h4:=yr hg;exact Jf hg.chk s h F t.root 0 topS hg.ok o_
theorem F5 {τ:Type}{ns:List DNode}(hns:∀n∈ns,wq n=0){s:DSpot}{len:τ->Nat}{m:Nat}{a b:τ}{i:Int}(h:JC ns s len (m+1) (a,i))(h1:(nd ns i).kind≠1){t:τ->DElem->τ×Nat}(ht:∀a e,len (t a e).1<=len a+1)
 (hb:wI t ((nd ns i).elems.filter (geB s)) a=(b,0)) {k:Nat} {e:Int} (hk:((nd ns i).kids.drop (yj (nd ns i).seps s))[k]? = some e) {st:τ}
 (hr:wI (λst k=>wI t (xd ns s m k) st) (((nd ns i).kids.drop (yj (nd ns i).seps s)).take k) b=(st,0)):JC ns s len m (st,e):=by
 have hkids:=(h.1.kids hns).2;refine⟨hkids e (p8 (C_ hk)),?_⟩;rw[yQ] at hr;have q1:=DE t len ht ((nd ns i).elems.filter (geB s)) a;rw[hb] at q1;have q2:=DE t len ht ((((nd ns i).kids.drop (yj (nd ns i).seps s)).take k).flatMap (xd ns s m)) b;rw[hr] at q2;have h2:=h.2;dsimp only at q1 q2 h2 ⊢;rw[xd,if_neg h1,g_] at h2;obtain⟨hkl,rfl⟩:=ggs.1 hk;have h3:(((nd ns i).kids.drop (yj (nd ns i).seps s)).flatMap (xd ns s m)).length=((((nd ns i).kids.drop (yj (nd ns i).seps s)).take k).flatMap (xd ns s m)).length+(((((nd ns i).kids.drop (yj (nd ns i).seps s)).drop k)).flatMap (xd ns s m)).length:=by rw[<-g_,<-N_,O_]
 rw[p7 hkl,u_,g_] at h3;omega
theorem JZ {ns:List DNode}{i:Int}(hI:Inner (nd ns i))(s:DSpot):yj (nd ns i).seps s<=(nd ns i).kids.length:=by have:=C9 (nd ns i).seps s;have:=hI.seps;omega
end
section
section
theorem D4 {t:DTree}{h:Nat}(hg:Good t h){F:Nat}[Big F]:wv t.nodes F t.root=vS t.nodes h t.root:=by have hF:=(inferInstance:Big F).le;have h4:=yr hg;exact Cl hg.chk h F t.root 0 topS hg.ok o_
end
section
variable {F:Nat} [Big F]
theorem Ao {t:DTree}(hs:∀n∈t.nodes,Small n){h:Nat}(hg:Good t h):lz F t=some (Au (vS t.nodes h t.root)):=by unfold lz;rw[zF hs hg,obs];dsimp only;rw[show ((0:Int) !=0)=false from rfl,cond_false,Ac];rfl
abbrev FlatP:=Int×Int×Int×Int×Int×ByteArray
def Jd (e:DElem):FlatP:=(e.key.pfs,e.key.obj,e.key.off,e.made,e.gone,e.val)
def zg (k:DKey)(u:Int)(st:FlatP)(e:DElem):FlatP×Nat:=if e.key≠k then (st,1) else if xD e u=true then (Jd e,2) else (st,0)
theorem Gg {k:DKey}{u:Int}{st:FlatP}{e:DElem}(h:e.key≠k):zg k u st e=(st,1):=if_pos h
theorem He {k:DKey}{u:Int}{st:FlatP}{e:DElem}(h:e.key=k)(hl:xD e u=true):zg k u st e=(Jd e,2):=by unfold zg;rw[if_neg (λh'=>h' h),if_pos hl]
theorem Hd {k:DKey}{u:Int}{st:FlatP}{e:DElem}(h:e.key=k)(hl:¬ xD e u=true):zg k u st e=(st,0):=by unfold zg;rw[if_neg (λh'=>h' h),if_neg hl]
theorem Jn {l:List DElem}(hp:l.Pairwise SpO){i j:Nat}{a b:DElem}(hij:i<=j)(ha:l[i]? = some a)(hb:l[j]? = some b):cmpK a.key b.key<=0:=by
 by_cases e:i=j
 . subst e;rw[ha] at hb;obtain rfl:=F_.inj hb;rw[wi.refl];exact y_ _
 . have:=xj hp (show i<j by omega) ha hb;unfold SpO at this;rcases BP.1 this with h|⟨h,_⟩
   . exact Int.le_of_lt h
   . unfold vU at h;dsimp only at h;rw[h,wi.refl];exact y_ _
theorem Kw (k:DKey)(u:Int):∀(l:List DElem),l.Pairwise SpO->(∀e∈l,0<=cmpK e.key k)->∀a:FlatP,(∃e,l.find? (λe=>e.key==k&&xD e u)=some e/\wI (zg k u) l a=(Jd e,2))\/(l.find? (λe=>e.key==k&&xD e u)=none/\∃c,c<=1/\wI (zg k u) l a=(a,c)):=by
 intro l
 induction l with
 |nil=>intro _ _ a;exact .inr ⟨rfl,0,by omega,rfl⟩
 |cons e l ih =>
  intro hp hk a;rw[wI];by_cases he:e.key=k
  . have hb:(e.key==k)=true:=by simpa using he
    rw[Z_,hb];by_cases hl:xD e u=true
    . left;rw[He he hl,if_neg s_,hl];exact⟨e,rfl,rfl⟩
    . rw[Hd he hl,if_pos rfl,show xD e u=false by simpa using hl];exact ih (X_.1 hp).2 (λx hx=>hk x (B_ _ hx)) a
  . right;rw[Gg he,if_neg s_];refine⟨?_,1,q_ _,rfl⟩;rw[List.find?_eq_none];intro x hx hq;have hxk:x.key=k:=by have:=(t7.1 hq).1;simpa using this
    have h1:=hk e p_;obtain⟨j,hj⟩:=Y_.1 hx;have h2:=Jn hp (i:=0) (j:=j) (l_ _) rfl hj;rw[hxk] at h2;exact he ((wi.zero _ _).1 o_)
theorem Fu {l:List DElem}(ho:∀e∈l,wa e=0)(k:DKey)(u:Int):(l.filter (geB ⟨k,0⟩)).find? (λe=>e.key==k&&xD e u)=atR l k u:=by
 unfold atR;rw[List.find?_filter]
 have:∀m:List DElem,(∀e∈m,e∈l)->m.find? (λa=>decide (geB ⟨k,0⟩ a=true/\(a.key==k&&xD a u)=true))=m.find? λe=>e.key==k&&xD e u:=by
  intro m
  induction m with
  |nil=>intro _;rfl
  |cons e m ih =>
   intro hm;rw[Z_,Z_,ih λx hx=>hm x (B_ _ hx)];by_cases hk:e.key=k
   . obtain⟨_,h1,_⟩:=xL (ho e (hm e p_));have hge:geB ⟨k,0⟩ e=true:=(by refine decide_eq_true ?_;have h2:=we.neg (vU e) ⟨k,0⟩;have:cmpS ⟨k,0⟩ (vU e)<0:=BP.2 (.inr ⟨hk.symm,by show (0:Int)<e.made;omega⟩);omega);have hd:decide (geB ⟨k,0⟩ e=true/\(e.key==k&&xD e u)=true)=(e.key==k&&xD e u):=(by cases hq:(e.key==k&&xD e u) <;> simp[hge]);rw[hd]
   . have:(e.key==k)=false:=(by simpa using hk);rw[this];simp
 first
 |exact this l λe he=>he
 |(simp only[Bool.decide_and,Bool.decide_eq_true] at this;exact this l λe he=>he)
theorem Eb {l:List DElem}{k:DKey}:∀e∈l.filter (geB ⟨k,0⟩),0<=cmpK e.key k:=λe he=>by
 have h1:=(f_.1 he).2;unfold geB at h1;have h1:=of_decide_eq_true h1;by_cases h:cmpK e.key k<0
 . have:cmpS (vU e) ⟨k,0⟩<0:=BP.2 (.inl h);omega
 . omega
theorem EU {t:DTree}(hs:∀n∈t.nodes,Small n){h:Nat}(hg:Good t h)(k:DKey)(u:Int):rE F t k u=some (atV (vS t.nodes h t.root) k u,atE (vS t.nodes h t.root) k u):=by
 have hlen:∀(a:FlatP) (e:DElem),(λ_:FlatP=>0) (zg k u a e).1<=(λ_:FlatP=>0) a+1:=λ_ _=>l_ _;unfold rE atE atV;rw[Ao hs hg,obs];by_cases hr:Au (vS t.nodes h t.root)=0;rotate_left
 . rw[wJ hr,cond_true,if_neg (λh=>hr h.1),if_pos hr];rfl
 rw[wu hr,cond_false,yP,obs,if_neg (show ¬ Au (vS t.nodes h t.root)≠0 by simpa using hr)];by_cases hk:zr k=0;rotate_left
 . rw[wJ hk,cond_true,if_neg (λh=>hk h.2),if_pos hk];rfl
 rw[wu hk,cond_false,if_pos (show Au (vS t.nodes h t.root)=0/\zr k=0 from ⟨hr,hk⟩),if_neg (show ¬ zr k≠0 by simpa using hk)]
 rw[zJ (σ:=Int×Int×Int×Int×Int×ByteArray×Int) (λm x=>match x with|(x1,x2,x3,x4,x5,x6,x7)=>JC t.nodes ⟨k,0⟩ (λ_:FlatP=>0) m ((x1,x2,x3,x4,x5,x6),x7))
  (λm x=>match x with|(x1,x2,x3,x4,x5,x6,x7)=>let r:=wI (zg k u) (xd t.nodes ⟨k,0⟩ m x7) (x1,x2,x3,x4,x5,x6);(r.2,r.1)) ?h0 ?hstep F _ (Er hg ⟨k,0⟩ (λ_=>0) _ rfl)]
 case h0 =>
  rintro⟨x1,x2,x3,x4,x5,x6,x7⟩ ⟨⟨h,d,s,hm,_⟩,_⟩;omega
 case hstep =>
  rintro m self ih ⟨x1,x2,x3,x4,x5,x6,x7⟩ hpre;dsimp only at hpre;obtain⟨⟨h0,h1⟩,hkids⟩:=hpre.1.kids hg.chk;dsimp only at h0 h1 hkids ⊢;have hmem:=xJ h0 h1;obtain⟨h8,h8'⟩:=yi (hg.chk _ hmem);rw[AG h0 h1,obs];rw[AY (λst e=>if geB ⟨k,0⟩ e then zg k u st e else (st,0)) (nd t.nodes x7).elems (λ(st:FlatP) j=>(st.1,st.2.1,st.2.2.1,st.2.2.2.1,st.2.2.2.2.1,st.2.2.2.2.2,j)) H_ (λst n=>j_ (n+1,st)) (x1,x2,x3,x4,x5,x6) o_ rfl ?hs ?he]
  case hs =>
   rintro j e ⟨y1,y2,y3,y4,y5,y6⟩ hj hr;have hkl:=(ggs.1 hj).1;dsimp only;rw[decide_eq_true o_,cond_true,vX,hj,obs,wg,obs,ww,obs,w64 o_ o_];unfold geB;by_cases hge:0<=cmpS (vU e) ⟨k,0⟩
   . rw[decide_eq_true hge,cond_true,if_pos rfl];unfold zg;by_cases hn:e.key=k
     . rw[if_neg (show ¬ e.key≠k by simpa using hn),show (!(e.key==k))=false by simpa using hn,cond_false,BQ,obs];cases xD e u <;> rfl
     . rw[if_pos hn,show (!(e.key==k))=true by simpa using hn];rfl
   . rw[decide_eq_false hge,cond_false,if_neg s_];rfl
  case he =>
   rintro⟨y1,y2,y3,y4,y5,y6⟩ hr;dsimp only;rw[decide_eq_false o_];rfl
  rw[obs,zp,xd]
  cases hb:wI (zg k u) ((nd t.nodes x7).elems.filter (geB ⟨k,0⟩)) (x1,x2,x3,x4,x5,x6) with
  |mk b c =>
   rw[xY,hb]
   cases c with
   |succ c=>rfl
   |zero =>
    obtain⟨b1,b2,b3,b4,b5,b6⟩:=b;dsimp only[j5];rw[if_pos rfl];by_cases hkd:(nd t.nodes x7).kind=1
    . rw[if_pos hkd,show ((nd t.nodes x7).kind==1)=true by simpa using hkd];rfl
    . rw[if_neg hkd,show ((nd t.nodes x7).kind==1)=false by simpa using hkd,cond_false]
      have hw:yj (nd t.nodes x7).seps ⟨k,0⟩<=(nd t.nodes x7).kids.length:=by
       rcases wy.1 (hg.chk _ hmem) with q|q|q
       . rw[q.2.2.2.1];exact l_ _
       . exact absurd q.1 hkd
       . exact JZ q.2 ⟨k,0⟩
      rw[xX _ ⟨k,0⟩ (hs _ hmem),obs,wF hw,obs];rw[AY (λst j=>wI (zg k u) (xd t.nodes ⟨k,0⟩ m j) st) ((nd t.nodes x7).kids.drop (yj (nd t.nodes x7).seps ⟨k,0⟩)) (λ(st:FlatP) j=>(st.1,st.2.1,st.2.2.1,st.2.2.2.1,st.2.2.2.2.1,st.2.2.2.2.2,j)) H_ (λst n=>j_ (n+1,st)) (b1,b2,b3,b4,b5,b6) (by rw[I_];omega) rfl ?hs2 ?he2]
      case hs2 =>
       rintro j e ⟨y1,y2,y3,y4,y5,y6⟩ hk2 hr;have hkl:=(ggs.1 hk2).1;rw[I_] at hkl;dsimp only;rw[decide_eq_true (by rw[I_];omega),cond_true,vX,hk2,obs,ih (y1,y2,y3,y4,y5,y6,e) (F5 hg.chk hpre hkd hlen hb hk2 hr),obs,w64 o_ o_];dsimp only
       cases hc:wI (zg k u) (xd t.nodes ⟨k,0⟩ m e) (y1,y2,y3,y4,y5,y6) with
       |mk y c=>cases c <;> rfl
      case he2 =>
       rintro⟨y1,y2,y3,y4,y5,y6⟩ hr;dsimp only;rw[decide_eq_false o_];rfl
      rw[obs,yQ]
      cases hc:wI (zg k u) (((nd t.nodes x7).kids.drop (yj (nd t.nodes x7).seps ⟨k,0⟩)).flatMap (xd t.nodes ⟨k,0⟩ m)) (b1,b2,b3,b4,b5,b6) with
      |mk y c=>cases c <;> rfl
 rw[obs];dsimp only;rw[Ec hg ⟨k,0⟩];obtain⟨hsort,hall⟩:=xm hg.chk h t.root 0 topS hg.ok;have hat:=Fu (λe he=>(hall e he).2) k u (l:=vS t.nodes h t.root);rcases Kw k u _ (hsort.filter _) Eb (0,0,0,0,0,P_ #[]) with ⟨e,h1,h2⟩|⟨h1,c,hc,h2⟩
 . rw[h2,<-hat,h1];rfl
 . rw[h2,<-hat,h1];have:c=0\/c=1:=o_;rcases this with rfl|rfl <;> rfl
end
section
variable {F:Nat} [Big F]
abbrev FlatN:=Bool×Int×Int×Int×Int×Int×ByteArray
def flatN (e:DElem):FlatN:=(true,e.key.pfs,e.key.obj,e.key.off,e.made,e.gone,e.val)
def zf (k:DKey)(st:FlatN)(e:DElem):FlatN×Nat:=if e.key≠k then (st,1) else if e.gone=0 then (flatN e,2) else (st,0)
theorem Gf {k:DKey}{st:FlatN}{e:DElem}(h:e.key≠k):zf k st e=(st,1):=if_pos h
theorem Hc {k:DKey}{st:FlatN}{e:DElem}(h:e.key=k)(hl:e.gone=0):zf k st e=(flatN e,2):=by unfold zf;rw[if_neg (λh'=>h' h),if_pos hl]
theorem Ha {k:DKey}{st:FlatN}{e:DElem}(h:e.key=k)(hl:¬ e.gone=0):zf k st e=(st,0):=by unfold zf;rw[if_neg (λh'=>h' h),if_neg hl]
theorem Kv (k:DKey)(u:Int):∀(l:List DElem),l.Pairwise SpO->(∀e∈l,0<=cmpK e.key k)->(∀e∈l,w8 e<=u)->∀a:FlatN,(∃e,l.find? (λe=>e.key==k&&xD e u)=some e/\wI (zf k) l a=(flatN e,2))\/(l.find? (λe=>e.key==k&&xD e u)=none/\∃c,c<=1/\wI (zf k) l a=(a,c)):=by
 intro l
 induction l with
 |nil=>intro _ _ _ a;exact .inr ⟨rfl,0,by omega,rfl⟩
 |cons e l ih =>
  intro hp hk hu a;have hlv:=En (hu e p_);rw[wI];by_cases he:e.key=k
  . have hb:(e.key==k)=true:=by simpa using he
    rw[Z_,hb,hlv];by_cases hl:e.gone=0
    . left;rw[Hc he hl,if_neg s_,show (e.gone==0)=true by simpa using hl];exact⟨e,rfl,rfl⟩
    . rw[Ha he hl,if_pos rfl,show (e.gone==0)=false by simpa using hl];exact ih (X_.1 hp).2 (λx hx=>hk x (B_ _ hx)) (λx hx=>hu x (B_ _ hx)) a
  . right;rw[Gf he,if_neg s_];refine⟨?_,1,q_ _,rfl⟩;rw[List.find?_eq_none];intro x hx hq;have hxk:x.key=k:=by have:=(t7.1 hq).1;simpa using this
    have h1:=hk e p_;obtain⟨j,hj⟩:=Y_.1 hx;have h2:=Jn hp (i:=0) (j:=j) (l_ _) rfl hj;rw[hxk] at h2;exact he ((wi.zero _ _).1 o_)
def GS (o:Option DElem):DElem×Bool:=match o with
 |some e=>(e,true)
 |none=>(J1,false)
theorem AV {t:DTree}{h:Nat}(hg:Good t h)(hr:Run (vS t.nodes h t.root))(k:DKey):oB F t k=some (GS (yb (vS t.nodes h t.root) k)):=by
 have hs:=zH hg;have hlen:∀(a:FlatN) (e:DElem),(λ_:FlatN=>0) (zf k a e).1<=(λ_:FlatN=>0) a+1:=λ_ _=>l_ _;unfold oB
 rw[zJ (σ:=Bool×Int×Int×Int×Int×Int×ByteArray×Int) (λm x=>match x with|(x0,x1,x2,x3,x4,x5,x6,x7)=>JC t.nodes ⟨k,0⟩ (λ_:FlatN=>0) m ((x0,x1,x2,x3,x4,x5,x6),x7))
  (λm x=>match x with|(x0,x1,x2,x3,x4,x5,x6,x7)=>let r:=wI (zf k) (xd t.nodes ⟨k,0⟩ m x7) (x0,x1,x2,x3,x4,x5,x6);(r.2,r.1)) ?h0 ?hstep F _ (Er hg ⟨k,0⟩ (λ_=>0) _ rfl)]
 case h0 =>
  rintro⟨x0,x1,x2,x3,x4,x5,x6,x7⟩ ⟨⟨h,d,s,hm,_⟩,_⟩;omega
 case hstep =>
  rintro m self ih ⟨x0,x1,x2,x3,x4,x5,x6,x7⟩ hpre;dsimp only at hpre;obtain⟨⟨h0,h1⟩,hkids⟩:=hpre.1.kids hg.chk;dsimp only at h0 h1 hkids ⊢;have hmem:=xJ h0 h1;obtain⟨h8,h8'⟩:=yi (hg.chk _ hmem);rw[AG h0 h1,obs];rw[AY (λst e=>if geB ⟨k,0⟩ e then zf k st e else (st,0)) (nd t.nodes x7).elems (λ(st:FlatN) j=>(st.1,st.2.1,st.2.2.1,st.2.2.2.1,st.2.2.2.2.1,st.2.2.2.2.2.1,st.2.2.2.2.2.2,j)) H_ (λst n=>j_ (n+1,st)) (x0,x1,x2,x3,x4,x5,x6) o_ rfl ?hs ?he]
  case hs =>
   rintro j e ⟨y0,y1,y2,y3,y4,y5,y6⟩ hj hr;have hkl:=(ggs.1 hj).1;dsimp only;rw[decide_eq_true o_,cond_true,vX,hj,obs,wg,obs,ww,obs,w64 o_ o_];unfold geB;by_cases hge:0<=cmpS (vU e) ⟨k,0⟩
   . rw[decide_eq_true hge,cond_true,if_pos rfl];unfold zf;by_cases hn:e.key=k
     . rw[if_neg (show ¬ e.key≠k by simpa using hn),show (!(e.key==k))=false by simpa using hn,cond_false];by_cases hz:e.gone=0
       . rw[if_pos hz,show (e.gone==0)=true by simpa using hz];rfl
       . rw[if_neg hz,show (e.gone==0)=false by simpa using hz];rfl
     . rw[if_pos hn,show (!(e.key==k))=true by simpa using hn];rfl
   . rw[decide_eq_false hge,cond_false,if_neg s_];rfl
  case he =>
   rintro⟨y0,y1,y2,y3,y4,y5,y6⟩ hr;dsimp only;rw[decide_eq_false o_];rfl
  rw[obs,zp,xd]
  cases hb:wI (zf k) ((nd t.nodes x7).elems.filter (geB ⟨k,0⟩)) (x0,x1,x2,x3,x4,x5,x6) with
  |mk b c =>
   rw[xY,hb]
   cases c with
   |succ c=>rfl
   |zero =>
    obtain⟨b0,b1,b2,b3,b4,b5,b6⟩:=b;dsimp only[j5];rw[if_pos rfl];by_cases hkd:(nd t.nodes x7).kind=1
    . rw[if_pos hkd,show ((nd t.nodes x7).kind==1)=true by simpa using hkd];rfl
    . rw[if_neg hkd,show ((nd t.nodes x7).kind==1)=false by simpa using hkd,cond_false]
      have hw:yj (nd t.nodes x7).seps ⟨k,0⟩<=(nd t.nodes x7).kids.length:=by
       rcases wy.1 (hg.chk _ hmem) with q|q|q
       . rw[q.2.2.2.1];exact l_ _
       . exact absurd q.1 hkd
       . exact JZ q.2 ⟨k,0⟩
      rw[xX _ ⟨k,0⟩ (hs _ hmem),obs,wF hw,obs];rw[AY (λst j=>wI (zf k) (xd t.nodes ⟨k,0⟩ m j) st) ((nd t.nodes x7).kids.drop (yj (nd t.nodes x7).seps ⟨k,0⟩)) (λ(st:FlatN) j=>(st.1,st.2.1,st.2.2.1,st.2.2.2.1,st.2.2.2.2.1,st.2.2.2.2.2.1,st.2.2.2.2.2.2,j)) H_ (λst n=>j_ (n+1,st)) (b0,b1,b2,b3,b4,b5,b6) (by rw[I_];omega) rfl ?hs2 ?he2]
      case hs2 =>
       rintro j e ⟨y0,y1,y2,y3,y4,y5,y6⟩ hk2 hr;have hkl:=(ggs.1 hk2).1;rw[I_] at hkl;dsimp only;rw[decide_eq_true (by rw[I_];omega),cond_true,vX,hk2,obs,ih (y0,y1,y2,y3,y4,y5,y6,e) (F5 hg.chk hpre hkd hlen hb hk2 hr),obs,w64 o_ o_];dsimp only
       cases hc:wI (zf k) (xd t.nodes ⟨k,0⟩ m e) (y0,y1,y2,y3,y4,y5,y6) with
       |mk y c=>cases c <;> rfl
      case he2 =>
       rintro⟨y0,y1,y2,y3,y4,y5,y6⟩ hr;dsimp only;rw[decide_eq_false o_];rfl
      rw[obs,yQ]
      cases hc:wI (zf k) (((nd t.nodes x7).kids.drop (yj (nd t.nodes x7).seps ⟨k,0⟩)).flatMap (xd t.nodes ⟨k,0⟩ m)) (b0,b1,b2,b3,b4,b5,b6) with
      |mk y c=>cases c <;> rfl
 rw[obs];dsimp only;rw[Ec hg ⟨k,0⟩];obtain⟨hsort,hall⟩:=xm hg.chk h t.root 0 topS hg.ok;have hlast:=hr.last_le;have hat:=Fu (λe he=>(hall e he).2) k 2147483647 (l:=vS t.nodes h t.root);rw[Kl hr hlast] at hat;rcases Kv k 2147483647 _ (hsort.filter _) Eb (λe he=>by have:=zM (f_.1 he).1;omega) (false,0,0,0,0,0,P_ #[]) with ⟨e,h1,h2⟩|⟨h1,c,hc,h2⟩
 . rw[h2,<-hat,h1];rfl
 . rw[h2,<-hat,h1];have:c=0\/c=1:=o_;rcases this with rfl|rfl <;> rfl
theorem H1 {ns:List DNode}(hns:∀n∈ns,wq n=0):∀ {h:Nat} {i:Int} {m:Nat} {s:Span},wn ns h i m s->wd (nd ns i)=xU (vS ns h i):=by
 intro h
 induction h with
 |zero =>
  intro i m s c;have L:=c.leaf hns;obtain⟨g1,g2,g3⟩:=Bo (nd ns i);have g0:=(AC (hns _ (xJ c.range.1 c.range.2))).1;have hnn:=BW (nd ns i).elems;rw[vS];refine Int.le_antisymm ?_ (zb.2 ⟨g0,g1⟩);rcases g3 with g3|⟨e,he,g3⟩|⟨t,ht,_⟩
  . omega
  . rw[<-g3];exact zM he
  . rw[L.tids] at ht;cases ht
 |succ h ih =>
  intro i m s c;have L:=c.inner hns;obtain⟨g1,g2,g3⟩:=Bo (nd ns i);have g0:=(AC (hns _ (xJ c.range.1 c.range.2))).1;have hch:=c.2.2.2;rw[vS];have hnn:=BW ((nd ns i).kids.flatMap (vS ns h));refine Int.le_antisymm ?_ (zb.2 ⟨g0,λe he=>?_⟩)
  . rcases g3 with g3|⟨e,he,_⟩|⟨t,ht,g3⟩
    . omega
    . rw[L.elems] at he;cases he
    . obtain⟨k,s',hk,x⟩:=hch.tmem t ht;rw[<-g3,<-x.2,ih x.1];exact zb.2 ⟨hnn,λe he=>zM (List.mem_flatMap.2 ⟨k,hk,he⟩)⟩
  . obtain⟨k,hk,he⟩:=List.mem_flatMap.1 he;obtain⟨q,hq⟩:=Y_.1 hk;obtain⟨t,s',ht,x,_⟩:=hch.at_ q k hq;have h1:=g2 t (C_ ht);have h2:=zM he;rw[<-ih x.1,x.2] at h2;omega
theorem Ar {t:DTree}{h:Nat}(hg:Good t h)(u:Int):nC F t u=some (decide (u<1\/2147483647<u\/u<xU (vS t.nodes h t.root))):=by
 have c:=AB hg;rw[xc] at c;have hgr:=H1 hg.chk c;obtain⟨h0,h1⟩:=c.range;unfold nC;by_cases h2:u<1
 . rw[decide_eq_true h2,cond_true,obs,decide_eq_true (.inl h2)]
 . rw[decide_eq_false h2,cond_false];by_cases h3:2147483647<u
   . rw[decide_eq_true h3,cond_true,obs,decide_eq_true (.inr (.inl h3))]
   . rw[decide_eq_false h3,cond_false,AG h0 h1,obs,xh _ (xo (hg.chk _ (xJ h0 h1))),obs,obs,hgr];congr 1;rw[Bool.eq_iff_iff,decide_eq_true_eq,decide_eq_true_eq];omega
theorem Aq {t:DTree}{h:Nat}(hg:Good t h):pc F t=some (decide (400<=(vS t.nodes h t.root).length)):=by
 have hlen:∀(a:Nat) (e:DElem),(λa:Nat=>a) ((λ(a:Nat) (_:DElem)=>(a+1,0)) a e).1<=(λa:Nat=>a) a+1:=λ_ _=>q_ _;unfold pc;rw[zJ (σ:=Int×Int) (λm x=>Ej t.nodes m x.2/\0<=x.1/\x.1+((wv t.nodes m x.2).length:Int)<=100000) (λm x=>x.1+((wv t.nodes m x.2).length:Int)) ?h0 ?hstep F _ ?hpre]
 case h0 =>
  rintro⟨x1,x2⟩ ⟨⟨h,d,s,hm,_⟩,_⟩;omega
 case hpre =>
  have hF:=(inferInstance:Big F).le;have h4:=yr hg;refine⟨⟨h,0,topS,by omega,hg.ok⟩,y_ _,?_⟩;dsimp only;rw[D4 hg];have:=Bn hg;omega
 case hstep =>
  rintro m self ih ⟨x1,x2⟩ ⟨hok,hc0,hc1⟩;obtain⟨⟨h0,h1⟩,hkids⟩:=hok.kids hg.chk;dsimp only at h0 h1 hkids hc0 hc1 ⊢;obtain⟨h8,h8'⟩:=yi (hg.chk _ (xJ h0 h1));rw[wv,g_] at hc1;rw[AG h0 h1,obs];rw[wB (λk=>(x1+(k:Int),(k:Int))) (nd t.nodes x2).elems.length (r:=x1+((nd t.nodes x2).elems.length:Int)) s_ o_ ?s1 ?e1]
  case s1 =>
   intro k hk;dsimp only;rw[decide_eq_true o_,cond_true,vX,gge hk,obs,w64 o_ o_,w64 o_ o_];congr 3;omega
  case e1 =>
   dsimp only;rw[decide_eq_false o_,cond_false]
  rw[obs];have hlen:((nd t.nodes x2).kids.flatMap (wv t.nodes m)).length<=100000:=o_;rw[wB (λk=>(x1+((nd t.nodes x2).elems.length:Int)+((((nd t.nodes x2).kids.take k).flatMap (wv t.nodes m)).length:Int),(k:Int))) (nd t.nodes x2).kids.length (r:=x1+((nd t.nodes x2).elems.length:Int)+(((nd t.nodes x2).kids.flatMap (wv t.nodes m)).length:Int)) s_ o_ ?s2 ?e2]
  case s2 =>
   intro k hk;have hgk:(nd t.nodes x2).kids[k]? = some (nd t.nodes x2).kids[k]:=gge hk;obtain⟨q1,q2⟩:=HW (wv t.nodes m) hk;dsimp only;rw[decide_eq_true o_,cond_true,vX,hgk,obs,ih _ ⟨hkids _ (l7 _),by dsimp only;omega,by dsimp only;omega⟩,obs,w64 o_ o_];dsimp only;rw[q1,g_];congr 3;omega
  case e2 =>
   dsimp only;rw[decide_eq_false o_,cond_false,x_]
  rw[obs,wv,g_];congr 1;omega
 rw[obs,obs];dsimp only;rw[D4 hg];congr 1;rw[Bool.eq_iff_iff,decide_eq_true_eq,decide_eq_true_eq];omega
theorem HH {A B:List DElem}{e y:DElem}(hs:vU y=vU e)(ho:(A++e::B).Pairwise SpO):(A++e::B).map (xQ y)=A++y::B:=by
 obtain⟨o1,o2,o3⟩:=l9.1 ho;rw[List.map_append,U_,BG,BG]
 . unfold xQ;rw[if_pos hs.symm]
 . intro x hx h;have h1:cmpS (vU e) (vU x)<0:=(X_.1 o2).1 x hx;rw[h,hs,we.refl] at h1;omega
 . intro x hx h;have h1:cmpS (vU x) (vU e)<0:=o3 x hx e p_;rw[h,hs,we.refl] at h1;omega
theorem Ku {A B:List DElem}{e:DElem}(ho:(A++e::B).Pairwise SpO):(A++e::B).filter (yI (vU e))=A++B:=by
 have hg:(A++e::B)[A.length]? = some e:=by rw[List.getElem?_append_right (q_ _)];simp
 rw[K8 ho hg,List.take_left' rfl,show A++e::B=(A++[e])++B by simp,List.drop_left' s_]
section
variable {l:List DElem} {k:DKey} {t:Int} {v:ByteArray}
theorem Cu (h:Run l){e:DElem}(hn:yb l k=some e):∃a,l=(lo l k++a)++e::hi l k/\clo (hist l k) t=a++(if e.made=t then [] else [{ e with gone:=t }]):=by
 obtain⟨a,ha,hc⟩:=Hm (t:=t) h.ord hn;refine⟨a,?_,hc⟩
 conv=>lhs;rw[Fa k h.ord,ha]
 simp
theorem Kq (h:Run l){e:DElem}(hn:yb l k=some e)(hm:e.made=t):l.map (xQ (yE k v t))=putR l k v t:=by
 obtain⟨a,h1,h2⟩:=Cu (t:=t) h hn;have hk:=((yT h.ord).1 hn).2.1;have ho:=AU h.ord;rw[h1] at ho;have hsp:vU (yE k v t)=vU e:=by unfold vU yE;rw[hk,hm]
 conv=>lhs;rw[h1]
 rw[HH hsp ho];unfold putR upd;rw[h2,if_pos hm];simp
theorem CU (h:Run l){e:DElem}(hn:yb l k=some e)(hm:e.made≠t):l.map (xQ { e with gone:=t })=cutR l k t:=by
 obtain⟨a,h1,h2⟩:=Cu (t:=t) h hn;have ho:=AU h.ord;rw[h1] at ho
 conv=>lhs;rw[h1]
 rw[HH (e:=e) (y:={ e with gone:=t }) rfl ho];unfold cutR upd;rw[h2,if_neg hm];simp
theorem J5 (h:Run l){e:DElem}(hn:yb l k=some e)(hm:e.made=t):l.filter (yI (vU e))=cutR l k t:=by
 obtain⟨a,h1,h2⟩:=Cu (t:=t) h hn;have ho:=AU h.ord;rw[h1] at ho
 conv=>lhs;rw[h1]
 rw[Ku ho];unfold cutR upd;rw[h2,if_pos hm];simp
theorem Es (h:Run l)(ht:xU l<=t)(hc:wa (yE k v t)=0):∀x∈cutR l k t,vU x≠vU (yE k v t):=by
 obtain⟨_,h0,h1,_⟩:=Aa hc;obtain⟨c1,c2,c3⟩:=h.clo ht h0 h1 k;intro x hx hs;unfold cutR at hx;have hk:x.key=k:=congrArg DSpot.key hs;have hmd:x.made=t:=congrArg DSpot.made hs;rcases(zn h.ord).1 hx with hx|⟨_,hx⟩
 . have:=(c3 x hx).2;omega
 . exact hx hk
theorem JF (h:Run l)(hn:yb l k=none):(putR l k v t).length=l.length+1:=by rw[DA h,hn]
theorem JG (h:Run l){e:DElem}(hn:yb l k=some e)(hm:¬ e.made=t):(putR l k v t).length=l.length+1:=by rw[DA h,hn];exact if_neg hm
theorem Kp (h:Run l)(ht:xU l<=t)(hc:wa (yE k v t)=0)(hn:(putR l k v t).length<=400):GG (cutR l k t) (yE k v t)=putR l k v t:=by
 obtain⟨_,h0,h1,_⟩:=Aa hc;have hcut:=h.cutR ht h0 h1 k;have hput:=h.putR ht hc hn;refine Fb (CJ (AU hcut.ord) _) (AU hput.ord) λx=>?_;rw[FZ];have hf:=Es h ht hc;unfold putR;rw[zn h.ord,t_,v_];constructor
 . rintro(rfl|⟨hx,_⟩)
   . exact .inl (.inr rfl)
   . unfold cutR at hx;rcases(zn h.ord).1 hx with hx|hx
     . exact .inl (.inl hx)
     . exact .inr hx
 . rintro((hx|rfl)|hx)
   . have hm:x∈cutR l k t:=(by unfold cutR;exact(zn h.ord).2 (.inl hx));exact .inr ⟨hm,hf x hm⟩
   . exact .inl rfl
   . have hm:x∈cutR l k t:=(by unfold cutR;exact(zn h.ord).2 (.inr hx));exact .inr ⟨hm,hf x hm⟩
end
theorem K3 {N:NL}(h:qY N=some (fN N))(root:Int):nlT ⟨root,fN N⟩=N:=(lE h).symm
theorem AO {t:DTree}{h:Nat}(hg:Good t h):lz F t=some (Au (vS t.nodes h t.root)):=Ao (zH hg) hg
omit [Big F] in
theorem Fq (t:DTree)(k:DKey)(v:ByteArray)(u:Int):pP F t k v u=(lz F t).bind λr1=>bif (r1 !=0) then some ((DTree.mk 0 []),r1) else (kO (DElem.mk k u 0 v)).bind λr2=>bif (r2 !=0) then some ((DTree.mk 0 []),r2) else
 (nC F t u).bind λr3=>bif r3 then some ((DTree.mk 0 []),9) else (oB F t k).bind λr4=>(mz F t).bind λr5 =>
 bif (r4.2&&(r4.1.made==u)) then (qc (σ:=NL×Int) (ρ:=NL) (Ax F (DElem.mk k u 0 v)) F (nlT r5,r5.root)).bind λq1=>(qY q1).bind λl1=>some ((DTree.mk r5.root l1),0)
 else (pc F t).bind λr16=>bif r16 then some ((DTree.mk 0 []),8) else
  (bif r4.2 then (qc (σ:=NL×Int) (ρ:=NL) (Ax F (DElem.mk r4.1.key r4.1.made u r4.1.val)) F (nlT r5,r5.root)).bind λq2=>some q2 else some (nlT r5):Option NL).bind λz5 =>
  (Gm F (DElem.mk k u 0 v) z5 r5.root).bind λz=>match z with|(z10,z11)=>(qY z11).bind λl2=>some ((DTree.mk z10 l2),0)
:=by
 unfold pP;simp only[DZ,KK];rfl
theorem DO {t:DTree}{h:Nat}(hg:Good t h)(k:DKey)(v:ByteArray)(u:Int)(hz:Iw (vS t.nodes h t.root) k v u=0) :
 ∃t' h',pP F t k v u=some (t',0)/\Good t' h'/\vS t'.nodes h' t'.root=putR (vS t.nodes h t.root) k v u:=by
 obtain⟨hrun,hc,hlast,hput⟩:=Cx.1 hz;obtain⟨_,u0,u1,_⟩:=Aa hc;have hl:=hrun.len;have hcut:=hrun.cutR hlast u0 u1 k
 have pre:∀r,((bif ((GS (yb (vS t.nodes h t.root) k)).2&&((GS (yb (vS t.nodes h t.root) k)).1.made==u)) then (qc (σ:=NL×Int) (ρ:=NL) (Ax F (yE k v u)) F (nlT t,t.root)).bind λq1=>(qY q1).bind λl1=>some ((DTree.mk t.root l1),(0:Int))
  else (pc F t).bind λr16=>bif r16 then some ((DTree.mk 0 []),8) else
   (bif (GS (yb (vS t.nodes h t.root) k)).2 then (qc (σ:=NL×Int) (ρ:=NL) (Ax F (DElem.mk (GS (yb (vS t.nodes h t.root) k)).1.key (GS (yb (vS t.nodes h t.root) k)).1.made u (GS (yb (vS t.nodes h t.root) k)).1.val)) F (nlT t,t.root)).bind λq2=>some q2 else some (nlT t):Option NL).bind λz5 =>
   (Gm F (yE k v u) z5 t.root).bind λz=>match z with|(z10,z11)=>(qY z11).bind λl2=>some ((DTree.mk z10 l2),0))=r)->pP F t k v u=r:=λr hh=>by
  rw[Fq,AO hg,obs,wu (xS.2 hrun),cond_false,show DElem.mk k u 0 v=yE k v u from rfl,wP,obs,wu hc,cond_false,Ar hg,obs,decide_eq_false o_,cond_false,AV hg hrun,obs,Ae hg.len hg.chk,obs];exact hh
 have add:∀(t1:DTree),Good t1 h->t1.root=t.root->vS t1.nodes h t1.root=cutR (vS t.nodes h t.root) k u->∃t' h',((Gm F (yE k v u) (nlT t1) t.root).bind λz=>match z with|(z10,z11)=>(qY z11).bind λl2=>some ((DTree.mk z10 l2),(0:Int)))=some (t',0)/\Good t' h'/\vS t'.nodes h' t'.root=putR (vS t.nodes h t.root) k v u:=λt1 g1 hr1 he1=>by
  obtain⟨root,N,a1,a2,h',a3,a4⟩:=HN (F:=F) (e:=yE k v u) g1 hc (by rw[he1];exact Es hrun hlast hc) (by rw[he1];exact hcut.len);rw[hr1] at a1;refine⟨⟨root,fN N⟩,h',?_,a3,?_⟩
  . rw[a1,obs];dsimp only;rw[a2,obs]
  . rw[a4,he1];exact Kp hrun hlast hc hput
 cases hn:yb (vS t.nodes h t.root) k with
 |none=>have hpl:=JF (v:=v) (t:=u) hrun hn;rw[hn] at pre;obtain⟨t',h',a1,a2,a3⟩:=add t hg rfl (I7 hrun hn).symm;refine⟨t',h',pre _ ?_,a2,a3⟩;show (bif false then _ else _)=_;rw[cond_false,Aq hg,obs,decide_eq_false o_,cond_false];show ((bif false then _ else some (nlT t):Option NL).bind _)=_;rw[cond_false,obs];exact a1
 |some e =>
  rw[hn] at pre;have hem:=(yT hrun.ord).1 hn;by_cases hm:e.made=u
  . obtain⟨N,c1,c2,c3,c4⟩:=De (F:=F) (e:=yE k v u) hg hc;refine⟨⟨t.root,fN N⟩,h,pre _ ?_,c3,by rw[c4];exact Kq hrun hn hm⟩;show (bif (true&&(e.made==u)) then _ else _)=_;rw[Bool.true_and,show (e.made==u)=true by rw[beq_iff_eq];exact hm,cond_true,c1,obs,c2,obs]
  . have hce:wa { e with gone:=u } = 0:=by have h1:=hcut.ok { e with gone:=u };refine h1 ?_;rw[<-CU hrun hn hm];exact M_.2 ⟨e,hem.1,if_pos rfl⟩
    obtain⟨N,c1,c2,c3,c4⟩:=De (F:=F) (e:={ e with gone:=u }) hg hce;obtain⟨t',h',a1,a2,a3⟩:=add ⟨t.root,fN N⟩ c3 rfl (by rw[<-CU hrun hn hm];exact c4);rw[K3 c2] at a1;refine⟨t',h',pre _ ?_,a2,a3⟩;have hpl:=JG (v:=v) hrun hn hm;show (bif (true&&(e.made==u)) then _ else _)=_;rw[Bool.true_and,show (e.made==u)=false by rw[beq_eq_false_iff_ne];exact hm,cond_false,Aq hg,obs,decide_eq_false o_,cond_false];show ((bif true then (qc (σ:=NL×Int) (ρ:=NL) (Ax F { e with gone:=u }) F (nlT t,t.root)).bind _ else _:Option NL).bind _)=_;rw[cond_true,c1,obs,obs];exact a1
omit [Big F] in
theorem Fp (t:DTree)(k:DKey)(u:Int):pO F t k u=(lz F t).bind λr1=>bif (r1 !=0) then some ((DTree.mk 0 []),r1) else (mw k).bind λr2=>bif (r2 !=0) then some ((DTree.mk 0 []),r2) else
 (nC F t u).bind λr3=>bif r3 then some ((DTree.mk 0 []),9) else (oB F t k).bind λr4=>bif (!r4.2) then some ((DTree.mk 0 []),4) else
 bif (r4.1.made==u) then (mz F t).bind λr5=>(jp r4.1).bind λr7=>(Il F r7 (nlT r5) r5.root).bind λz=>match z with|(z1,z2)=>(qY z1).bind λl1=>some ((DTree.mk z2 l1),0)
 else (mz F t).bind λr43=>(qc (σ:=NL×Int) (ρ:=NL) (Ax F (DElem.mk r4.1.key r4.1.made u r4.1.val)) F (nlT r43,r43.root)).bind λq11=>(qY q11).bind λl2=>some ((DTree.mk r43.root l2),0)
:=by
 unfold pO;simp only[DZ,KL];rfl
theorem DN {t:DTree}{h:Nat}(hg:Good t h)(k:DKey)(u:Int)(hz:I6 (vS t.nodes h t.root) k u=0) :
 ∃t' h',pO F t k u=some (t',0)/\Good t' h'/\vS t'.nodes h' t'.root=cutR (vS t.nodes h t.root) k u:=by
 obtain⟨hrun,hk,u0,u1,hlast,hnow⟩:=Ck.1 hz;obtain⟨e,hn⟩:=Option.isSome_iff_exists.1 hnow;have hem:=(yT hrun.ord).1 hn;have hcut:=hrun.cutR hlast u0 u1 k;rw[Fp,AO hg,obs,wu (xS.2 hrun),cond_false,yP,obs,wu hk,cond_false,Ar hg,obs,decide_eq_false o_,cond_false,AV hg hrun,obs,hn];show ∃t' h',(bif (!true) then _ else bif (e.made==u) then _ else _)=_/\_;rw[E_,cond_false];by_cases hm:e.made=u
 . obtain⟨root,N,o1,o2,h',o3,o4⟩:=Im (F:=F) (sp:=vU e) hg;refine⟨⟨root,fN N⟩,h',?_,o3,by rw[o4];exact J5 hrun hn hm⟩;rw[show (e.made==u)=true by rw[beq_iff_eq];exact hm,cond_true,Ae hg.len hg.chk,obs,wg,obs];show (Il F (vU e) (nlT t) t.root).bind _=_;rw[o1,obs];dsimp only;rw[o2,obs]
 . have hce:wa { e with gone:=u } = 0:=by refine hcut.ok { e with gone:=u } ?_;rw[<-CU hrun hn hm];exact M_.2 ⟨e,hem.1,if_pos rfl⟩
   obtain⟨N,c1,c2,c3,c4⟩:=De (F:=F) (e:={ e with gone:=u }) hg hce;refine⟨⟨t.root,fN N⟩,h,?_,c3,by rw[c4];exact CU hrun hn hm⟩;rw[show (e.made==u)=false by rw[beq_eq_false_iff_ne];exact hm,cond_false,Ae hg.len hg.chk,obs];show (qc (σ:=NL×Int) (ρ:=NL) (Ax F { e with gone:=u }) F (nlT t,t.root)).bind _=_;rw[c1,obs,c2,obs]
end
section
variable {F:Nat} [Big F]
def AR (t:DTree):List UInt8:=wh t.root.toNat 2++wh t.nodes.length 2
def wT (t:DTree):ByteArray:=ofL (AR t)
theorem xG (t:DTree):(AR t).length=4:=by unfold AR;rw[g_,vV,vV]
theorem Ee {t:DTree}{h:Nat}(g:Good t h):0<=t.root/\t.root<(t.nodes.length:Int):=by
 have:=g.ok
 cases h with
 |zero=>exact this.1
 |succ h=>exact this.1
theorem HF {t:DTree}{h:Nat}(g:Good t h):((kN F t.root 2).bind λr1=>(kN F (t.nodes.length:Int) 2).bind λr2=>(m5 r1 r2).bind λs1=>some s1:Option ByteArray)=some (wT t):=by
 have hr:=Ee g;have e:t.root=((t.root.toNat:Nat):Int):=o_;have h1:kN F t.root 2=some (ofL (wh t.root.toNat 2)):=by have:=yo (F:=F) t.root.toNat 2 c_;rw[<-e] at this;exact this
 have h2:kN F (t.nodes.length:Int) 2=some (ofL (wh t.nodes.length 2)):=yo (F:=F) t.nodes.length 2 c_;rw[h1,vT,h2,vT,xn (by rw[vV,vV];decide),vT];rfl
structure Fine (t:DTree) (l:List DElem):Prop where
 good:∃h,Good t h/\vS t.nodes h t.root=l
 run:Run l
 few:t.nodes.length<=100
theorem Fine.all {t:DTree}{l:List DElem}(f:Fine t l):j6 F t=some (l,0):=by obtain⟨h,g,rfl⟩:=f.good;exact zF (zH g) g
theorem Fine.chk {t:DTree}{l:List DElem}(f:Fine t l):∀n∈t.nodes,wq n=0:=by obtain⟨h,g,rfl⟩:=f.good;exact g.chk
theorem Fine.check {t:DTree}{l:List DElem}(f:Fine t l):lz F t=some 0:=by obtain⟨h,g,rfl⟩:=f.good;rw[AO g,xS.2 f.run]
structure Kept (R:List ByteArray) (q:Nat) (t:DTree):Prop where
 done:Done ⟨R,[]⟩ q (wT t)
 page:∀(i:Nat) (n:DNode),t.nodes[i]? = some n->pg R (1+i)=ofL (w9 n)
 small:∀j,1<=j->j<101->(pg R j).size<=2900
theorem BA {n:DNode}(h:wq n=0):(ofL (w9 n)).size<=2900:=by have:=BO h;rw[Dy,AN];omega
theorem CH (l:List DNode):∀a:List DNode,l.foldl (λa n=>a++[n]) a=a++l:=by
 induction l with
 |nil=>intro a;simp
 |cons x l ih=>intro a;rw[List.foldl_cons,ih];simp
theorem Ii {P0:List ByteArray}{W0:List DWrite}{R:List ByteArray}{q:Nat}{t:DTree}{l:List DElem}(hr:nA F ⟨P0,W0⟩=some (⟨R,[]⟩,0))(K:Kept R q t)(f:Fine t l) :
 j9 F P0 W0=some (R,[],t.root,t.nodes):=by
 obtain⟨h,g,hl⟩:=f.good;have hg:=Ee g;have hn:=f.few;have hR:R.length=201:=K.done.ok.len;unfold j9;rw[hr,vT];dsimp only;rw[show ((0:Int) !=0)=false from rfl,vZ,DG K.done.ok,vT];dsimp only;have hsz:(wT t).size=4:=xG t;have s1:km (wT t) 2 ((wT t).size:Int)=some (ofL (slc (AR t) 2 4)):=by rw[hsz];exact ze (l:=AR t) (a:=2) (b:=4) c_ (by rw[xG];decide)
 have s2:km (wT t) 0 2=some (ofL (slc (AR t) 0 2)):=ze (l:=AR t) (a:=0) (b:=2) c_ (by rw[xG];decide);have e1:slc (AR t) 2 4=wh t.nodes.length 2:=by unfold slc AR;rw[p6 (by rw[g_,vV,vV];decide)];exact List.drop_left' (vV _ _)
 have e2:slc (AR t) 0 2=wh t.root.toNat 2:=by unfold slc AR;rw[List.drop_zero];exact List.take_left' (vV _ _)
 rw[s1,s2,e1,e2,hsz,show (((4:Nat):Int) !=4)=false from rfl,vZ,vT,xR _ (by rw[vV];decide),vT,vT,xR _ (by rw[vV];decide),vT,xy,xy,
  Nat.mod_eq_of_lt (show t.nodes.length<256 ^ 2 by omega),Nat.mod_eq_of_lt (show t.root.toNat<256 ^ 2 by omega),decide_eq_false (show ¬ (100:Int)<(t.nodes.length:Int) by omega),vZ]
 rw[xE (F:=F) t.nodes (λa n=>a++[n]) [] (r:=.inl t.nodes) o_ rfl (λk n hk=>?_) (by dsimp only;rw[decide_eq_false o_,vZ,CH];rfl),vT]
 . dsimp only;rw[show (((t.root.toNat:Nat):Int))=t.root by omega];rw[show lz F (DTree.mk t.root t.nodes)=some 0 from f.check,vT];rfl
 . have hk1:=(ggs.1 hk).1;dsimp only;have hp:pg R (1+k)=ofL (w9 n):=K.page k n hk;have hc:=f.chk n (C_ hk);have hb:=BO hc;have hlen:((t.nodes.take k).foldl (λa n=>a++[n]) []).length=k:=by rw[CH,G_,L_];omega
   rw[decide_eq_true o_,wj,wt o_ o_,Bs o_ o_,vT,show (1+(k:Int)).toNat=1+k by omega,hp,ES _ (by rw[AN];omega),vT,Ix hc];dsimp only;rw[show ((0:Int) !=0)=false from rfl,vZ,yl (by rw[hlen,D_];omega) (by rw[hlen,D_];omega),vT,wt o_ o_]
def As (R:List ByteArray)(ns:List DNode):List DWrite:=(ns.zipIdx.filter λp=>decide (pg R (1+p.2)≠ofL (w9 p.1))).map λp=>⟨((1+p.2:Nat):Int),ofL (w9 p.1)⟩
theorem B5 {R:List ByteArray}{ns:List DNode}{w:DWrite}:w∈As R ns↔∃k n,ns[k]? = some n/\pg R (1+k)≠ofL (w9 n)/\w=⟨((1+k:Nat):Int),ofL (w9 n)⟩:=by
 unfold As;rw[M_];constructor
 . rintro⟨⟨n,k⟩,hm,rfl⟩;obtain⟨h1,h2⟩:=f_.1 hm;exact⟨k,n,v6.1 h1,of_decide_eq_true h2,rfl⟩
 . rintro⟨k,n,h1,h2,rfl⟩;exact⟨(n,k),f_.2 ⟨v6.2 h1,decide_eq_true h2⟩,rfl⟩
theorem IY {R:List ByteArray}{t:DTree}{l:List DElem}(f:Fine t l):FitOk (wT t) (As R t.nodes):=by
 have hn:=f.few;refine⟨by have:(wT t).size=4:=xG t;omega,?_,λw hw=>?_,λw hw=>?_,?_⟩
 . unfold As;rw[i_];exact m0 (S_ _ _) (by rw[List.length_zipIdx];exact hn)
 . obtain⟨k,n,h1,_,rfl⟩:=B5.1 hw;have:=(ggs.1 h1).1;dsimp only;omega
 . obtain⟨k,n,h1,_,rfl⟩:=B5.1 hw;exact BA (f.chk n (C_ h1))
 . unfold As;rw[R_];refine List.Pairwise.filter _ ?_;have:(t.nodes.zipIdx.map Prod.snd).Pairwise (·≠·):=by rw[List.zipIdx_map_snd];exact List.nodup_range'
   refine(R_.1 this).imp λ{a b} h=>?_;dsimp only;omega
theorem D8 (R:List ByteArray)(l:List (DNode×Nat)):∀a:List DWrite,l.foldl (λa p=>if pg R (1+p.2)=ofL (w9 p.1) then a else a++[⟨((1+p.2:Nat):Int),ofL (w9 p.1)⟩]) a=a++(l.filter λp=>decide (pg R (1+p.2)≠ofL (w9 p.1))).map λp=>⟨((1+p.2:Nat):Int),ofL (w9 p.1)⟩:=by
 induction l with
 |nil=>intro a;simp
 |cons p l ih =>
  intro a;rw[List.foldl_cons,ih];by_cases h:pg R (1+p.2)=ofL (w9 p.1)
  . rw[if_pos h,o8 (by rw[decide_eq_true_iff];exact λc=>c h)]
  . rw[if_neg h,o7 (by rw[decide_eq_true_iff];exact h),U_,List.append_assoc];rfl
theorem J3 (R:List ByteArray)(l:List (DNode×Nat)):(l.foldl (λa p=>if pg R (1+p.2)=ofL (w9 p.1) then a else a++[⟨((1+p.2:Nat):Int),ofL (w9 p.1)⟩]) ([]:List DWrite)).length<=l.length:=by rw[D8,G_,i_];exact S_ _ _
theorem Kept.ground {R:List ByteArray}{q:Nat}{t0 t:DTree}{l:List DElem}(K:Kept R q t0)(f:Fine t l)(hq:q<2147483647):StepsOk ⟨R,[]⟩ (wT t) (As R t.nodes) q (wT t0):=by have ft:=IY (R:=R) f;refine⟨K.done.ok,ft,λw hw=>?_,hq⟩;have:=ft.page w hw;rw[BE];exact K.small _ o_ o_
theorem Kept.next {R:List ByteArray}{q:Nat}{t0 t:DTree}{l:List DElem}(K:Kept R q t0)(f:Fine t l)(hq:q<2147483647):Kept (P4 q R (wT t) (As R t.nodes)) (q+1) t:=by
 have g:Ground q R (wT t) (As R t.nodes):=(K.ground f hq).ground;have hn:=f.few;refine⟨Le g K.done.quiet,λi n hi=>?_,λj h1 h2=>?_⟩
 . have hi1:=(ggs.1 hi).1;by_cases e:pg R (1+i)=ofL (w9 n)
   . rw[Ep g (1+i) o_ o_ (λw hw=>?_),e];obtain⟨k,m,a1,a2,rfl⟩:=B5.1 hw;dsimp only;intro c;obtain rfl:k=i:=o_;rw[hi] at a1;obtain rfl:=F_.inj a1;exact a2 e
   . exact Jy g (w:=⟨((1+i:Nat):Int),ofL (w9 n)⟩) (B5.2 ⟨i,n,hi,e,rfl⟩)
 . by_cases hw:∃w∈As R t.nodes,w.page=(j:Int)
   . obtain⟨w,hw,hp⟩:=hw;have:=Jy g hw;rw[hp,V_] at this;rw[this];exact g.fit.text w hw
   . rw[Ep g j h1 h2 (λw hw' c=>hw ⟨w,hw',c⟩)];exact K.small j h1 h2
theorem GB {R:List ByteArray}{q:Nat}{t0 t:DTree}{l:List DElem}(K:Kept R q t0)(f:Fine t l)(hq:q<2147483647) :
 jn F R [] t.root t.nodes=some (P4 q R (wT t) (As R t.nodes),[],zC q R (wT t) (As R t.nodes),0):=by
 obtain⟨h,g,hl⟩:=f.good;have hn:=f.few;have hR:R.length=201:=K.done.ok.len;have G:Ground q R (wT t) (As R t.nodes):=(K.ground f hq).ground;have hL:=zD q R (wT t) (As R t.nodes);have hcl:=G.fit.len;have h4:=G.len4;unfold jn;rw[HF g,vT];have hz:t.nodes.zipIdx.length=t.nodes.length:=List.length_zipIdx;rw[xE (F:=F) t.nodes.zipIdx (λa p=>if pg R (1+p.2)=ofL (w9 p.1) then a else a++[⟨((1+p.2:Nat):Int),ofL (w9 p.1)⟩]) [] (r:=As R t.nodes) o_ rfl (λk p hk=>?_) (by dsimp only;rw[decide_eq_false o_,vZ,D8];rfl),vT,vT]
 . rw[show o9 F ⟨R,[]⟩ (wT t) (As R t.nodes)=some (zC q R (wT t) (As R t.nodes),0) from Hf (K.ground f hq),vT];dsimp only;rw[show ((0:Int) !=0)=false from rfl,vZ,wt o_ o_,Jj G _ rfl,vT];dsimp only;rw[yl (by rw[J_];omega) (by rw[J_];omega),vT,yl c_ c_,vT,vT];rfl
 . obtain⟨n,i⟩:=p;have hk2:(t.nodes.zipIdx)[k]? = some (n,i):=hk;rw[List.getElem?_zipIdx] at hk2;obtain⟨m,hm,e⟩:=o5.1 hk2;obtain⟨rfl,hi⟩:=Prod.mk.inj e;obtain rfl:k=i:=o_;have hk1:=(ggs.1 hm).1;have hc:=f.chk m (C_ hm);have hcx:=J3 R (t.nodes.zipIdx.take k);rw[L_] at hcx;dsimp only;generalize (t.nodes.zipIdx.take k).foldl _ []=a at hcx ⊢;rw[decide_eq_true o_,wj,xA,hm,vT,Bi m (xo hc),if_pos hc,vT];dsimp only;rw[wt o_ o_,Bs o_ o_,vT,show (1+(k:Int)).toNat=1+k by omega];by_cases e:pg R (1+k)=ofL (w9 m)
   . rw[if_pos e,e,(tF _ _).2 rfl,E_,vZ,vT,wt o_ o_]
   . have hs:seq (pg R (1 + k)) (ofL (w9 m))=false:=by
      cases hh:seq (pg R (1+k)) (ofL (w9 m)) with
      |false=>rfl
      |true=>exact absurd ((tF _ _).1 hh) e
     rw[if_neg e,hs,Bool.not_false,wj,yl (by rw[D_];omega) (by rw[D_];omega),vT,vT,wt o_ o_];rfl
theorem Io {t:DTree}{h:Nat}(g:Good t h)(hr:Run (vS t.nodes h t.root)):oN F t=some (yV (vS t.nodes h t.root),0):=by unfold oN;rw[zF (zH g) g,vT];dsimp only;have hl:=hr.len;rw[show ((0:Int) !=0)=false from rfl,vZ,FB,vT];unfold ofR;rw[if_neg o_,D2.2 ⟨hr.ok,D6 g⟩]
theorem Jt:Fine newT []:=⟨⟨0,Bb,rfl⟩,Run.nil,by decide⟩
def AJ:List ByteArray:=((m4 201 (ofL [])).set 0 (hN 0 (wT newT))).set 1 (ofL (w9 ⟨1,[],[],[],[]⟩))
theorem K2:nu F=some (AJ,newT.root,newT.nodes):=by have hc:wq ⟨1,[],[],[],[]⟩=0:=Bb.chk _ (v_.2 rfl);have h4:(wT newT).size=4:=xG newT;unfold nu;rw[show sd 16 (201:Int)=some () by decide,vT,show (qU:Option DTree)=some newT from rfl,vT,HF Bb,vT,show oA F 0 (wT newT)=some (hN 0 (wT newT),0) from Ht 0 c_ (wT newT) o_,vT,KW,vT,show idx newT.nodes 0=some ⟨1,[],[],[],[]⟩ from rfl,vT,Bi _ (xo hc),if_pos hc,vT];dsimp only;have e1:idx ((m4 ((201:Int).toNat) ((P_ #[]):ByteArray)).set ((0:Int).toNat) (hN 0 (wT newT))) 1=some (pg ((m4 ((201:Int).toNat) ((P_ #[]):ByteArray)).set ((0:Int).toNat) (hN 0 (wT newT))) 1):=Bs c_ (by rw[K_,g6];decide);rw[e1,vT];rfl
theorem EV (j:Nat):pg AJ j=if j=1 then ofL (w9 ⟨1,[],[],[],[]⟩) else if j=0 then hN 0 (wT newT) else ofL []:=by
 unfold AJ;rw[BB _ _ _ _ (by rw[K_,g6];decide),BB _ _ _ _ (by rw[g6];decide),Li];by_cases h1:j=1
 . rw[if_pos h1.symm,if_pos h1]
 . rw[if_neg (λc=>h1 c.symm),if_neg h1];by_cases h0:j=0
   . rw[if_pos h0.symm,if_pos h0]
   . rw[if_neg (λc=>h0 c.symm),if_neg h0]
theorem F0:Kept AJ 0 newT:=by
 have hc:wq ⟨1,[],[],[],[]⟩=0:=Bb.chk _ (v_.2 rfl);have h4:(wT newT).size=4:=xG newT;have hl:AJ.length=201:=by unfold AJ;rw[K_,K_,g6]
 have hx:=Lb 0 (wT newT) c_ o_
 have hs:∀s∈AJ,s.size<=3500:=λs hs=>by
  unfold AJ at hs;rcases List.mem_or_eq_of_mem_set hs with h1|rfl
  . exact hx.good.pages s h1
  . have:=BA hc;omega
 refine⟨⟨⟨⟨Nat.le_of_eq hl,l_ _,hs,λw hw=>by cases hw⟩,hl,?_⟩,rfl,λi h1 h2=>?_⟩,λi n hi=>?_,λj h1 h2=>?_⟩
 . rw[BE,EV,if_neg c_,if_pos rfl];exact EM 0 c_ _ o_
 . dsimp only;rw[EV,if_neg o_,if_neg o_];intro n p t ho;have hz:Bf (ofL [])=none:=by decide
   rw[hz] at ho;cases ho
 . match i,hi with
   |0,hi=>obtain rfl:(⟨1,[],[],[],[]⟩:DNode)=n:=F_.inj hi;rw[EV,if_pos rfl]
   |i+1,hi=>exact absurd hi (by simp[newT])
 . rw[EV];split
   . exact BA hc
   . rw[if_neg o_];decide
end
section
theorem BK {zs:List Int}(hs:zs.Pairwise (·<=·)):∀m,m<=zs.length->(Lib.compactUpTo zs.toArray m).Pairwise (· < ·)/\(∀x∈Lib.compactUpTo zs.toArray m,∀j,m<=j+1->j<zs.length->x<=zs.toArray[j]!)/\∀x,x∈Lib.compactUpTo zs.toArray m↔∃j,j<m/\zs.toArray[j]! = x
 |0,_=>by simp[Lib.compactUpTo]
 |m+1,hm=>by
  obtain⟨h1,h2,h3⟩:=BK hs m o_;have at':∀j (hj:j<zs.length),zs.toArray[j]! = zs[j]:=λj hj=>by simp[hj]
  have le:∀i j,i<=j->j<zs.length->zs.toArray[i]!<=zs.toArray[j]!:=λi j hij hj=>by
   rw[at' i o_,at' j hj];rcases m9 i j with h|h
   . exact n9.1 hs i j o_ hj h
   . obtain rfl:i=j:=o_;exact y_ _
  rw[Lib.compactUpTo_succ]
  cases hk:Lib.keeps zs.toArray m with
  |true =>
   rw[if_pos rfl]
   have hne:m=0\/zs.toArray[m]!≠zs.toArray[m-1]!:=by
    unfold Lib.keeps at hk;by_cases h0:m=0
    . exact .inl h0
    . refine .inr λe=>?_;simp[h0,e] at hk
   refine⟨l9.2 ⟨h1,by simp,λx hx y hy=>?_⟩,λx hx j hj hjl=>?_,λx=>?_⟩
   . obtain rfl:=v_.1 hy;rcases hne with rfl|hne
     . simp[Lib.compactUpTo] at hx
     . by_cases h0:m=0
       . subst h0;simp[Lib.compactUpTo] at hx
       . have:=h2 x hx (m-1) o_ o_;have:=le (m-1) m o_ o_;omega
   . rcases t_.1 hx with hx|hx
     . exact h2 x hx j o_ hjl
     . obtain rfl:=v_.1 hx;exact le m j o_ hjl
   . rw[t_,v_,h3];constructor
     . rintro(⟨j,hj,rfl⟩|rfl)
       . exact⟨j,by omega,rfl⟩
       . exact⟨m,by omega,rfl⟩
     . rintro⟨j,hj,rfl⟩;rcases m9 j m with h|h
       . exact .inl ⟨j,h,rfl⟩
       . obtain rfl:j=m:=o_;exact .inr rfl
  |false =>
   have h4:m≠0/\zs.toArray[m]! = zs.toArray[m-1]!:=(by unfold Lib.keeps at hk;simpa using hk);rw[if_neg s_,List.append_nil];refine⟨h1,λx hx j hj hjl=>h2 x hx j o_ hjl,λx=>?_⟩;rw[h3];constructor
   . rintro⟨j,hj,rfl⟩;exact⟨j,by omega,rfl⟩
   . rintro⟨j,hj,rfl⟩;rcases m9 j m with h|h
     . exact⟨j,h,rfl⟩
     . obtain rfl:j=m:=o_;exact⟨j-1,by omega,h4.2.symm⟩
theorem BT (l:List Int):(kp l).Pairwise (·<=·):=by unfold kp;have:=List.pairwise_mergeSort (le:=λx y:Int=>decide (x<=y)) (λa b c h1 h2=>by simp only[decide_eq_true_eq] at *;omega) (λa b=>by simp only[Bool.or_eq_true,decide_eq_true_eq];omega) l;exact this.imp λh=>by simpa using h
def Ad (l:List Int):List Int:=Lib.compact (kp l)
theorem Fh (l:List Int):(Ad l).Pairwise (· < ·):=(BK (BT l) _ (q_ _)).1
theorem GQ {l:List Int}{x:Int}:x∈Ad l↔x∈l:=by
 have h:=(BK (BT l) _ (q_ _)).2.2 x;unfold Ad Lib.compact;rw[h];have hm:x∈kp l↔x∈l:=by unfold kp;exact List.mem_mergeSort
 rw[<-hm];constructor
 . rintro⟨j,hj,rfl⟩;rw[show (kp l).toArray[j]! = (kp l)[j] by simp[hj]];exact l7 hj
 . intro hx;obtain⟨j,hj,rfl⟩:=g8 hx;exact⟨j,hj,by simp[hj]⟩
theorem DW (l:List Int):(Ad l).length<=l.length:=by unfold Ad;rw[<-po l];exact rX _
end
section
def opn (e:DElem):DElem:={ e with gone:=0 }
def cls (q:DElem->Bool)(e:DElem):DElem:=bif q e then e else opn e
def xi (p q:DElem->Bool)(l:List DElem):List DElem:=(l.filter p).map (cls q)
theorem wS {p q:DElem->Bool}{l:List DElem}{x:DElem}:x∈xi p q l↔∃e∈l,p e=true/\x=cls q e:=by
 unfold xi;rw[M_];constructor
 . rintro⟨e,h,rfl⟩;rw[f_] at h;exact⟨e,h.1,h.2,rfl⟩
 . rintro⟨e,h1,h2,rfl⟩;exact⟨e,f_.2 ⟨h1,h2⟩,rfl⟩
theorem yM (q:DElem->Bool)(e:DElem):(cls q e).key=e.key:=by unfold cls opn;cases q e <;> rfl
theorem Dg (q:DElem->Bool)(e:DElem):(cls q e).made=e.made:=by unfold cls opn;cases q e <;> rfl
theorem yN {q:DElem->Bool}{e:DElem}(h:q e=true):cls q e=e:=by unfold cls;rw[h,cond_true]
theorem Cj {q:DElem->Bool}{e:DElem}(h:q e=false):cls q e=opn e:=by unfold cls;rw[h,cond_false]
structure Seen (l:List DElem) (t:Int) (p q:DElem->Bool):Prop where
 made:∀e∈l,p e=true->e.made<=t
 gone:∀e∈l,q e=true->e.gone≠0/\e.gone<=t
 shut:∀a∈l,∀b∈l,a.key=b.key->a.made<b.made->p b=true->p a=true/\q a=true
variable {l:List DElem} {t:Int} {p q:DElem->Bool}
theorem FD {e:DElem}(h:wa e=0):wa (opn e)=0:=by
 have:=Aa (k:=e.key) (v:=e.val) (t:=e.made);revert h;unfold wa opn;simp only;intro h
 (repeat' split at h) <;> (repeat' split) <;> first|omega|contradiction|simp_all
theorem Seen.run (s:Seen l t p q)(h:Run l):Run (xi p q l):=by
 refine⟨?_,λx hx=>?_,?_⟩
 . unfold xi;rw[i_];exact m0 (S_ _ _) h.len
 . obtain⟨e,h1,_,rfl⟩:=wS.1 hx;unfold cls
   cases q e with
   |true=>exact h.ok e h1
   |false=>exact FD (h.ok e h1)
 . unfold xi;rw[R_];have ho:=h.ord.filter p;refine List.Pairwise.imp_of_mem ?_ ho;intro a b ha hb hab;obtain⟨a1,a2⟩:=f_.1 ha;obtain⟨b1,b2⟩:=f_.1 hb;rw[yL] at hab ⊢;rw[yM,yM,Dg,Dg];refine hab.imp id λ⟨k1,k2,k3,k4⟩=>?_;obtain⟨_,hq⟩:=s.shut a a1 b b1 k1 k2 b2;rw[yN hq];exact⟨k1,k2,k3,k4⟩
theorem Seen.last (s:Seen l t p q)(h0:0<=t):xU (xi p q l)<=t:=by
 refine zb.2 ⟨h0,λx hx=>?_⟩;obtain⟨e,h1,h2,rfl⟩:=wS.1 hx;refine zK.2 ⟨by rw[Dg];exact s.made e h1 h2,?_⟩;unfold cls
 cases hq:q e with
 |true=>exact(s.gone e h1 hq).2
 |false=>exact h0
theorem Run.older (h:Run l){a b:DElem}(ha:a∈l)(hb:b∈l)(hk:a.key=b.key):a=b\/a.made<b.made\/b.made<a.made:=by
 rcases Ab h.ord ha hb with e|e|e
 . exact .inl e
 . rcases yL.1 e with h1|h1
   . rw[hk] at h1;have:=wi.refl b.key;omega
   . exact .inr (.inl h1.2.1)
 . rcases yL.1 e with h1|h1
   . rw[hk] at h1;have:=wi.refl b.key;omega
   . exact .inr (.inr h1.2.1)
theorem Seen.one (s:Seen l t p q)(h:Run l){a b:DElem}(ha:a∈l)(hb:b∈l)(hk:a.key=b.key)(pa:p a=true)(pb:p b=true)(qa:q a=false)(qb:q b=false):a=b:=by
 rcases h.older ha hb hk with e|e|e
 . exact e
 . have:=(s.shut a ha b hb hk e pb).2;rw[qa] at this;cases this
 . have:=(s.shut b hb a ha hk.symm e pa).2;rw[qb] at this;cases this
def Ci (p:DElem->Bool)(e:DElem):DElem->Bool:=λx=>p x||x==e
theorem wQ {e x:DElem}:Ci p e x=true↔p x=true\/x=e:=by unfold Ci;rw[Bool.or_eq_true,beq_iff_eq]
theorem Seen.cut (s:Seen l t p q)(h:Run l){e:DElem}(he:e∈l)(pe:p e=true)(qe:q e=false)(hg:e.gone=t)(h1:1<=t) :
 Seen l t p (Ci q e)/\I6 (xi p q l) e.key t=0/\cutR (xi p q l) e.key t=xi p (Ci q e) l:=by
 have hok:=h.ok e he
 have hm:e.made<t/\t<=2147483647/\zr e.key=0:=by
  have:wa e=0:=hok;unfold wa at this
  (repeat' split at this) <;> first|omega|(refine⟨?_,?_,?_⟩ <;> first|omega|simp_all)
 have s':Seen l t p (Ci q e):=⟨s.made,λx hx hq=>by
  rcases wQ.1 hq with hq|rfl
  . exact s.gone x hx hq
  . exact⟨by omega,by omega⟩,λa ha b hb hk hab pb=>by
  have:=s.shut a ha b hb hk hab pb
  exact⟨this.1,wQ.2 (.inl this.2)⟩⟩
 have r:=s.run h;have r':=s'.run h;have hl:=s.last o_;have hmem:opn e∈xi p q l:=wS.2 ⟨e,he,pe,(Cj qe).symm⟩;have hnow:yb (xi p q l) e.key=some (opn e):=(yT r.ord).2 ⟨hmem,rfl,rfl⟩;refine⟨s',Ck.2 ⟨r,hm.2.2,h1,hm.2.1,hl,by rw[hnow];rfl⟩,?_⟩;refine EB (Run.cutR r hl h1 hm.2.1 e.key).ord r'.ord λx=>?_;unfold cutR;rw[zn r.ord,B6];refine Iff.trans ?_ wS.symm;constructor
 . rintro((⟨hx,hgx⟩|⟨y,hy,hgy,hmy,rfl⟩)|⟨hx,hkx⟩)
   . obtain⟨a,a1,a2,rfl⟩:=wS.1 (wE.1 hx).1
     cases hq:q a with
     |true=>exact⟨a,a1,a2,by rw[yN hq,yN (wQ.2 (.inl hq))]⟩
     |false=>rw[Cj hq] at hgx;exact absurd rfl hgx
   . obtain⟨hy1,hyk⟩:=wE.1 hy;obtain⟨a,a1,a2,rfl⟩:=wS.1 hy1;rw[yM] at hyk
     cases hq:q a with
     |true=>rw[yN hq] at hgy;exact absurd hgy (s.gone a a1 hq).1
     |false=>obtain rfl:=s.one h a1 he hyk a2 pe hq qe;refine⟨a,a1,a2,?_⟩;rw[Cj hq,yN (wQ.2 (.inr rfl)),<-hg];rfl
   . obtain⟨a,a1,a2,rfl⟩:=wS.1 hx;rw[yM] at hkx;have hne:a≠e:=λe'=>hkx (by rw[e']);refine⟨a,a1,a2,?_⟩;unfold cls Ci;rw[show (a==e)=false from beq_eq_false_iff_ne.2 hne,Bool.or_false]
 . rintro⟨a,a1,a2,rfl⟩;by_cases hae:a=e
   . subst hae;refine .inl (.inr ⟨opn a,wE.2 ⟨hmem,rfl⟩,rfl,?_,?_⟩)
     . show a.made≠t;omega
     . rw[yN (wQ.2 (.inr rfl)),<-hg];rfl
   . have hc:cls (Ci q e) a=cls q a:=(by unfold cls Ci;rw[show (a==e)=false from beq_eq_false_iff_ne.2 hae,Bool.or_false]);rw[hc];by_cases hk:a.key=e.key
     . refine .inl (.inl ⟨wE.2 ⟨wS.2 ⟨a,a1,a2,rfl⟩,by rw[yM];exact hk⟩,?_⟩)
       cases hq:q a with
       |true=>rw[yN hq];exact(s.gone a a1 hq).1
       |false=>exact absurd (s.one h a1 he hk a2 pe hq qe) hae
     . exact .inr ⟨wS.2 ⟨a,a1,a2,rfl⟩,by rw[yM];exact hk⟩
theorem Seen.put (s:Seen l t p q)(h:Run l){e:DElem}(he:e∈l)(pe:p e=false)(qe:q e=false)(hm:e.made=t)(hs:∀a∈l,a.key=e.key->a.made<e.made->p a=true/\q a=true) :
 Seen l t (Ci p e) q/\Iw (xi p q l) e.key e.val t=0/\putR (xi p q l) e.key e.val t=xi (Ci p e) q l:=by
 have hok:=FD (h.ok e he);have hnew:yE e.key e.val t=opn e:=by rw[<-hm];rfl
 have h1:1<=t/\t<=2147483647:=by rw[<-hnew] at hok;exact⟨(Aa hok).2.1,(Aa hok).2.2.1⟩
 have s':Seen l t (Ci p e) q:=⟨λx hx hp=>by
  rcases wQ.1 hp with hp|rfl
  . exact s.made x hx hp
  . omega,s.gone,λa ha b hb hk hab pb=>by
  rcases wQ.1 pb with pb|rfl
  . have:=s.shut a ha b hb hk hab pb;exact⟨wQ.2 (.inl this.1),this.2⟩
  . have:=hs a ha hk hab
    exact⟨wQ.2 (.inl this.1),this.2⟩⟩
 have r:=s.run h;have r':=s'.run h;have hl:=s.last o_
 have hgone:∀x∈hist (xi p q l) e.key,x.gone≠0:=λx hx=>by
  obtain⟨hx1,hxk⟩:=wE.1 hx;obtain⟨a,a1,a2,rfl⟩:=wS.1 hx1;rw[yM] at hxk
  have hlt:a.made<e.made:=by
   rcases h.older a1 he hxk with e'|e'|e'
   . subst e';rw[pe] at a2;cases a2
   . exact e'
   . have:=s.made a a1 a2;omega
  have hq:=(hs a a1 hxk hlt).2;rw[yN hq];exact(s.gone a a1 hq).1
 have hput:putR (xi p q l) e.key e.val t=upd (xi p q l) e.key (hist (xi p q l) e.key++[opn e]):=by unfold putR;rw[Df hgone,hnew]
 have hlen:(putR (xi p q l) e.key e.val t).length<=400:=by
  have h2:=BJ (k:=e.key) (h:=hist (xi p q l) e.key++[opn e]) r.ord;rw[hput];rw[g_,D_] at h2;have h3:(xi p q l).length<l.length:=by unfold xi;rw[i_];exact o6.2 ⟨e,he,by rw[pe];decide⟩
  have:=h.len;omega
 have hE:Iw (xi p q l) e.key e.val t=0:=Cx.2 ⟨r,by rw[hnew];exact hok,hl,hlen⟩;refine⟨s',hE,?_⟩;refine EB (r.putR hl (by rw[hnew];exact hok) hlen).ord r'.ord λx=>?_;rw[hput,zn r.ord,t_,v_];refine Iff.trans ?_ wS.symm;constructor
 . rintro((hx|rfl)|⟨hx,_⟩)
   . obtain⟨a,a1,a2,rfl⟩:=wS.1 (wE.1 hx).1;exact⟨a,a1,wQ.2 (.inl a2),rfl⟩
   . exact⟨e,he,wQ.2 (.inr rfl),(Cj qe).symm⟩
   . obtain⟨a,a1,a2,rfl⟩:=wS.1 hx;exact⟨a,a1,wQ.2 (.inl a2),rfl⟩
 . rintro⟨a,a1,a2,rfl⟩;rcases wQ.1 a2 with a2|rfl
   . by_cases hk:a.key=e.key
     . exact .inl (.inl (wE.2 ⟨wS.2 ⟨a,a1,a2,rfl⟩,by rw[yM];exact hk⟩))
     . exact .inr ⟨wS.2 ⟨a,a1,a2,rfl⟩,by rw[yM];exact hk⟩
   . exact .inl (.inr (Cj qe))
end
section
theorem HT {n h:Nat}(hn:n<=400)(h1:cN n h=1)(h2:∀j,j<h->1<cN n j):sNk n h<=100:=by
 have a0:cN n 0<=50:=by show kOf n<=50;unfold kOf;split <;> omega
 have a1:cN n 1<=7:=by show kOf (cN n 0)<=7;unfold kOf;split <;> omega
 have a2:cN n 2<=1:=by show kOf (cN n 1)<=1;unfold kOf;split <;> omega
 match h with
 |0=>show cN n 0<=100;omega
 |1=>show cN n 0+cN n 1<=100;omega
 |2=>show cN n 0+cN n 1+cN n 2<=100;omega
 |h+3=>have:=h2 2 o_;omega
section
variable {F:Nat} [Big F]
theorem Db (P:List ByteArray)(W:List DWrite){t t1:DTree}{h:Nat}(g:Good t1 h)(hr:Run (vS t1.nodes h t1.root)) :
 ∃t',jR F P W t.root t.nodes t1.root t1.nodes 0=some (t'.root,t'.nodes,0)/\Fine t' (vS t1.nodes h t1.root):=by
 unfold jR;rw[show ((0:Int) !=0)=false from rfl,vZ];by_cases hn:(100:Int)<(t1.nodes.length:Int)
 . obtain⟨h',b1,b2,b3,b4,b5⟩:=FA hr.len hr.ok (D6 g);rw[decide_eq_true hn,wj,show oN F (DTree.mk t1.root t1.nodes)=some (yV (vS t1.nodes h t1.root),0) from Io g hr,vT];dsimp only;have hlen:=HT hr.len b4 b5;generalize vS t1.nodes h t1.root=m at b1 b2 b3 b4 b5 hr hlen;have hm:¬ (100:Int)<((yV m).nodes.length:Int):=by rw[b3];omega
   rw[decide_eq_false hm,vZ,vT];exact⟨yV m,rfl,⟨⟨h',b1,b2⟩,hr,by omega⟩⟩
 . rw[decide_eq_false hn,vZ,vT];exact⟨t1,rfl,⟨⟨h,g,rfl⟩,hr,by omega⟩⟩
theorem JP (P:List ByteArray)(W:List DWrite){t:DTree}{l:List DElem}(f:Fine t l)(k:DKey)(v:ByteArray)(u:Int)(hz:Iw l k v u=0) :
 ∃t',j8 F P W t.root t.nodes k v u=some (t'.root,t'.nodes,0)/\Fine t' (putR l k v u):=by
 obtain⟨h,g,rfl⟩:=f.good;unfold j8;obtain⟨t1,h1,a1,a2,a3⟩:=DO (F:=F) g k v u hz;obtain⟨hr,hc,hl,hn⟩:=Cx.1 hz;obtain⟨t',b1,b2⟩:=Db (F:=F) P W (t:=t) a2 (by rw[a3];exact hr.putR hl hc hn);rw[show pP F (DTree.mk t.root t.nodes) k v u=some (t1,0) from a1,vT];dsimp only;rw[b1,vT];rw[a3] at b2;exact⟨t',rfl,b2⟩
theorem JK (P:List ByteArray)(W:List DWrite){t:DTree}{l:List DElem}(f:Fine t l)(k:DKey)(u:Int)(hz:I6 l k u=0) :
 ∃t',lD F P W t.root t.nodes k u=some (t'.root,t'.nodes,0)/\Fine t' (cutR l k u):=by
 obtain⟨h,g,rfl⟩:=f.good;unfold lD;obtain⟨t1,h1,a1,a2,a3⟩:=DN (F:=F) g k u hz;obtain⟨hr,_,u0,u1,hl,_⟩:=Ck.1 hz;obtain⟨t',b1,b2⟩:=Db (F:=F) P W (t:=t) a2 (by rw[a3];exact hr.cutR hl u0 u1 k);rw[show pO F (DTree.mk t.root t.nodes) k u=some (t1,0) from a1,vT];dsimp only;rw[b1,vT];rw[a3] at b2;exact⟨t',rfl,b2⟩
theorem Ib {σ ρ:Type}{f:σ->Option (σ⊕ρ)}{Q:ρ->Prop}(n:Nat)(I:Nat->σ->Prop)(hn:n<=9223372036854775807){s:σ}(h0:I 0 s)(hs:∀k s,k<n->I k s->∃s',f s=some (.inl s')/\I (k+1) s')(he:∀s,I n s->∃r,f s=some (.inr r)/\Q r) :
 ∃r,iter f F s=some r/\Q r:=by
 have key:∀(m k N:Nat) (s:σ),k+m=n->m<N->I k s->∃r,iter f N s=some r/\Q r:=by
  intro m
  induction m with
  |zero=>intro k N s hk hN hI;obtain⟨N,rfl⟩:∃M,N=M+1:=⟨N-1,by omega⟩;obtain⟨r,h1,h2⟩:=he s (by rw[<-hk];exact hI);exact⟨r,by rw[iter,h1],h2⟩
  |succ m ih=>intro k N s hk hN hI;obtain⟨N,rfl⟩:∃M,N=M+1:=⟨N-1,by omega⟩;obtain⟨s',h1,h2⟩:=hs k s o_ hI;obtain⟨r,h3,h4⟩:=ih (k+1) N s' o_ o_ h2;exact⟨r,by rw[iter,h1];exact h3,h4⟩
 exact key n 0 F s o_ (zw hn) h0
end
theorem Run.apart {l:List DElem}(h:Run l){k:Nat}{e:DElem}(hk:l[k]? = some e):e∉l.take k:=λhm=>by obtain⟨i,hi,he⟩:=g8 hm;rw[L_] at hi;rw[List.getElem_take] at he;obtain⟨hkl,hke⟩:=ggs.1 hk;have:=n9.1 h.ord i k o_ hkl o_;rw[he,hke] at this;exact this.irrefl
theorem yw {l:List DElem}{k:Nat}{e x:DElem}(hk:l[k]? = some e):x∈l.take (k+1)↔x∈l.take k\/x=e:=by rw[Q_,hk,Option.toList_some,t_,v_]
theorem Di {e:DElem}(h:wa e=0):1<=e.made/\(e.gone=0\/e.made<e.gone):=by
 unfold wa at h
 (repeat' split at h) <;> omega
structure CutAt (l:List DElem) (t:Int) (k:Nat) (p q:DElem->Bool):Prop where
 p:∀x∈l,p x=true↔x.made<t
 q:∀x∈l,q x=true↔x.gone≠0/\(x.gone<t\/x.gone=t/\x∈l.take k)
structure PutAt (l:List DElem) (t:Int) (k:Nat) (p q:DElem->Bool):Prop where
 p:∀x∈l,p x=true↔x.made<t\/x.made=t/\x∈l.take k
 q:∀x∈l,q x=true↔x.gone≠0/\x.gone<=t
theorem Run.behind {l:List DElem}(h:Run l){a b:DElem}(ha:a∈l)(hb:b∈l)(hk:a.key=b.key)(hm:a.made<b.made):a.gone≠0/\a.gone<=b.made:=by
 rcases Ab h.ord ha hb with e|e|e
 . subst e;omega
 . rcases yL.1 e with h1|h1
   . rw[hk] at h1;have:=wi.refl b.key;omega
   . exact⟨h1.2.2.1,h1.2.2.2⟩
 . rcases yL.1 e with h1|h1
   . rw[hk] at h1;have:=wi.refl b.key;omega
   . omega
theorem CutAt.seen {l:List DElem}{t:Int}{k:Nat}{p q:DElem->Bool}(c:CutAt l t k p q)(h:Run l):Seen l t p q :=
 ⟨λe he hp=>by have:=(c.p e he).1 hp;omega,λe he hq=>by have:=(c.q e he).1 hq;exact⟨this.1,by omega⟩,λa ha b hb hk hab pb=>by
  have h1:=(c.p b hb).1 pb;have h2:=h.behind ha hb hk hab
  exact⟨(c.p a ha).2 o_,(c.q a ha).2 ⟨h2.1,.inl o_⟩⟩⟩
theorem PutAt.seen {l:List DElem}{t:Int}{k:Nat}{p q:DElem->Bool}(c:PutAt l t k p q)(h:Run l):Seen l t p q :=
 ⟨λe he hp=>by have:=(c.p e he).1 hp;omega,λe he hq=>(c.q e he).1 hq,λa ha b hb hk hab pb=>by
  have h1:=(c.p b hb).1 pb;have h2:=h.behind ha hb hk hab
  exact⟨(c.p a ha).2 (.inl o_),(c.q a ha).2 ⟨h2.1,by omega⟩⟩⟩
section
variable {F:Nat} [Big F]
theorem I8 (P:List ByteArray){l:List DElem}(h:Run l){t:Int}{k:Nat}{p q:DElem->Bool}{e:DElem}(he:l[k]? = some e)(c:CutAt l t k p q){tr:DTree}(f:Fine tr (xi p q l)) :
 ∃tr' q',(bif ((e.gone==t)&&(decide ((0:Int)<t))) then (lD F P [] tr.root tr.nodes e.key t).bind λr4=>some (r4.1,r4.2.1) else some (tr.root,tr.nodes):Option (Int×List DNode))=some (tr'.root,tr'.nodes)/\CutAt l t (k+1) p q'/\Fine tr' (xi p q' l):=by
 have hm:e∈l:=C_ he;have ht:=Di (h.ok e hm);by_cases hc:e.gone=t/\0<t
 . obtain⟨hg,h0⟩:=hc
   have qe:q e=false:=by
    cases hq:q e with
    |false=>rfl
    |true=>have:=(c.q e hm).1 hq;exact absurd (this.2.resolve_left o_).2 (h.apart he)
   obtain⟨s1,s2,s3⟩:=(c.seen h).cut h hm ((c.p e hm).2 o_) qe hg o_;obtain⟨tr',b1,b2⟩:=JK (F:=F) P [] f e.key t s2;rw[s3] at b2;refine⟨tr',Ci q e,?_,⟨c.p,λx hx=>?_⟩,b2⟩
   . rw[show ((e.gone==t)&&(decide ((0:Int)<t)))=true by rw[beq_iff_eq.2 hg,decide_eq_true h0];rfl,wj,b1,vT]
   . rw[wQ,c.q x hx,yw he];constructor
     . rintro(⟨h1,h2⟩|rfl)
       . exact⟨h1,h2.imp id λh=>⟨h.1,.inl h.2⟩⟩
       . exact⟨by omega,.inr ⟨hg,.inr rfl⟩⟩
     . rintro⟨h1,h2|⟨h2,h3|rfl⟩⟩
       . exact .inl ⟨h1,.inl h2⟩
       . exact .inl ⟨h1,.inr ⟨h2,h3⟩⟩
       . exact .inr rfl
 . refine⟨tr,q,?_,⟨c.p,λx hx=>?_⟩,f⟩
   . rw[show ((e.gone==t)&&(decide ((0:Int)<t)))=false from ?_,vZ];rw[Bool.and_eq_false_iff,beq_eq_false_iff_ne,decide_eq_false_iff_not];by_cases h1:e.gone=t
     . exact .inr λh2=>hc ⟨h1,h2⟩
     . exact .inl h1
   . rw[c.q x hx,yw he];constructor
     . rintro⟨h1,h2⟩;exact⟨h1,h2.imp id λh=>⟨h.1,.inl h.2⟩⟩
     . rintro⟨h1,h2|⟨h2,h3|rfl⟩⟩
       . exact⟨h1,.inl h2⟩
       . exact⟨h1,.inr ⟨h2,h3⟩⟩
       . exact absurd ⟨h2,by omega⟩ hc
theorem JH (P:List ByteArray){l:List DElem}(h:Run l){t:Int}{k:Nat}{p q:DElem->Bool}{e:DElem}(he:l[k]? = some e)(c:PutAt l t k p q){tr:DTree}(f:Fine tr (xi p q l)) :
 ∃tr' p',(bif (e.made==t) then (j8 F P [] tr.root tr.nodes e.key e.val t).bind λr5=>some (r5.1,r5.2.1) else some (tr.root,tr.nodes):Option (Int×List DNode))=some (tr'.root,tr'.nodes)/\PutAt l t (k+1) p' q/\Fine tr' (xi p' q l):=by
 have hm:e∈l:=C_ he;have ht:=Di (h.ok e hm);by_cases hg:e.made=t
 . have pe:p e=false:=by
    cases hp:p e with
    |false=>rfl
    |true=>have:=(c.p e hm).1 hp;exact absurd (this.resolve_left o_).2 (h.apart he)
   have qe:q e=false:=by
    cases hq:q e with
    |false=>rfl
    |true=>have:=(c.q e hm).1 hq;omega
   obtain⟨s1,s2,s3⟩:=(c.seen h).put h hm pe qe hg (λa ha hk hab=>by
    have h2:=h.behind ha hm hk hab
    exact⟨(c.p a ha).2 (.inl o_),(c.q a ha).2 ⟨h2.1,by omega⟩⟩)
   obtain⟨tr',b1,b2⟩:=JP (F:=F) P [] f e.key e.val t s2;rw[s3] at b2;refine⟨tr',Ci p e,?_,⟨λx hx=>?_,c.q⟩,b2⟩
   . rw[beq_iff_eq.2 hg,wj,b1,vT]
   . rw[wQ,c.p x hx,yw he];constructor
     . rintro(h2|rfl)
       . exact h2.imp id λh=>⟨h.1,.inl h.2⟩
       . exact .inr ⟨hg,.inr rfl⟩
     . rintro(h2|⟨h2,h3|rfl⟩)
       . exact .inl (.inl h2)
       . exact .inl (.inr ⟨h2,h3⟩)
       . exact .inr rfl
 . refine⟨tr,p,?_,⟨λx hx=>?_,c.q⟩,f⟩
   . rw[beq_eq_false_iff_ne.2 hg,vZ]
   . rw[c.p x hx,yw he];constructor
     . exact λh2=>h2.imp id λh=>⟨h.1,.inl h.2⟩
     . rintro(h2|⟨h2,h3|rfl⟩)
       . exact .inl h2
       . exact .inr ⟨h2,h3⟩
       . exact absurd h2 hg
theorem CW {σ ρ β γ:Type}{f:σ->Option (σ⊕ρ)}{K:ρ->Option γ}(g:β->γ)(S:β->Prop)(Q:ρ->Prop)(n:Nat)(I:Nat->σ->Prop)(hn:n<=9223372036854775807){s:σ}(h0:I 0 s)(hs:∀k s,k<n->I k s->∃s',f s=some (.inl s')/\I (k+1) s')(he:∀s,I n s->∃r,f s=some (.inr r)/\Q r)
 (hk:∀r,Q r->∃y,K r=some (g y)/\S y):∃y,(iter f F s).bind K=some (g y)/\S y:=by
 obtain⟨r,h1,h2⟩:=Ib (F:=F) n I hn h0 hs he;rw[h1,vT];exact hk r h2
theorem C0 {ts:List Int}(hs:ts.Pairwise (· < ·)){m:Nat}{t y:Int}(ht:ts[m]? = some t)(hy:y∈ts):(y∈ts.take m↔y<t)/\(y∈ts.take (m+1)↔y<=t):=by
 obtain⟨hm,hmt⟩:=ggs.1 ht;obtain⟨j,hj,rfl⟩:=g8 hy;have lt:∀i j (hi:i<ts.length) (hj:j<ts.length),i<j->ts[i]<ts[j]:=λi j hi hj h=>n9.1 hs i j hi hj h
 have mt:∀n,ts[j]∈ts.take n↔j<n:=λn=>by
  constructor
  . intro h;obtain⟨i,hi,he⟩:=g8 h;rw[L_] at hi;rw[List.getElem_take] at he;rcases Nat.lt_trichotomy i j with h1|h1|h1
    . have:=lt i j o_ hj h1;omega
    . omega
    . have:=lt j i hj o_ h1;omega
  . intro h;exact t6.2 ⟨j,by omega,rfl⟩
 rw[mt,mt,<-hmt];rcases Nat.lt_trichotomy j m with h1|h1|h1
 . have:=lt j m hj hm h1;exact⟨⟨λ_=>this,λ_=>h1⟩,⟨λ_=>by omega,λ_=>by omega⟩⟩
 . subst h1;exact⟨⟨λh=>absurd h (Nat.lt_irrefl _),λh=>absurd h (Int.lt_irrefl _)⟩,⟨λ_=>y_ _,λ_=>by omega⟩⟩
 . have:=lt m j hm hj h1;exact⟨⟨λh=>by omega,λh=>by omega⟩,⟨λh=>by omega,λh=>by omega⟩⟩
theorem Jx {l:List DElem}{p q:DElem->Bool}(hp:∀x∈l,p x=true)(hq:∀x∈l,q x=false->x.gone=0):xi p q l=l:=by
 unfold xi;rw[List.filter_eq_self.2 hp];refine(List.map_congr_left λx hx=>?_).trans (List.map_id l)
 cases h:q x with
 |true=>exact yN h
 |false=>rw[Cj h];have:=hq x hx h;unfold opn;rw[<-this];rfl
theorem CF {l:List DElem}(h:Run l):∃t:DTree,jh F l=some (AJ,t.root,t.nodes)/\Fine t l:=by
 have hl:=h.len;unfold jh;rw[K2,vT];dsimp only;refine CW (F:=F) (λt:DTree=>(AJ,t.root,t.nodes)) (λt=>Fine t l) (λz=>z.length<=800/\∀x,x∈z↔∃e∈l,x=e.made\/x=e.gone) l.length (λk s=>s.2=(k:Int)/\s.1.length=2*k/\∀x,x∈s.1↔∃e∈l.take k,x=e.made\/x=e.gone) o_ ⟨rfl,rfl,by simp⟩ ?_ ?_ ?_
 . rintro k ⟨a,i⟩ hk ⟨h1,ha,hm⟩;dsimp only at h1 ha hm;subst h1;obtain⟨e,he⟩:∃e,l[k]? = some e:=⟨_,gge hk⟩;dsimp only;rw[decide_eq_true (show (k:Int)<(l.length:Int) by omega),wj,vX,he,vT,wo (by simp only[z_,J_];omega) (by simp only[z_,J_];omega),vT,w64 o_ o_];refine⟨_,rfl,by simp,by simp[ha];omega,λx=>?_⟩;dsimp only;rw[t_,hm];constructor
   . rintro(⟨e',h1,h2⟩|h1)
     . exact⟨e',(yw he).2 (.inl h1),h2⟩
     . exact⟨e,(yw he).2 (.inr rfl),by simpa using h1⟩
   . rintro⟨e',h1,h2⟩;rcases(yw he).1 h1 with h1|rfl
     . exact .inl ⟨e',h1,h2⟩
     . exact .inr (by simpa using h2)
 . rintro⟨a,i⟩ ⟨h1,ha,hm⟩;dsimp only at h1 ha hm;subst h1;dsimp only;rw[decide_eq_false o_,vZ];refine⟨a,rfl,by omega,λx=>?_⟩;rw[hm,x_]
 . intro z ⟨hz,hmz⟩;rw[show uA z=some (kp z) by unfold uA;rw[if_pos o_],vT];rw[show Lib.compact (kp z)=Ad z from rfl];have hts:=Fh z;have hmt:∀x,x∈Ad z↔∃e∈l,x=e.made\/x=e.gone:=λx=>(GQ).trans (hmz x);have htl:(Ad z).length<=800:=m0 (DW z) hz;generalize Ad z=ts at hts hmt htl;have hmade:∀x∈l,x.made∈ts:=λx hx=>(hmt _).2 ⟨x,hx,.inl rfl⟩;have hgone:∀x∈l,x.gone∈ts:=λx hx=>(hmt _).2 ⟨x,hx,.inr rfl⟩;refine CW (F:=F) (λt:DTree=>(AJ,t.root,t.nodes)) (λt=>Fine t l) (λr=>∃t:DTree,r=(t.root,t.nodes)/\Fine t l) ts.length (λm s=>∃(tr:DTree) (p q:DElem->Bool),s=(tr.root,tr.nodes,(m:Int))/\Fine tr (xi p q l)/\(∀x∈l,p x=true↔x.made∈ts.take m)/\∀x∈l,q x=true↔x.gone≠0/\x.gone∈ts.take m) o_ ⟨newT,λ_=>false,λ_=>false,rfl,?_,by simp,by simp⟩ ?_ ?_ ?_
   . have:xi (λ_=>false) (λ_=>false) l=[]:=(by unfold xi;simp);rw[this];exact Jt
   . rintro m s hm ⟨tr,p,q,rfl,f,hp,hq⟩;obtain⟨t,ht⟩:∃t,ts[m]? = some t:=⟨_,gge hm⟩
     have c:CutAt l t 0 p q:=⟨λx hx=>(hp x hx).trans (C0 hts ht (hmade x hx)).1,λx hx=>by
      rw[hq x hx,(C0 hts ht (hgone x hx)).1]
      simp⟩
     dsimp only;rw[decide_eq_true (show (m:Int)<(ts.length:Int) by omega),wj,vX,ht,vT,w64 o_ o_];refine CW (F:=F) H_ _ (λr=>∃(tr:DTree) (q:DElem->Bool),r=(tr.root,tr.nodes)/\Fine tr (xi p q l)/\CutAt l t l.length p q) l.length (λk s=>∃(tr:DTree) (q:DElem->Bool),s=(tr.root,tr.nodes,(k:Int))/\Fine tr (xi p q l)/\CutAt l t k p q) o_ ⟨tr,q,rfl,f,c⟩ ?_ ?_ ?_
     . rintro k s hk ⟨tr,q,rfl,f,c⟩;obtain⟨e,he⟩:∃e,l[k]? = some e:=⟨_,gge hk⟩;obtain⟨tr',q',b1,b2,b3⟩:=I8 (F:=F) AJ h he c f;dsimp only;rw[decide_eq_true (show (k:Int)<(l.length:Int) by omega),wj,vX,he,vT,b1,vT,w64 o_ o_];exact⟨_,rfl,tr',q',by simp,b3,b2⟩
     . rintro s ⟨tr,q,rfl,f,c⟩;dsimp only;rw[decide_eq_false o_,vZ];exact⟨_,rfl,tr,q,rfl,f,c⟩
     . rintro r ⟨tr,q,rfl,f,c⟩
       have c2:PutAt l t 0 p q:=⟨λx hx=>by rw[c.p x hx];simp,λx hx=>by
        rw[c.q x hx,x_];constructor
        . rintro⟨h1,h2⟩;exact⟨h1,by omega⟩
        . rintro⟨h1,h2⟩;rcases Int.lt_or_eq_of_le h2 with h2|h2
          . exact⟨h1,.inl h2⟩
          . exact⟨h1,.inr ⟨h2,hx⟩⟩⟩
       dsimp only;refine CW (F:=F) H_ _ (λr=>∃(tr:DTree) (p:DElem->Bool),r=(tr.root,tr.nodes)/\Fine tr (xi p q l)/\PutAt l t l.length p q) l.length (λk s=>∃(tr:DTree) (p:DElem->Bool),s=(tr.root,tr.nodes,(k:Int))/\Fine tr (xi p q l)/\PutAt l t k p q) o_ ⟨tr,p,rfl,f,c2⟩ ?_ ?_ ?_
       . rintro k s hk ⟨tr,p,rfl,f,c⟩;obtain⟨e,he⟩:∃e,l[k]? = some e:=⟨_,gge hk⟩;obtain⟨tr',p',b1,b2,b3⟩:=JH (F:=F) AJ h he c f;dsimp only;rw[decide_eq_true (show (k:Int)<(l.length:Int) by omega),wj,vX,he,vT,b1,vT,w64 o_ o_];exact⟨_,rfl,tr',p',by simp,b3,b2⟩
       . rintro s ⟨tr,p,rfl,f,c⟩;dsimp only;rw[decide_eq_false o_,vZ];exact⟨_,rfl,tr,p,rfl,f,c⟩
       . rintro r ⟨tr,p,rfl,f,c⟩;refine⟨_,rfl,tr,p,q,by simp,f,λx hx=>?_,λx hx=>?_⟩
         . rw[c.p x hx,(C0 hts ht (hmade x hx)).2,x_];constructor
           . rintro(h1|h1) <;> omega
           . intro h1;rcases Int.lt_or_eq_of_le h1 with h1|h1
             . exact .inl h1
             . exact .inr ⟨h1,hx⟩
         . rw[c.q x hx,(C0 hts ht (hgone x hx)).2]
   . rintro s ⟨tr,p,q,rfl,f,hp,hq⟩;dsimp only;rw[decide_eq_false o_,vZ];refine⟨_,rfl,tr,rfl,?_⟩
     rw[Jx (λx hx=>(hp x hx).2 (by rw[x_];exact hmade x hx)) (λx hx hqx=>by
      by_cases h0:x.gone=0
      . exact h0
      . have:=(hq x hx).2 ⟨h0,by rw[x_];exact hgone x hx⟩
        rw[hqx] at this;cases this)] at f
     exact f
   . rintro r ⟨tr,rfl,f⟩;exact⟨tr,rfl,f⟩
end
end
section
variable {F:Nat} [Big F]
theorem Kx:Run [⟨⟨0,0,1⟩,1,0,P_ #[97]⟩]:=xS.1 c_
omit [Big F] in
theorem J4 {R:List ByteArray}(h:R.length=201):(((grow 16 ([]:List ByteArray) R).bind λ_=>(grow 24 ([]:List DWrite) ([]:List DWrite)).bind λ_=>some ():Option Unit).bind λ_=>some ():Option Unit)=some ():=by rw[yl (by rw[J_];omega) (by rw[J_];omega),vT,yl c_ c_,vT,vT]
theorem GX {R:List ByteArray}{q:Nat}{t:DTree}{l:List DElem}(K:Kept R q t)(f:Fine t l):j9 F R []=some (R,[],t.root,t.nodes):=Ii (EY K.done) K f
theorem Kept.len {R:List ByteArray}{q:Nat}{t:DTree}(K:Kept R q t):R.length=201:=K.done.ok.len
end
section
open Go.ChangeShapes
theorem IA (a:DElem):(DElem.mk (DKey.mk a.key.pfs a.key.obj a.key.off) a.made a.gone a.val==a)=true:=beq_self_eq_true a
theorem zh (F:Nat)[Big F](l:List DElem)(k:DKey)(u:Int)(k0:GV 56 okElem l)(k1:okKey k)(k2:Am .i64 u):mb F l k u=some true:=by
 unfold mb;rw[KM,vT];obtain⟨t1,a1,f1⟩:=CF (F:=F) Kx;rw[a1,vT];dsimp only;rw[show j6 F (DTree.mk t1.root t1.nodes)=_ from f1.all,vT,vT,vT];dsimp only;rw[Ay _ c_,vT,E_,vZ,Ac,vT];by_cases hr:Au l=0
 . have hR:=xS.1 hr;have hlen:=hR.len;obtain⟨t,c1,f⟩:=CF (F:=F) hR;have fl:=GB (F:=F) F0 f o_;have kn:=F0.next f o_;have hL:=zD 0 AJ (wT t) (As AJ t.nodes);rw[wu hr,vZ,c1,vT];dsimp only;rw[show j6 F (DTree.mk t.root t.nodes)=_ from f.all,vT,vT];dsimp only;rw[Ay l o_,vT,E_,vZ,fl,vT];dsimp only;rw[show ((0:Int) !=0)=false from rfl,Bool.false_or,beq_eq_false_iff_ne.2 (show ((zC 0 AJ (wT t) (As AJ t.nodes)).length:Int)≠0 by omega),vZ,J4 kn.len,vT,G_,G_,GX kn f,vT];dsimp only;rw[show j6 F (DTree.mk t.root t.nodes)=_ from f.all,vT,vT];dsimp only;obtain⟨h,g,hl⟩:=f.good;have hp:=EU (F:=F) (zH g) g k u;rw[hl] at hp;rw[Ay l o_,vT,E_,vZ,show rE F (DTree.mk t.root t.nodes) k u=_ from hp,vT,vT];dsimp only;rw[Iz,vT,IA,wj,beq_self_eq_true,vT]
 . rw[wJ hr,wj]
end
section
open Go.RowKit
theorem JD:ownKnob Tryz.prog.godebug=none:=by kernel_rfl
theorem Iu:laidOutB Tryz.prog=true:=by kernel_rfl
theorem Lg:yz Tryz.prog 24 vR okKey:=Ij Tryz.underlying24 (by kernel_rfl) rfl (by kernel_rfl) (zR Tryz.underlying3) rfl (by kernel_rfl) (zR Tryz.underlying3) rfl (by kernel_rfl) (zR Tryz.underlying3)
theorem Lm:yz Tryz.prog 28 eElem okElem:=GY Tryz.underlying28 (by kernel_rfl) rfl (by kernel_rfl) Lg rfl (by kernel_rfl) (zR Tryz.underlying3) rfl (by kernel_rfl) (zR Tryz.underlying3) rfl (by kernel_rfl) (Ik Tryz.underlying9)
theorem Ll:yz Tryz.prog 22 (ku eElem) (GV 56 okElem):=GZ Tryz.underlying22 (by kernel_rfl) (by kernel_rfl) Lm
set_option maxRecDepth 100000
def orderSigns:List Char:=[.ofNat 104,.ofNat 97,.ofNat 114,.ofNat 110,.ofNat 101,.ofNat 115,.ofNat 115,.ofNat 32,.ofNat 56,.ofNat 55,.ofNat 52,.ofNat 53,.ofNat 49,.ofNat 51,.ofNat 54,.ofNat 50,.ofNat 97,.ofNat 100,.ofNat 55,.ofNat 101,.ofNat 102,.ofNat 56,.ofNat 99,.ofNat 51,.ofNat 57,.ofNat 50,.ofNat 101,.ofNat 100,.ofNat 53,.ofNat 57,.ofNat 100,.ofNat 54,.ofNat 50,.ofNat 56,.ofNat 55,.ofNat 102,.ofNat 97,.ofNat 48,.ofNat 49,.ofNat 55,.ofNat 100,.ofNat 102,.ofNat 53,.ofNat 50,.ofNat 56,.ofNat 56,.ofNat 54,.ofNat 101,.ofNat 50,.ofNat 56,.ofNat 52,.ofNat 100,.ofNat 51,.ofNat 48,.ofNat 101,.ofNat 53,.ofNat 49,.ofNat 53,.ofNat 50,.ofNat 99,.ofNat 98,.ofNat 54,.ofNat 97,.ofNat 57,.ofNat 100,.ofNat 51,.ofNat 50,.ofNat 100,.ofNat 48,.ofNat 99,.ofNat 97,.ofNat 53,.ofNat 32,.ofNat 99,.ofNat 117,.ofNat 116,.ofNat 32,.ofNat 97,.ofNat 116,.ofNat 32,.ofNat 97,.ofNat 110,.ofNat 110,.ofNat 97,.ofNat 108,.ofNat 105,.ofNat 115,.ofNat 116,.ofNat 47,.ofNat 97,.ofNat 110,.ofNat 110,.ofNat 97,.ofNat 108,.ofNat 107,.ofNat 101,.ofNat 101,.ofNat 112,.ofNat 46,.ofNat 83,.ofNat 116,.ofNat 111,.ofNat 114,.ofNat 101,.ofNat 79,.ofNat 119,.ofNat 110,.ofNat 32,.ofNat 97,.ofNat 110,.ofNat 110,.ofNat 97,.ofNat 108,.ofNat 105,.ofNat 115,.ofNat 116,.ofNat 47,.ofNat 97,.ofNat 110,.ofNat 110,.ofNat 97,.ofNat 108,.ofNat 107,.ofNat 101,.ofNat 101,.ofNat 112,.ofNat 46,.ofNat 83,.ofNat 116,.ofNat 111,.ofNat 114,.ofNat 101,.ofNat 83,.ofNat 116,.ofNat 101,.ofNat 112,.ofNat 115,.ofNat 32,.ofNat 97,.ofNat 110,.ofNat 110,.ofNat 97,.ofNat 108,.ofNat 105,.ofNat 115,.ofNat 116,.ofNat 47,.ofNat 97,.ofNat 110,.ofNat 110,.ofNat 97,.ofNat 108,.ofNat 107,.ofNat 101,.ofNat 101,.ofNat 112,.ofNat 46,.ofNat 83,.ofNat 116,.ofNat 111,.ofNat 114,.ofNat 101,.ofNat 72,.ofNat 111,.ofNat 108,.ofNat 100,.ofNat 115,.ofNat 32,.ofNat 97,.ofNat 110,.ofNat 110,.ofNat 97,.ofNat 108,.ofNat 105,.ofNat 115,.ofNat 116,.ofNat 47,.ofNat 97,.ofNat 110,.ofNat 110,.ofNat 97,.ofNat 108,.ofNat 107,.ofNat 101,.ofNat 101,.ofNat 112,.ofNat 46,.ofNat 83,.ofNat 116,.ofNat 111,.ofNat 114,.ofNat 101,.ofNat 76,.ofNat 97,.ofNat 122,.ofNat 121,.ofNat 32,.ofNat 97,.ofNat 110,.ofNat 110,.ofNat 97,.ofNat 108,.ofNat 105,.ofNat 115,.ofNat 116,.ofNat 47,.ofNat 97,.ofNat 110,.ofNat 110,.ofNat 97,.ofNat 108,.ofNat 107,.ofNat 101,.ofNat 101,.ofNat 112,.ofNat 46,.ofNat 83,.ofNat 116,.ofNat 111,.ofNat 114,.ofNat 101,.ofNat 65,.ofNat 103,.ofNat 97,.ofNat 105,.ofNat 110]
theorem G3:Tryz.prog.initOrder = "harness 87451362ad7ef8c392ed59d6287fa017df52886e284d30e5152cb6a9d32d0ca5 cut at annalist/annalkeep.StoreOwn annalist/annalkeep.StoreSteps annalist/annalkeep.StoreHolds annalist/annalkeep.StoreLazy annalist/annalkeep.StoreAgain":=by kernel_rfl
theorem F4:("harness 87451362ad7ef8c392ed59d6287fa017df52886e284d30e5152cb6a9d32d0ca5 cut at annalist/annalkeep.StoreOwn annalist/annalkeep.StoreSteps annalist/annalkeep.StoreHolds annalist/annalkeep.StoreLazy annalist/annalkeep.StoreAgain" : String)=String.ofList orderSigns:=by kernel_rfl
theorem BC:Tryz.prog.initOrder.toList=orderSigns:=by rw[G3,F4];exact String.toList_ofList
theorem Kj (P:Program)(h:P.initOrder.toList=orderSigns):P.make=some .cut:=by unfold Program.make Program.headLifts;rw[h];kernel_rfl
theorem Jq (P:Program)(h:P.initOrder.toList=orderSigns):P.liftsFinal=false:=by unfold Program.liftsFinal Program.headLifts;rw[h];kernel_rfl
theorem I9 (P:Program)(h:P.initOrder.toList=orderSigns)(h1:P.laysLater=false)(h2:P.bearsReflect=false)(h3:P.doorFits []=true):P.mayEnter=true:=by
 unfold Program.mayEnter
 rw[h,h1,h2]
 have e:(stripLifts liftWords (behindMainWord (wordsSigns orderSigns))).1=[]:=by kernel_rfl
 have e0:behindMainWord (wordsSigns orderSigns) = "cut".toList::(behindMainWord (wordsSigns orderSigns)).tail:=by kernel_rfl
 rw[e0] at e ⊢
 dsimp only
 rw[e,h3]
 clear h h1 h2 h3
 change _=true
 kernel_rfl
theorem Iv:Tryz.prog.make=some .cut:=Kj _ BC
theorem G7:Tryz.prog.liftsFinal=false:=Jq _ BC
theorem G6:Tryz.prog.mayEnter=true:=I9 _ BC (by kernel_rfl) (by kernel_rfl) (by kernel_rfl)
end
end
end Go.Proofs.YtnofgfobljadbaaGreat
