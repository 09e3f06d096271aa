/- Plain Lean: what the editors' contracts compute is what the plain laws speak of. Its conditions: none. -/
import Derived.Test.YtnofgfobljadbaaGreatPRemW
open Option renaming bind→a_, bind_assoc→i_, some→x_, map_eq_some_iff→v6
open List renaming length_append→d_, mem_filter→g_, length_map→j_, flatMap_cons→p_, nil_append→q_, take_length→t_, mem_cons_self→u_, mem_append→v_, mem_of_getElem?→y_, mem_singleton→B_, length_singleton→E_, length_cons→F_, length_nil→G_, length_take→H_, mem_map→I_, length_filter_le→J_, mem_cons_of_mem→K_, flatMap_append→L_, take_append_drop→M_, length_set→N_, take_add_one→O_, map_cons→P_, pairwise_map→R_, length_flatMap→S_, flatMap_singleton→U_, length_replicate→X_, getElem_of_mem→Y_, all_eq_true→Z_, length→g6, set_set→g8, getElem_mem→g9, pairwise_append→l9, pairwise_cons→m0, filter_cons_of_pos→m4, filter_cons_of_neg→m9, take_of_length_le→n9, drop_eq_getElem_cons→o5, mem_iff_getElem?→o6, find?_cons→o7, length_drop→o8, replicate→p7, pairwise_iff_getElem→t6, length_filter_lt_length_iff_exists→v7, filter_sublist→v8, mem_of_mem_drop→w6, mem_take_iff_getElem→w7, mem_zipIdx_iff_getElem?→B1, filter_eq_self→B2, findSome?_eq_none_iff→B3, exists_of_findSome?_eq_some→C1
open Sum renaming inr→f_, inl→z_
open Nat renaming le_refl→l_, zero_le→D_, le_trans→W_, lt_or_ge→p8
open Int renaming le_refl→C_, toNat_natCast→T_
open ByteArray renaming mk→Q_
open Bool renaming eq_iff_iff→V_, not_true→l7, true_and→p6, or_eq_true→t7
namespace Go.Proofs.YtnofgfobljadbaaGreat
set_option linter.unusedSimpArgs false
set_option linter.unusedVariables false
section
section
variable {F:Nat}
theorem EQ {α:Type}(x:Option α):(x.bind λz=>some z)=x:=by cases x <;> rfl
theorem Eg (root:Int)(N:NL)(i:Int)(e:DElem):j7 F root N i e=qc (Ay F e) F (N,i):=EQ _
theorem IG (root:Int)(N:NL)(i:Int)(e:DElem):kW F root N i e=qc (BB F e) F (N,i):=by refine Eq.trans ?_ (EQ (qc (BB F e) F (N,i)));refine congrArg (λg=>(qc g F (N,i)).bind λz=>some z) (funext λrf=>funext λx=>?_);rfl
theorem Lh (root:Int)(N:NL)(e:DElem):lw F root N e=GI F e N root:=by unfold lw GI;rw[IG];rfl
theorem BG (N:NL)(i:Int):(ja N i).length=N.length:=N_
theorem KY {N:NL}{a b:Int}{x y:DNode}(h:a.toNat≠b.toNat):jA (jA (ja (ja N a) b) a x) b y=jA (jA (ja N a) a x) b y:=by unfold jA;rw[show ja (ja N a) b=(ja N a).set b.toNat (.inl ((((ja N a)[b.toNat]?).map tD).getD 0)) from rfl,List.set_comm _ _ (Ne.symm h),g8]
theorem HR {N M:NL}{i:Int}(h:N.length=M.length):ll N i=ll M i:=by unfold ll;rw[h]
theorem LB {N:NL}{a b:Int}{n:DNode}(h:kI (ja N a) b=some n):a.toNat≠b.toNat:=λe=>by
 obtain⟨_,h2⟩:=nU h;rw[<-e] at h2;have hl:a.toNat<N.length:=by have:=(ggs.1 h2).1;rwa[BG] at this
 unfold ja at h2;rw[List.getElem?_set_self hl] at h2;cases h2
theorem KO (n m:DNode)(s:DSpot):mL n.kind n.elems n.kids n.seps n.tids m.kind m.elems m.kids m.seps m.tids s=F6 n m s:=rfl
theorem KH (root:Int)(n:DNode)(r10 r11:Int)(N:NL):kX F root N n.kind n.elems n.kids n.seps (n.tids.set r10.toNat r11) r10=(Dw F n r10 r11 N).bind λz=>some (z.2.2.2,z.1,z.2.1,z.2.2.1):=by
 unfold kX Dw;rw[i_];refine congrArg (a_ _) (funext λz=>?_);rw[i_];refine congrArg (a_ _) (funext λa=>?_);rw[i_];refine congrArg (a_ _) (funext λb=>?_);rw[i_]
 cases h1:kI N a with
 |none=>rfl
 |some n1 =>
 rw[obs,obs,i_]
 cases h2:kI (ja N a) b with
 |none=>rfl
 |some n2 =>
 have hne:=LB h2;rw[obs,obs,i_];refine congrArg (a_ _) (funext λx=>?_);rw[i_,KO];refine congrArg (a_ _) (funext λX=>?_);rw[i_];have hh:∀q,ll (ja (ja N a) b) q=ll (ja N a) q:=λq=>HR (BG _ _);have hp:∀q y,ll (jA (ja (ja N a) b) a y) q=ll (jA (ja N a) a y) q:=λq y=>HR (by rw[vZ,vZ,BG]);simp only[hh,hp,KY hne];refine Eq.trans (b:=(J3 F n r10 r11 N z a b n1 n2 X).bind λz'=>(kI z'.2.2.2 a).bind λn7=>(jw F n7).bind λr24=>(idx z'.2.2.1 z).bind λ_=>some (z'.2.2.2,z'.1,z'.2.1,z'.2.2.1.set z.toNat r24)) rfl ?_;refine congrArg (a_ _) (funext λq=>?_);obtain⟨q1,q2,q3,q4⟩:=q;dsimp only;rw[i_];refine congrArg (a_ _) (funext λn7=>?_);rw[i_];refine congrArg (a_ _) (funext λg=>?_);rw[i_];rfl
set_option maxHeartbeats 4000000 in
theorem I9 (root:Int)(N:NL)(i:Int)(s:DSpot):kK F root N i s=qc (Da F s) F (N,i):=by
 refine Eq.trans ?_ (EQ (qc (Da F s) F (N,i)));refine congrArg (λg=>(qc g F (N,i)).bind λz=>some z) (funext λrf=>funext λx=>?_);obtain⟨x1,x2⟩:=x;show a_ (kI x1 x2) _=a_ (kI x1 x2) _
 cases kI x1 x2 with
 |none=>rfl
 |some n =>
 rw[obs,obs];refine congr (congrArg (λa b=>bif n.kind==1 then a else b) ?_) ?_
 . exact congrArg (λq=>a_ q _) (show _=KD F n.elems s from rfl)
 . refine congrArg (a_ _) (funext λw=>?_);refine congrArg (a_ _) (funext λk=>?_);refine congrArg (a_ _) (funext λN2=>?_);refine congrArg (a_ _) (funext λk2=>?_);refine congrArg (a_ _) (funext λn4=>?_);refine congrArg (a_ _) (funext λg=>?_);refine congrArg (a_ _) (funext λt=>?_);refine congrFun (congrArg a_ ?_) _;unfold KZ
   cases decide ((IntKind.i64.wrap ((n4.elems.length:Int)+(n4.kids.length:Int)))<4) with
   |false=>rfl
   |true=>rw[cond_true,cond_true,KH,i_];refine congrArg (a_ _) (funext λq=>?_);obtain⟨q1,q2,q3,q4⟩:=q;rfl
theorem Jl (root:Int)(N:NL)(s:DSpot):lZ F root N s=Gk F s N root:=by unfold lZ Gk;rw[I9]
end
section
variable {F:Nat} [Big F]
theorem Fb {n:DNode}(h:wr n=0):pH n=some n:=by
 obtain⟨h1,h2⟩:=yk h
 have h3:n.seps.length<=8/\n.tids.length<=8:=by
  rcases wx.1 h with h|h|h
  . rw[h.2.2.2.1,h.2.2.2.2];simp
  . rw[h.2.seps,h.2.tids];simp
  . have:=h.2.seps;have:=h.2.tids;omega
 unfold pH;rw[wq (by simp;omega) (by simp;omega),obs,wq (by simp;omega) (by simp;omega),obs,wq (by simp;omega) (by simp;omega),obs,wq (by simp;omega) (by simp;omega),obs];rfl
theorem Db {N:NL}(h:∀(j:Nat) (k:Int),N[j]?≠some (.inl k)):qY N=some (fN N):=by
 have e:N=(fN N).map f_:=List.ext_getElem? λj=>by
  rw[List.getElem?_map,Az]
  cases hj:N[j]? with
  |none=>rfl
  |some x =>
   cases x with
   |inl k=>exact absurd hj (h j k)
   |inr n=>rfl
 conv=>lhs;rw[e]
 exact vo _
theorem yl {t:DTree}(hl:t.nodes.length<=400)(hc:∀n∈t.nodes,wr n=0):mz F t=some t:=by
 unfold mz;rw[wB (λk=>((t.nodes.take k).map (f_:DNode->Int⊕DNode),(k:Int))) t.nodes.length s_ o_ (λk hk=>?_) (r:=t.nodes.map f_) ?_,obs,vo,obs]
 . dsimp only;rw[decide_eq_false o_,cond_false,t_]
 . have hg:t.nodes[k]? = some t.nodes[k]:=gge hk;have hr:tE 104 (((t.nodes.take k).map (f_:DNode->Int⊕DNode)).length+1)=some ():=by unfold tE;rw[j_,H_,if_pos ⟨by omega,by unfold maxLen;omega⟩]
   dsimp only;rw[decide_eq_true o_,cond_true,vX,hg,obs,Fb (hc _ (g9 _)),obs,hr,obs,w64 o_ o_,O_,hg,List.map_append];rfl
def nlT (t:DTree):NL:=t.nodes.map f_
theorem wU (t:DTree):fN (nlT t)=t.nodes:=Ln _
theorem CE {t:DTree}{j:Nat}{x:Int⊕DNode}(h:(nlT t)[j]? = some x):∃n,t.nodes[j]? = some n/\x=.inr n:=by unfold nlT at h;rw[List.getElem?_map] at h;obtain⟨n,hn,rfl⟩:=v6.1 h;exact⟨n,hn,rfl⟩
theorem Dz {t:DTree}{h:Nat}(g:Good t h):xr (nlT t):=λn hn=>by rw[wU] at hn;exact g.chk n hn
theorem AB {t:DTree}{h:Nat}(g:Good t h):wo (fN (nlT t)) h t.root (mOf 0 h) topS:=by rw[wU];exact(Dh g.chk h t.root 0 topS (C_ _)).1 g.ok
theorem FX {α:Type}{p:α->Bool}:∀ {N:List α} {K:List Nat},K.Nodup->(∀(j:Nat) (x:α),N[j]? = some x->p x=true->j∈K)->N.countP p<=K.length
 |[],K,_,_=>D_ _
 |a::N,K,hn,h=>by
  have hK:∀(j:Nat) (x:α),N[j]? = some x->p x=true->j∈(K.filter (λj=>j !=0)).map (· - 1):=λj x hx hp =>
   I_.2 ⟨j+1,g_.2 ⟨h (j+1) x (by simpa using hx) hp,by simp⟩,by simp⟩
  have hnd:((K.filter (λj=>j !=0)).map (· - 1)).Nodup:=by unfold List.Nodup;rw[R_];refine((hn.filter _).imp_of_mem λ{a b} ha hb hab e=>hab ?_);have h1:=(g_.1 ha).2;have h2:=(g_.1 hb).2;simp only[bne_iff_ne,ne_eq] at h1 h2;omega
  have ih:=FX hnd hK;rw[j_] at ih;rw[List.countP_cons];by_cases hp:p a=true
  . have h0:0∈K:=h 0 a rfl hp;have hlt:(K.filter (λj=>j !=0)).length<K.length:=v7.2 ⟨0,h0,by simp⟩;rw[if_pos hp];omega
  . have:=J_ (λj=>j !=0) K;rw[if_neg hp];omega
theorem Iy {t:DTree}{h:Nat}(g:Good t h):used (nlT t)<=(ids t.nodes h t.root).length:=by refine FX g.nodup λj x hx hp=>?_;obtain⟨n,hn,rfl⟩:=CE hx;have hlt:=(ggs.1 hn).1;exact g.all j hlt (by rw[Ci hn];exact yz.1 hp)
theorem KJ {ns:List DNode}(hns:∀n∈ns,wr n=0):∀ {h:Nat} {i:Int} {s:Span},wo ns h i 4 s->3*(ids ns h i).length+1<=(vS ns h i).length:=by
 intro h
 induction h with
 |zero=>intro i s c;have:=c.2.2.1;simp only[ids,vS,E_];omega
 |succ h ih =>
  intro i s c;rw[ids,vS,F_,S_,S_]
  have key:∀l:List Int,(∀k∈l,3*(ids ns h k).length+1<=(vS ns h k).length)->3*(l.map λa=>(ids ns h a).length).sum+l.length<=(l.map λa=>(vS ns h a).length).sum:=by
   intro l
   induction l with
   |nil=>intro _;simp
   |cons a l ihl=>intro hk;have:=ihl λk h=>hk k (K_ _ h);have:=hk a u_;simp only[P_,List.sum_cons,F_];omega
  have:=key (nd ns i).kids λk hk=>by obtain⟨t,s',x,_⟩:=c.2.2.2.mem k hk;exact ih x.1
  have:=c.2.2.1;omega
theorem JP {t:DTree}{h:Nat}(g:Good t h)(hl:(vS t.nodes h t.root).length<=400):(ids t.nodes h t.root).length<=134/\h<134:=by
 have hh:=Bx g.chk h t.root 0 topS g.ok;have c:=AB g;rw[wU] at c
 have:(ids t.nodes h t.root).length<=134:=by
  cases h with
  |zero=>simp[ids]
  |succ h =>
   have key:∀l:List Int,(∀k∈l,3*(ids t.nodes h k).length+1<=(vS t.nodes h k).length)->3*(l.map λa=>(ids t.nodes h a).length).sum+l.length<=(l.map λa=>(vS t.nodes h a).length).sum:=by
    intro l
    induction l with
    |nil=>intro _;simp
    |cons a l ihl=>intro hk;have:=ihl λk h=>hk k (K_ _ h);have:=hk a u_;simp only[P_,List.sum_cons,F_];omega
   have h1:=key (nd t.nodes t.root).kids λk hk=>by obtain⟨t',s',x,_⟩:=c.2.2.2.mem k hk;exact KJ g.chk x.1
   have h2:2<=(nd t.nodes t.root).kids.length:=(by have:=c.2.2.1;unfold mOf at this;simpa using this);rw[vS,S_] at hl;rw[ids,F_,S_];omega
 omega
theorem De {N:NL}{h:Nat}{root:Int}(hc:xr N)(hl:N.length<=400)(c:wo (fN N) h root (mOf 0 h) topS)(hn:(ids (fN N) h root).Nodup)(hall:∀(j:Nat) (x:Int⊕DNode),N[j]? = some x->tD x≠0->j∈ids (fN N) h root):Good ⟨root,fN N⟩ h:=by
 refine⟨by show (fN N).length<=400;rw[wd];exact hl,hc,(Dh hc h root 0 topS (C_ _)).2 c,hn,λi hi hk=>?_⟩;have hi':i<(fN N).length:=hi;rw[wd] at hi';have hg:N[i]? = some N[i]:=gge hi';refine hall i _ hg λh0=>hk ?_;have:nd (fN N) (i:Int)=fN1 N[i]:=by unfold nd;rw[T_,Az,hg];rfl
 rw[this]
 cases hx:N[i] with
 |inl k=>rfl
 |inr n=>rw[hx] at h0;exact h0
theorem Lw (d:Int)(h:Nat):mOf d h<=4:=by
 unfold mOf;split
 . exact l_ _
 . split <;> omega
theorem Gf {t:DTree}{h:Nat}(g:Good t h){N':NL}{K:List Nat}{c:Nat}(f:Fr2 (nlT t) N' (ids (fN (nlT t)) h t.root) K c)(hK:∀j∈K,∃n:DNode,N'[j]? = some (.inr n)/\n.kind≠0):∀(j:Nat) (k:Int),N'[j]?≠some (.inl k):=λj k hj=>by
 have hold:∀(j:Nat) (x:Int⊕DNode),(nlT t)[j]? = some x->tD x≠0->j∈ids (fN (nlT t)) h t.root:=λj x hx hk=>by obtain⟨n,hn,rfl⟩:=CE hx;rw[wU];exact g.all j (ggs.1 hn).1 (by rw[Ci hn];exact hk)
 by_cases hk:k=0
 . subst hk;obtain⟨n,_,h⟩:=CE (f.zero j hj);cases h
 . rcases f.all j _ hj hk with h|⟨h,y,hy,hyk⟩
   . obtain⟨n,hn,_⟩:=hK j h;rw[hn] at hj;cases hj
   . exact h (hold j y hy hyk)
theorem HL {t:DTree}{h:Nat}(g:Good t h){N':NL}{K:List Nat}{c:Nat}(f:Fr2 (nlT t) N' (ids (fN (nlT t)) h t.root) K c):∀(j:Nat) (x:Int⊕DNode),N'[j]? = some x->tD x≠0->j∈K:=λj x hx hk=>by
 rcases f.all j x hx hk with h|⟨h,y,hy,hyk⟩
 . exact h
 . obtain⟨n,hn,rfl⟩:=CE hy;exact absurd (by rw[wU];exact g.all j (ggs.1 hn).1 (by rw[Ci hn];exact hyk)) h
theorem Ih {t:DTree}{h:Nat}{e:DElem}(g:Good t h)(he:wa e=0)(hne:∀x∈vS t.nodes h t.root,vU x≠vU e)(hl:(vS t.nodes h t.root).length<=400) :
 ∃(root:Int) (N:NL),GI F e (nlT t) t.root=some (root,N)/\qY N=some (fN N)/\∃h',Good ⟨root,fN N⟩ h'/\vS (fN N) h' root=G6 (vS t.nodes h t.root) e:=by
 obtain⟨f1,f2⟩:=JP g hl;have hu:=Iy g;have hF:=(inferInstance:Big F).le;have c:=AB g;have hsort:=(xB g.chk h t.root 0 topS g.ok).1;have hlen:(nlT t).length<=400:=by unfold nlT;rw[j_];exact g.len
 obtain⟨N',sp,r,b,hrun,hpost⟩:=JS (F:=F) he h F (nlT t) t.root (mOf 0 h) topS o_ (Dz g) hlen o_ c (by rw[wU];exact g.nodup) rfl (by rw[wU];exact hne)
 have sorted:∀ {ns:List DNode} {h':Nat} {root:Int},Good ⟨root,ns⟩ h'->(∀x,x∈vS ns h' root↔x=e\/x∈vS t.nodes h t.root)->vS ns h' root=G6 (vS t.nodes h t.root) e:=λ{ns h' root} gg hm=>by
  refine Fq (xB gg.chk h' root 0 topS gg.ok).1 (CV hsort e) λx=>?_;rw[hm x,Ge];constructor
  . rintro(h|h)
    . exact .inl h
    . exact .inr ⟨h,hne x h⟩
  . rintro(h|h)
    . exact .inl h
    . exact .inr h.1
 unfold GI;rw[hrun,obs];dsimp only;rcases hpost with ⟨rfl,P⟩|⟨rfl,hsp,P⟩
 . obtain⟨k,t',e1,e2,x⟩:=P.ch;obtain rfl:t.root=k:=by simpa using e1
   have hK:[t.root].flatMap (ids (fN N') h)=ids (fN N') h t.root:=U_ ..;have fr:=P.fr;rw[hK] at fr;have hcap:N'.length<=400:=(by have:=fr.cap;have:=fr.use;omega);have gg:=De fr.chk hcap x.1 fr.nodup (HL g fr);refine⟨t.root,N',rfl,Db (Gf g fr x.1.used),h,gg,sorted gg λy=>?_⟩;have:=P.elems y;rw[U_,wU] at this;exact this
 . obtain⟨k,ks',t',ts',e1,e2,i1,x,k2,t2,e3,e4,y⟩:=P.ch;obtain⟨rfl,rfl⟩:t.root=k/\[r]=ks':=by simpa using e1
   obtain rfl:r=k2:=(by simpa using e3);have hK:[t.root,r].flatMap (ids (fN N') h)=ids (fN N') h t.root++ids (fN N') h r:=s_;have fr:=P.fr;rw[hK] at fr;have hcap:N'.length<=400:=by have:=fr.cap;have:=fr.use;omega
   have hKu:∀q∈ids (fN N') h t.root++ids (fN N') h r,∃n:DNode,N'[q]? = some (.inr n)/\n.kind≠0:=λq hq=>by
    rcases v_.1 hq with hq|hq
    . exact x.1.used q hq
    . exact y.1.used q hq
   obtain⟨N2,j,hT,tk⟩:=GC (F:=F) (N:=N') ⟨2,[],[t.root,r],[sp],[we (nd (fN N') t.root),we (nd (fN N') r)]⟩ o_;have cc:Ch (BT (fN N') h) [sp] topS [t.root,r] [we (nd (fN N') t.root),we (nd (fN N') r)]:=⟨t.root,[r],_,_,rfl,rfl,i1,⟨x.1,rfl⟩,r,_,rfl,rfl,⟨y.1,rfl⟩⟩;have hck:=wL (n:=⟨2,[],[t.root,r],[sp],[we (nd (fN N') t.root),we (nd (fN N') r)]⟩) rfl (yf fr.chk hcap cc s_ s_ (List.pairwise_singleton _ _) (by simpa using hsp));have fr2:=fr.take tk (CK _ _ _ _) hck λq hq=>by obtain⟨n,hn,hk⟩:=hKu q hq;exact⟨_,hn,hk⟩
   have hlen2:N'.length<=N2.length:=(by rcases tk.len with h|⟨h,_⟩ <;> omega);have hjK:∀q∈ids (fN N') h t.root++ids (fN N') h r,N2[q]? = N'[q]?:=λq hq=>tk.same q λe=>by subst e;obtain⟨n,hn,hk⟩:=hKu q hq;exact absurd (tk.free _ hn) hk
   obtain⟨a1,a2,a3⟩:=xw hlen2 cc λq hq=>hjK q (by rw[hK] at hq;exact hq);have hnd:nd (fN N2) (j:Int)=⟨2,[],[t.root,r],[sp],[we (nd (fN N') t.root),we (nd (fN N') r)]⟩:=As (by rw[T_];exact tk.at_);have hjl:j<N2.length:=(ggs.1 tk.at_).1;have hids:ids (fN N2) (h+1) (j:Int)=j::(ids (fN N') h t.root++ids (fN N') h r):=(by rw[ids,hnd,T_];show j::[t.root,r].flatMap _=_;rw[a2,hK]);have sub:wo (fN N2) (h+1) (j:Int) (mOf 0 (h+1)) topS:=⟨by rw[wd];omega,by rw[hnd],by rw[hnd];unfold mOf;simp,by rw[hnd];exact a1⟩;rw[<-hids] at fr2;have hcap2:N2.length<=400:=(by have:=fr2.cap;have:=fr2.use;omega);have gg:=De fr2.chk hcap2 sub fr2.nodup (HL g fr2);refine⟨(j:Int),N2,?_,Db (Gf g fr2 sub.used),h+1,gg,sorted gg λz=>?_⟩
   . rw[l7,cond_false,x.1.node.1,obs,y.1.node.1,obs,w8 fr.chk x.1.range,obs,w8 fr.chk y.1.range,obs,Fs,hT,obs]
   . have:=P.elems z;rw[wU] at this;rw[<-this,vS,hnd];show z∈[t.root,r].flatMap _↔_;rw[a3]
theorem Dr {t:DTree}{h:Nat}{e:DElem}(g:Good t h)(he:wa e=0) :
 ∃N:NL,qc (Ay F e) F (nlT t,t.root)=some N/\qY N=some (fN N)/\Good ⟨t.root,fN N⟩ h/\vS (fN N) h t.root=(vS t.nodes h t.root).map (xS e):=by
 have hF:=(inferInstance:Big F).le;have hh:=xU g;obtain⟨N,hrun,P⟩:=Jx (F:=F) he h F (nlT t) t.root (mOf 0 h) topS o_ (Dz g) (AB g) (by rw[wU];exact g.nodup) rfl;have hn:(ids (fN N) h t.root).Nodup:=by rw[P.ids,wU];exact g.nodup
 have hin:∀(j:Nat) (x:Int⊕DNode),N[j]? = some x->(∃n,x=.inr n)/\(tD x≠0->j∈ids (fN N) h t.root):=λj x hx=>by
  by_cases hj:j∈ids (fN N) h t.root
  . obtain⟨n,hn,_⟩:=P.sub.used j hj;rw[hn] at hx;exact⟨⟨n,(x_.inj hx).symm⟩,λ_=>hj⟩
  . rw[P.out j (by rw[<-P.ids];exact hj)] at hx;obtain⟨n,hn,rfl⟩:=CE hx
    exact⟨⟨n,rfl⟩,λhk=>by
     rw[P.ids,wU]
     exact g.all j (ggs.1 hn).1 (by rw[Ci hn];exact hk)⟩
 refine⟨N,hrun,Db λj k hj=>?_,De P.chk ?_ P.sub hn λj x hx=>(hin j x hx).2,?_⟩
 . obtain⟨⟨n,hn⟩,_⟩:=hin j _ hj;cases hn
 . rw[P.len];unfold nlT;rw[j_];exact g.len
 . rw[P.elems,wU]
theorem Ir {α β:Type}(f:α->List β){l:List α}{k:Nat}(hk:k<l.length):(l.take (k+1)).flatMap f=(l.take k).flatMap f++f l[k]/\((l.take k).flatMap f).length+(f l[k]).length<=(l.flatMap f).length:=by
 have h1:(l.take (k+1)).flatMap f=(l.take k).flatMap f++f l[k]:=by rw[O_,gge hk,L_];simp
 refine⟨h1,?_⟩;have h2:l.flatMap f=(l.take (k+1)).flatMap f++(l.drop (k+1)).flatMap f:=by rw[<-L_,M_]
 rw[h2,h1,d_,d_];omega
theorem Ba {t:DTree}{h:Nat}(g:Good t h):(vS t.nodes h t.root).Pairwise SpO:=(xB g.chk h t.root 0 topS g.ok).1
theorem zO {t:DTree}{h:Nat}(g:Good t h):∀n∈t.nodes,Small n:=λn hn=>xp (g.chk n hn)
def zT:DTree:=⟨0,[]⟩
def newT:DTree:=⟨0,[⟨1,[],[],[],[]⟩]⟩
theorem Bf:Good newT 0:=by
 have hc:wr ⟨1,[],[],[],[]⟩=0:=wx.2 (.inr (.inl ⟨rfl,⟨rfl,rfl,rfl,D_ _,λe he=>(by cases he),List.Pairwise.nil⟩⟩));refine⟨by simp[newT],λn hn=>?_,⟨⟨by decide,by simp[newT]⟩,rfl,λh=>absurd h c_,λx hx=>(by cases hx)⟩,by simp[newT,ids],λi hi _=>?_⟩
 . obtain rfl:n=⟨1,[],[],[],[]⟩:=by simpa[newT] using hn
   exact hc
 . simp[newT,ids] at hi ⊢;exact hi
end
section
variable {F:Nat} [Big F]
theorem AU {t:DTree}{h h':Nat}{root':Int}{N':NL}(g:Good t h)(len:N'.length=(nlT t).length)(out:∀j:Nat,j∉ids t.nodes h t.root->N'[j]? = (nlT t)[j]?)(chk:xr N')(sub:wo (fN N') h' root' (mOf 0 h') topS)
 (perm:∃Z,(ids t.nodes h t.root).Perm (Z++ids (fN N') h' root')/\∀j∈Z,N'[j]? = some (.inr zN)):qY N'=some (fN N')/\Good ⟨root',fN N'⟩ h':=by
 obtain⟨Z,hZ,hz⟩:=perm
 have key:∀(j:Nat) (x:Int⊕DNode),N'[j]? = some x->(∃n,x=.inr n)/\(tD x≠0->j∈ids (fN N') h' root'):=λj x hx=>by
  by_cases hj:j∈ids t.nodes h t.root
  . rcases v_.1 (hZ.mem_iff.1 hj) with hj|hj
    . rw[hz j hj] at hx;obtain rfl:=x_.inj hx;exact⟨⟨_,rfl⟩,λhk=>absurd rfl hk⟩
    . obtain⟨n,hn,_⟩:=sub.used j hj;rw[hn] at hx;exact⟨⟨n,(x_.inj hx).symm⟩,λ_=>hj⟩
  . rw[out j hj] at hx;obtain⟨n,hn,rfl⟩:=CE hx;exact⟨⟨n,rfl⟩,λhk=>absurd (g.all j (ggs.1 hn).1 (by rw[Ci hn];exact hk)) hj⟩
 refine⟨Db λj k hj=>?_,De chk ?_ sub ?_ λj x hx=>(key j x hx).2⟩
 . obtain⟨⟨n,hn⟩,_⟩:=key j _ hj;cases hn
 . rw[len];unfold nlT;rw[j_];exact g.len
 . exact(List.nodup_append.1 (hZ.nodup_iff.1 g.nodup)).2.1
theorem Gp {N:NL}{i:Int}{n:DNode}(h:N[i.toNat]? = some (.inr n)):jA (ja N i) i n=N:=by
 refine List.ext_getElem? λj=>?_;by_cases hj:j=i.toNat
 . subst hj;rw[wH _ (by rw[vW];exact(ggs.1 h).1),h]
 . rw[wn _ hj,wy _ hj]
theorem EC {t:DTree}{h:Nat}{sp:DSpot}(g:Good t h) :
 ∃(root:Int) (N:NL),Gk F sp (nlT t) t.root=some (N,root)/\qY N=some (fN N)/\∃h',Good ⟨root,fN N⟩ h'/\vS (fN N) h' root=(vS t.nodes h t.root).filter (yx sp):=by
 have hF:=(inferInstance:Big F).le;have hfu:=xU g;have hc:=Dz g;have c:=AB g;have hlen:(nlT t).length<=400:=by unfold nlT;rw[j_];exact g.len
 have hnd:(ids (fN (nlT t)) h t.root).Nodup:=by rw[wU];exact g.nodup
 have hr:=c.range;rw[wd] at hr;unfold Gk
 cases h with
 |zero=>obtain⟨N',hrun,P⟩:=Gs (F:=F) sp 0 F (nlT t) t.root 0 topS o_ hc hlen (.inl rfl) c hnd rfl;have c':wo (fN N') 0 t.root 0 topS:=P.sub;have L:=c'.leaf P.chk;obtain⟨q1,q2⟩:=c'.node;obtain⟨r1,r2⟩:=AU g P.len (λj hj=>P.out j (by rw[wU];exact hj)) P.chk c' (by obtain⟨Z,hZ,hz⟩:=P.perm;rw[wU] at hZ;exact⟨Z,hZ,hz⟩);refine⟨t.root,N',?_,r1,0,r2,by rw[P.elems,wU]⟩;rw[hrun,obs,q1,obs,L.kids,show (((([]:List Int).length:Int))==1)=false from rfl,cond_false,obs,Gp q2]
 |succ h =>
  obtain⟨f,hf⟩:∃f,F=f+1:=⟨F-1,by omega⟩;obtain⟨N3,K,X,T,hrun,M⟩:=H6 (F:=F) (Gs sp h) (mf:=f) o_ hc hlen c hnd rfl;rw[<-hf] at hrun;have hids:ids t.nodes (h+1) t.root=t.root.toNat::(nd t.nodes t.root).kids.flatMap (ids t.nodes h):=rfl;have hels:vS t.nodes (h+1) t.root=(nd t.nodes t.root).kids.flatMap (vS t.nodes h):=rfl;have hMe:=M.elems;obtain⟨Z,hZ,hz⟩:=M.perm;rw[wU] at hMe hZ;have hn1:=g.nodup;rw[hids] at hn1;obtain⟨n1,n2⟩:=List.nodup_cons.1 hn1;have hl3:=M.len;have h2:2<=(nd t.nodes t.root).kids.length:=by have:=c.2.2.1;rw[wU] at this;unfold mOf at this;simpa using this
  have hmore:=M.more;rw[wU] at hmore;have hget:(jA N3 t.root ⟨2,[],K,X,T⟩)[t.root.toNat]? = some (.inr ⟨2,[],K,X,T⟩):=wH _ (by rw[hl3];omega);have hnode:kI (jA N3 t.root ⟨2,[],K,X,T⟩) t.root=some ⟨2,[],K,X,T⟩:=by unfold kI;rw[if_neg o_,hget];rfl
  rw[hrun,obs,hnode,obs];dsimp only;by_cases h1:K.length=1
  . obtain⟨k,rfl⟩:=List.length_eq_one_iff.1 h1;obtain⟨X0,hX0⟩:∃X0,X0=X:=⟨_,rfl⟩;have hXl:=M.ch.lens.1;obtain rfl:X=[]:=List.eq_nil_of_length_eq_zero (by simpa using hXl);obtain⟨k',t',e1,e2,q⟩:=M.ch;obtain rfl:k=k':=by simpa using e1
    have hkn:∀j∈ids (fN N3) h k,j≠t.root.toNat:=λj hj e=>n1 (hZ.mem_iff.2 (List.mem_append_right _ (by rw[U_,<-e];exact hj)));have hN:jA (ja (jA N3 t.root ⟨2,[],[k],[],T⟩) t.root) t.root zN=jA N3 t.root zN:=(by unfold jA ja;rw[g8,g8]);obtain⟨a1,a2,a3,a4⟩:=wo.agree (N':=jA N3 t.root zN) (by rw[vZ];exact l_ _) q.1 λj hj=>wn N3 (hkn j hj);rw[U_] at hMe hZ
    obtain⟨r1,r2⟩:=AU (root':=k) g (by rw[vZ];exact hl3) (λj hj=>by
     have:=M.out j (by rw[wU];exact hj);rw[hids,List.mem_cons,not_or] at hj
     rw[wn N3 hj.1,this]) (M.chk.put HI) (a1.weak (Lw 0 h)) ⟨t.root.toNat::Z,by rw[hids,a2];exact List.Perm.cons _ hZ,λj hj=>by
     rcases List.mem_cons.1 hj with rfl|hj
     . exact wH _ (by rw[hl3];omega)
     . rw[wn N3 (show j≠t.root.toNat from λe=>n1 (hZ.mem_iff.2 (List.mem_append_left _ (by rw[<-e];exact hj))))]
       exact hz j hj⟩
    refine⟨k,jA N3 t.root zN,?_,r1,h,r2,by rw[a3,hMe,hels]⟩;rw[show ((([k]:List Int).length:Int)==1)=true from rfl,cond_true,zD (by rw[vW,vZ,hl3];exact hr),obs,show idx [k] 0=some k from rfl,obs,obs];dsimp only;exact congrArg (λq=>some (q,k)) hN
  . have P:=H7 hlen c hc hnd M o_;have h2K:2<=K.length:=o_;have hck:=wL (n:=⟨2,[],K,X,T⟩) rfl (yf M.chk (by rw[hl3];exact hlen) M.ch h2K (by have:=M.few;rw[wU] at this;have:=(c.inner hc).eight;rw[wU] at this;omega) M.ord M.ok);have hnd2:=As hget
    have c':wo (fN (jA N3 t.root ⟨2,[],K,X,T⟩)) (h+1) t.root (mOf 0 (h+1)) topS :=
     ⟨P.sub.1,P.sub.2.1,by rw[hnd2];unfold mOf;simpa using h2K,P.sub.2.2.2⟩
    obtain⟨r1,r2⟩:=AU g P.len (λj hj=>P.out j (by rw[wU];exact hj)) P.chk c' (by obtain⟨Z,hZ,hz⟩:=P.perm;rw[wU] at hZ;exact⟨Z,hZ,hz⟩);refine⟨t.root,_,?_,r1,h+1,r2,by rw[P.elems,wU]⟩;rw[show ((K.length:Int)==1)=false by rw[beq_eq_false_iff_ne];omega,cond_false,obs,Gp hget]
theorem LE {l:List DElem}{r:Nat}{x:DElem}(ho:l.Pairwise SpO)(hx:l[r]? = some x):l.filter (yx (vU x))=l.take r++l.drop (r+1):=by
 obtain⟨hr,he⟩:=ggs.1 hx;have e:=Ah l hr;rw[he] at e;have hnx:yx (vU x) x=false:=by unfold yx;simp
 have ho':=ho;rw[e] at ho';obtain⟨o1,o2,o3⟩:=l9.1 ho'
 conv=>lhs;rw[e]
 rw[List.filter_append,List.filter_cons,if_neg (by rw[hnx];decide),Ck,Ck]
 . intro y hy hs;have h1:cmpS (vU x) (vU y)<0:=(m0.1 o2).1 y hy;rw[hs,wb.refl] at h1;omega
 . intro y hy hs;have h1:cmpS (vU y) (vU x)<0:=o3 y hy x u_;rw[hs,wb.refl] at h1;omega
end
end
section
section walks
variable {τ α β:Type} {F:Nat}
def wF (t:τ->α->τ×Nat):List α->τ->τ×Nat
 |[],a=>(a,0)
 |e::l,a=>if (t a e).2=0 then wF t l (t a e).1 else t a e
theorem xY (t:τ->α->τ×Nat):∀(l m:List α) (a:τ),wF t (l++m) a=if (wF t l a).2=0 then wF t m (wF t l a).1 else wF t l a
 |[],m,a=>by simp[wF]
 |e::l,m,a=>by
  rw[List.cons_append,wF,wF];by_cases h:(t a e).2=0
  . rw[if_pos h,if_pos h,xY t l m]
  . rw[if_neg h,if_neg h,if_neg h]
theorem AS (t:τ->α->τ×Nat)(p:α->Bool):∀(l:List α) (a:τ),wF (λst e=>if p e then t st e else (st,0)) l a=wF t (l.filter p) a
 |[],a=>rfl
 |e::l,a=>by
  rw[wF];by_cases h:p e=true
  . rw[if_pos h,m4 h,wF];by_cases h0:(t a e).2=0
    . rw[if_pos h0,if_pos h0,AS t p l]
    . rw[if_neg h0,if_neg h0]
  . rw[if_neg h,if_pos rfl,m9 h,AS t p l]
theorem yi (t:τ->α->τ×Nat)(g:β->List α):∀(l:List β) (a:τ),wF (λst k=>wF t (g k) st) l a=wF t (l.flatMap g) a
 |[],a=>rfl
 |b::l,a=>by rw[wF,p_,xY,yi t g l]
theorem zZ (t:τ->α->τ×Nat)(len:τ->Nat)(ht:∀a e,len (t a e).1<=len a+1):∀(l:List α) (a:τ),len (wF t l a).1<=len a+l.length
 |[],a=>l_ _
 |e::l,a=>by
  rw[wF,F_];have h1:=ht a e;by_cases h:(t a e).2=0
  . rw[if_pos h];have:=zZ t len ht l (t a e).1;omega
  . rw[if_neg h];omega
theorem Bc {S R:Type}[Big F]{f:S->Option (S⊕R)}(t:τ->α->τ×Nat)(l:List α)(enc:τ->Int->S)(o0:τ->R)(o1:τ->Nat->R)(a:τ)(hn:l.length<=9223372036854775807){s:S}(h0:s=enc a 0)
 (hs:∀(k:Nat) (e:α) (st:τ),l[k]? = some e->wF t (l.take k) a=(st,0)->f (enc st (k:Int))=some (j5 (t st e).2 (.inl (enc (t st e).1 ((k:Int)+1))) (λn=>.inr (o1 (t st e).1 n))))
 (he:∀st,wF t l a=(st,0)->f (enc st (l.length:Int))=some (.inr (o0 st))) :
 iter f F s=some (j5 (wF t l a).2 (o0 (wF t l a).1) (λn=>o1 (wF t l a).1 n)):=by
 subst h0
 have key:∀(m k N:Nat) (st:τ),k+m=l.length->m<N->wF t (l.take k) a=(st,0)->iter f N (enc st (k:Int))=some (j5 (wF t l a).2 (o0 (wF t l a).1) (λn=>o1 (wF t l a).1 n)):=by
  intro m
  induction m with
  |zero=>intro k N st hk hN hr;obtain⟨N,rfl⟩:∃M,N=M+1:=⟨N-1,by omega⟩;rw[n9 o_] at hr;rw[iter,show k=l.length by omega,he st hr,hr];rfl
  |succ m ih =>
   intro k N st hk hN hr;obtain⟨N,rfl⟩:∃M,N=M+1:=⟨N-1,by omega⟩;have hkl:k<l.length:=o_;have hg:=gge hkl;have hsplit:wF t l a=wF t (l[k]::l.drop (k+1)) st:=(by have h1:=xY t (l.take k) (l.drop k) a;rw[M_,hr,if_pos rfl,o5 hkl] at h1;exact h1);rw[iter,hs k l[k] st hg hr];rw[wF] at hsplit
   cases hz:(t st l[k]).2 with
   |zero=>rw[iK];refine ih (k+1) N _ o_ o_ ?_;rw[O_,hg,xY,hr,if_pos rfl];show wF t [l[k]] st=_;rw[wF,if_pos hz];rfl
   |succ n=>rw[if_neg o_] at hsplit;rw[iO,hsplit,hz,iO]
 exact key l.length 0 F a o_ (zG hn) rfl
end walks
def geB (s:DSpot)(e:DElem):Bool:=decide (0<=cmpS (vU e) s)
def xK (ns:List DNode)(s:DSpot):Nat->Int->List DElem
 |0,_=>[]
 |m+1,i=>(nd ns i).elems.filter (geB s)++(if (nd ns i).kind=1 then [] else ((nd ns i).kids.drop (yL (nd ns i).seps s)).flatMap (xK ns s m))
theorem Iv (ns:List DNode)(s:DSpot):∀(m:Nat) (i:Int),(xK ns s m i).Sublist (wj ns m i):=by
 intro m
 induction m with
 |zero=>intro i;exact List.Sublist.refl _
 |succ m ih =>
  intro i;rw[xK,wj];refine List.Sublist.append v8 ?_;split
  . exact List.nil_sublist _
  . have h1:∀l:List Int,(l.flatMap (xK ns s m)).Sublist (l.flatMap (wj ns m)):=by
     intro l
     induction l with
     |nil=>exact List.Sublist.refl _
     |cons a l ihl=>rw[p_,p_];exact(ih a).append ihl
    refine(h1 _).trans ?_
    have h2:∀(l:List Int) (k:Nat),((l.drop k).flatMap (wj ns m)).Sublist (l.flatMap (wj ns m)):=by
     intro l k
     conv=>rhs;rw[<-M_ k l,L_]
     exact List.sublist_append_right _ _
    exact h2 _ _
theorem Aq {α β:Type}(p:β->Bool)(f:α->List β):∀l:List α,(l.flatMap f).filter p=l.flatMap λa=>(f a).filter p
 |[]=>rfl
 |a::l=>by rw[p_,p_,List.filter_append,Aq p f l]
theorem JK {ns:List DNode}(hns:∀n∈ns,wr n=0)(s:DSpot):∀(h m:Nat) (i d:Int) (sp:Span),okN ns h i d sp->h<m->xK ns s m i=(vS ns h i).filter (geB s):=by
 intro h
 induction h with
 |zero=>intro m i d sp hok hm;obtain⟨m,rfl⟩:∃q,m=q+1:=⟨m-1,by omega⟩;rw[xK,vS,if_pos hok.2.1,List.append_nil]
 |succ h ih =>
  intro m i d sp hok hm;obtain⟨m,rfl⟩:∃q,m=q+1:=⟨m-1,by omega⟩;have hI:=(yg hns hok.1 hok.2.1).2;rw[xK,vS,if_neg hok.2.1.2,hI.elems,List.filter_nil,q_,Aq];have hk:∀k∈(nd ns i).kids,xK ns s m k=(vS ns h k).filter (geB s):=λk hk=>by obtain⟨q,hq⟩:=o6.1 hk;exact ih m k _ _ (hok.2.2.2 (k,q) (Ao hq)).1 o_
  have hcong:∀l:List Int,(∀k∈l,k∈(nd ns i).kids)->l.flatMap (xK ns s m)=l.flatMap λk=>(vS ns h k).filter (geB s):=by
   intro l
   induction l with
   |nil=>intro _;rfl
   |cons a l ihl=>intro hl;rw[p_,p_,hk a (hl a u_),ihl λk hk=>hl k (K_ _ hk)]
  rw[hcong _ λk hk=>w6 hk];have hnil:((nd ns i).kids.take (yL (nd ns i).seps s)).flatMap (λk=>(vS ns h k).filter (geB s))=[]:=by rw[List.flatMap_eq_nil_iff];intro k hk;rw[w7] at hk;obtain⟨q,hq,rfl⟩:=hk;rw[List.filter_eq_nil_iff];intro e he;have hqk:(nd ns i).kids[q]? = some (nd ns i).kids[q]:=gge o_;have h1:=(hok.2.2.2 (_,q) (Ao hqk)).1;have h2:=((xB hns h _ _ _ h1).2 e he).1;have hw:=Dm (nd ns i).seps s;have hx:(nd ns i).seps[q]? = some (nd ns i).seps[q]:=gge o_;have h3:=DH hx h2;have h4:=(FB (nd ns i).seps s).1 q _ o_ hx;have h5:=xP h3 h4;unfold geB;rw[decide_eq_true_eq];omega
  conv=>rhs;rw[<-M_ (yL (nd ns i).seps s) (nd ns i).kids,L_,hnil,q_]
def KV {τ:Type}(ns:List DNode)(s:DSpot)(len:τ->Nat)(m:Nat)(x:τ×Int):Prop:=DG ns m x.2/\len x.1+(xK ns s m x.2).length<=100000
theorem I5 {τ:Type}{t:DTree}{h:Nat}(hg:Good t h)(s:DSpot)(len:τ->Nat)(a:τ)(ha:len a=0){F:Nat}[Big F]:KV t.nodes s len F (a,t.root):=by have hF:=(inferInstance:Big F).le;have h4:=xU hg;refine⟨⟨h,0,topS,by omega,hg.ok⟩,?_⟩;dsimp only;have h1:=(Iv t.nodes s F t.root).length_le;rw[AZ hg.chk h F t.root 0 topS hg.ok o_] at h1;have:=zg hg;omega
theorem Ix {t:DTree}{h:Nat}(hg:Good t h)(s:DSpot){F:Nat}[Big F]:xK t.nodes s F t.root=(vS t.nodes h t.root).filter (geB s):=by have hF:=(inferInstance:Big F).le;have h4:=xU hg;exact JK hg.chk s h F t.root 0 topS hg.ok o_
theorem Kb {τ:Type}{ns:List DNode}(hns:∀n∈ns,wr n=0){s:DSpot}{len:τ->Nat}{m:Nat}{a b:τ}{i:Int}(h:KV ns s len (m+1) (a,i))(h1:(nd ns i).kind≠1){t:τ->DElem->τ×Nat}(ht:∀a e,len (t a e).1<=len a+1)
 (hb:wF t ((nd ns i).elems.filter (geB s)) a=(b,0)) {k:Nat} {e:Int} (hk:((nd ns i).kids.drop (yL (nd ns i).seps s))[k]? = some e) {st:τ}
 (hr:wF (λst k=>wF t (xK ns s m k) st) (((nd ns i).kids.drop (yL (nd ns i).seps s)).take k) b=(st,0)):KV ns s len m (st,e):=by
 have hkids:=(h.1.kids hns).2;refine⟨hkids e (w6 (y_ hk)),?_⟩;rw[yi] at hr;have q1:=zZ t len ht ((nd ns i).elems.filter (geB s)) a;rw[hb] at q1;have q2:=zZ t len ht ((((nd ns i).kids.drop (yL (nd ns i).seps s)).take k).flatMap (xK ns s m)) b;rw[hr] at q2;have h2:=h.2;dsimp only at q1 q2 h2 ⊢;rw[xK,if_neg h1,d_] at h2;obtain⟨hkl,rfl⟩:=ggs.1 hk;have h3:(((nd ns i).kids.drop (yL (nd ns i).seps s)).flatMap (xK ns s m)).length=((((nd ns i).kids.drop (yL (nd ns i).seps s)).take k).flatMap (xK ns s m)).length+(((((nd ns i).kids.drop (yL (nd ns i).seps s)).drop k)).flatMap (xK ns s m)).length:=by rw[<-d_,<-L_,M_]
 rw[o5 hkl,p_,d_] at h3;omega
theorem LG {ns:List DNode}{i:Int}(hI:Inner (nd ns i))(s:DSpot):yL (nd ns i).seps s<=(nd ns i).kids.length:=by have:=Dm (nd ns i).seps s;have:=hI.seps;omega
end
section
section
def J9 {τ:Type}(ns:List DNode)(len:τ->Nat)(m:Nat)(x:τ×Int):Prop:=DG ns m x.2/\len x.1+(wj ns m x.2).length<=100000
theorem I4 {τ:Type}{t:DTree}{h:Nat}(hg:Good t h)(len:τ->Nat)(a:τ)(ha:len a=0){F:Nat}[Big F]:J9 t.nodes len F (a,t.root):=by have hF:=(inferInstance:Big F).le;have h4:=xU hg;refine⟨⟨h,0,topS,by omega,hg.ok⟩,?_⟩;dsimp only;rw[AZ hg.chk h F t.root 0 topS hg.ok o_];have:=zg hg;omega
theorem Cw {t:DTree}{h:Nat}(hg:Good t h){F:Nat}[Big F]:wj t.nodes F t.root=vS t.nodes h t.root:=by have hF:=(inferInstance:Big F).le;have h4:=xU hg;exact AZ hg.chk h F t.root 0 topS hg.ok o_
theorem Hw {τ:Type}{ns:List DNode}{len:τ->Nat}{m:Nat}{a:τ}{i:Int}(h:J9 ns len (m+1) (a,i)){t:τ->DElem->τ×Nat}(ht:∀a e,len (t a e).1<=len a+1){k:Nat}{e:DElem}(hk:(nd ns i).elems[k]? = some e){st:τ}
 (hr:wF t ((nd ns i).elems.take k) a=(st,0)):len st<=100000:=by
 have h1:=zZ t len ht ((nd ns i).elems.take k) a;rw[hr] at h1;have h2:=h.2;dsimp only at h1 h2;rw[wj,d_] at h2;have h3:=(List.take_sublist k (nd ns i).elems).length_le;omega
theorem Ka {τ:Type}{ns:List DNode}(hns:∀n∈ns,wr n=0){len:τ->Nat}{m:Nat}{a b:τ}{i:Int}(h:J9 ns len (m+1) (a,i)){t:τ->DElem->τ×Nat}(ht:∀a e,len (t a e).1<=len a+1)
 (hb:wF t (nd ns i).elems a=(b,0)) {k:Nat} {e:Int} (hk:(nd ns i).kids[k]? = some e) {st:τ}
 (hr:wF (λst k=>wF t (wj ns m k) st) ((nd ns i).kids.take k) b=(st,0)):J9 ns len m (st,e):=by
 have hkids:=(h.1.kids hns).2;refine⟨hkids e (y_ hk),?_⟩;rw[yi] at hr;have q1:=zZ t len ht (nd ns i).elems a;rw[hb] at q1;have q2:=zZ t len ht (((nd ns i).kids.take k).flatMap (wj ns m)) b;rw[hr] at q2;have h2:=h.2;dsimp only at q1 q2 h2 ⊢;rw[wj,d_] at h2;obtain⟨hkl,rfl⟩:=ggs.1 hk;have h3:((nd ns i).kids.flatMap (wj ns m)).length=(((nd ns i).kids.take k).flatMap (wj ns m)).length+(((nd ns i).kids.drop k).flatMap (wj ns m)).length:=by rw[<-d_,<-L_,M_]
 rw[o5 hkl,p_,d_] at h3;omega
end
section

end
section
variable {F:Nat} [Big F]
theorem C8 {t:DTree}(hs:∀n∈t.nodes,Small n){h:Nat}(hg:Good t h):lz F t=some (Ad (vS t.nodes h t.root)):=by unfold lz;rw[yB hs hg,obs];dsimp only;rw[show ((0:Int) !=0)=false from rfl,cond_false,yW];rfl
theorem Lv {l:List DElem}(hp:l.Pairwise SpO){i j:Nat}{a b:DElem}(hij:i<=j)(ha:l[i]? = some a)(hb:l[j]? = some b):cmpK a.key b.key<=0:=by
 by_cases e:i=j
 . subst e;rw[ha] at hb;obtain rfl:=x_.inj hb;rw[wm.refl];exact C_ _
 . have:=xl hp (show i<j by omega) ha hb;unfold SpO at this;rcases BZ.1 this with h|⟨h,_⟩
   . exact Int.le_of_lt h
   . unfold vU at h;dsimp only at h;rw[h,wm.refl];exact C_ _
theorem Jp {l:List DElem}(ho:∀e∈l,wa e=0)(k:DKey)(u:Int):(l.filter (geB ⟨k,0⟩)).find? (λe=>e.key==k&&yN e u)=atR l k u:=by
 unfold atR;rw[List.find?_filter]
 have:∀m:List DElem,(∀e∈m,e∈l)->m.find? (λa=>decide (geB ⟨k,0⟩ a=true/\(a.key==k&&yN a u)=true))=m.find? λe=>e.key==k&&yN e u:=by
  intro m
  induction m with
  |nil=>intro _;rfl
  |cons e m ih =>
   intro hm;rw[o7,o7,ih λx hx=>hm x (K_ _ hx)];by_cases hk:e.key=k
   . obtain⟨_,h1,_⟩:=xN (ho e (hm e u_));have hge:geB ⟨k,0⟩ e=true:=(by refine decide_eq_true ?_;have h2:=wb.neg (vU e) ⟨k,0⟩;have:cmpS ⟨k,0⟩ (vU e)<0:=BZ.2 (.inr ⟨hk.symm,by show (0:Int)<e.made;omega⟩);omega);have hd:decide (geB ⟨k,0⟩ e=true/\(e.key==k&&yN e u)=true)=(e.key==k&&yN e u):=(by cases hq:(e.key==k&&yN e u) <;> simp[hge]);rw[hd]
   . have:(e.key==k)=false:=(by simpa using hk);rw[this];simp
 first
 |exact this l λe he=>he
 |(simp only[Bool.decide_and,Bool.decide_eq_true] at this;exact this l λe he=>he)
theorem Iw {l:List DElem}{k:DKey}:∀e∈l.filter (geB ⟨k,0⟩),0<=cmpK e.key k:=λe he=>by
 have h1:=(g_.1 he).2;unfold geB at h1;have h1:=of_decide_eq_true h1;by_cases h:cmpK e.key k<0
 . have:cmpS (vU e) ⟨k,0⟩<0:=BZ.2 (.inl h);omega
 . omega
end
section
variable {F:Nat} [Big F]
abbrev FlatN:=Bool×Int×Int×Int×Int×Int×ByteArray
def flatN (e:DElem):FlatN:=(true,e.key.pfs,e.key.obj,e.key.off,e.made,e.gone,e.val)
def zo (k:DKey)(st:FlatN)(e:DElem):FlatN×Nat:=if e.key≠k then (st,1) else if e.gone=0 then (flatN e,2) else (st,0)
theorem GB {k:DKey}{st:FlatN}{e:DElem}(h:e.key≠k):zo k st e=(st,1):=if_pos h
theorem HE {k:DKey}{st:FlatN}{e:DElem}(h:e.key=k)(hl:e.gone=0):zo k st e=(flatN e,2):=by unfold zo;rw[if_neg (λh'=>h' h),if_pos hl]
theorem HC {k:DKey}{st:FlatN}{e:DElem}(h:e.key=k)(hl:¬ e.gone=0):zo k st e=(st,0):=by unfold zo;rw[if_neg (λh'=>h' h),if_neg hl]
theorem K2 (k:DKey)(u:Int):∀(l:List DElem),l.Pairwise SpO->(∀e∈l,0<=cmpK e.key k)->(∀e∈l,wQ e<=u)->∀a:FlatN,(∃e,l.find? (λe=>e.key==k&&yN e u)=some e/\wF (zo k) l a=(flatN e,2))\/(l.find? (λe=>e.key==k&&yN e u)=none/\∃c,c<=1/\wF (zo k) l a=(a,c)):=by
 intro l
 induction l with
 |nil=>intro _ _ _ a;exact .inr ⟨rfl,0,by omega,rfl⟩
 |cons e l ih =>
  intro hp hk hu a;have hlv:=EA (hu e u_);rw[wF];by_cases he:e.key=k
  . have hb:(e.key==k)=true:=by simpa using he
    rw[o7,hb,hlv];by_cases hl:e.gone=0
    . left;rw[HE he hl,if_neg s_,show (e.gone==0)=true by simpa using hl];exact⟨e,rfl,rfl⟩
    . rw[HC he hl,if_pos rfl,show (e.gone==0)=false by simpa using hl];exact ih (m0.1 hp).2 (λx hx=>hk x (K_ _ hx)) (λx hx=>hu x (K_ _ hx)) a
  . right;rw[GB he,if_neg s_];refine⟨?_,1,l_ _,rfl⟩;rw[List.find?_eq_none];intro x hx hq;have hxk:x.key=k:=by have:=(Bool.and_eq_true_iff.1 hq).1;simpa using this
    have h1:=hk e u_;obtain⟨j,hj⟩:=o6.1 hx;have h2:=Lv hp (i:=0) (j:=j) (D_ _) rfl hj;rw[hxk] at h2;exact he ((wm.zero _ _).1 o_)
def Fe (o:Option DElem):DElem×Bool:=match o with
 |some e=>(e,true)
 |none=>(LT,false)
theorem zp {t:DTree}{h:Nat}(hg:Good t h)(hr:Run (vS t.nodes h t.root))(k:DKey):oB F t k=some (Fe (xy (vS t.nodes h t.root) k)):=by
 have hs:=zO hg;have hlen:∀(a:FlatN) (e:DElem),(λ_:FlatN=>0) (zo k a e).1<=(λ_:FlatN=>0) a+1:=λ_ _=>D_ _;unfold oB
 rw[zR (σ:=Bool×Int×Int×Int×Int×Int×ByteArray×Int) (λm x=>match x with|(x0,x1,x2,x3,x4,x5,x6,x7)=>KV t.nodes ⟨k,0⟩ (λ_:FlatN=>0) m ((x0,x1,x2,x3,x4,x5,x6),x7))
  (λm x=>match x with|(x0,x1,x2,x3,x4,x5,x6,x7)=>let r:=wF (zo k) (xK t.nodes ⟨k,0⟩ m x7) (x0,x1,x2,x3,x4,x5,x6);(r.2,r.1)) ?h0 ?hstep F _ (I5 hg ⟨k,0⟩ (λ_=>0) _ rfl)]
 case h0 =>
  rintro⟨x0,x1,x2,x3,x4,x5,x6,x7⟩ ⟨⟨h,d,s,hm,_⟩,_⟩;omega
 case hstep =>
  rintro m self ih ⟨x0,x1,x2,x3,x4,x5,x6,x7⟩ hpre;dsimp only at hpre;obtain⟨⟨h0,h1⟩,hkids⟩:=hpre.1.kids hg.chk;dsimp only at h0 h1 hkids ⊢;have hmem:=xL h0 h1;obtain⟨h8,h8'⟩:=yk (hg.chk _ hmem);rw[AG h0 h1,obs];rw[Bc (λst e=>if geB ⟨k,0⟩ e then zo k st e else (st,0)) (nd t.nodes x7).elems (λ(st:FlatN) j=>(st.1,st.2.1,st.2.2.1,st.2.2.2.1,st.2.2.2.2.1,st.2.2.2.2.2.1,st.2.2.2.2.2.2,j)) z_ (λst n=>f_ (n+1,st)) (x0,x1,x2,x3,x4,x5,x6) o_ rfl ?hs ?he]
  case hs =>
   rintro j e ⟨y0,y1,y2,y3,y4,y5,y6⟩ hj hr;have hkl:=(ggs.1 hj).1;dsimp only;rw[decide_eq_true o_,cond_true,vX,hj,obs,wg,obs,wA,obs,w64 o_ o_];unfold geB;by_cases hge:0<=cmpS (vU e) ⟨k,0⟩
   . rw[decide_eq_true hge,cond_true,if_pos rfl];unfold zo;by_cases hn:e.key=k
     . rw[if_neg (show ¬ e.key≠k by simpa using hn),show (!(e.key==k))=false by simpa using hn,cond_false];by_cases hz:e.gone=0
       . rw[if_pos hz,show (e.gone==0)=true by simpa using hz];rfl
       . rw[if_neg hz,show (e.gone==0)=false by simpa using hz];rfl
     . rw[if_pos hn,show (!(e.key==k))=true by simpa using hn];rfl
   . rw[decide_eq_false hge,cond_false,if_neg s_];rfl
  case he =>
   rintro⟨y0,y1,y2,y3,y4,y5,y6⟩ hr;dsimp only;rw[decide_eq_false o_];rfl
  rw[obs,AS,xK]
  cases hb:wF (zo k) ((nd t.nodes x7).elems.filter (geB ⟨k,0⟩)) (x0,x1,x2,x3,x4,x5,x6) with
  |mk b c =>
   rw[xY,hb]
   cases c with
   |succ c=>rfl
   |zero =>
    obtain⟨b0,b1,b2,b3,b4,b5,b6⟩:=b;dsimp only[j5];rw[if_pos rfl];by_cases hkd:(nd t.nodes x7).kind=1
    . rw[if_pos hkd,show ((nd t.nodes x7).kind==1)=true by simpa using hkd];rfl
    . rw[if_neg hkd,show ((nd t.nodes x7).kind==1)=false by simpa using hkd,cond_false]
      have hw:yL (nd t.nodes x7).seps ⟨k,0⟩<=(nd t.nodes x7).kids.length:=by
       rcases wx.1 (hg.chk _ hmem) with q|q|q
       . rw[q.2.2.2.1];exact D_ _
       . exact absurd q.1 hkd
       . exact LG q.2 ⟨k,0⟩
      rw[yH _ ⟨k,0⟩ (hs _ hmem),obs,wJ hw,obs];rw[Bc (λst j=>wF (zo k) (xK t.nodes ⟨k,0⟩ m j) st) ((nd t.nodes x7).kids.drop (yL (nd t.nodes x7).seps ⟨k,0⟩)) (λ(st:FlatN) j=>(st.1,st.2.1,st.2.2.1,st.2.2.2.1,st.2.2.2.2.1,st.2.2.2.2.2.1,st.2.2.2.2.2.2,j)) z_ (λst n=>f_ (n+1,st)) (b0,b1,b2,b3,b4,b5,b6) (by rw[o8];omega) rfl ?hs2 ?he2]
      case hs2 =>
       rintro j e ⟨y0,y1,y2,y3,y4,y5,y6⟩ hk2 hr;have hkl:=(ggs.1 hk2).1;rw[o8] at hkl;dsimp only;rw[decide_eq_true (by rw[o8];omega),cond_true,vX,hk2,obs,ih (y0,y1,y2,y3,y4,y5,y6,e) (Kb hg.chk hpre hkd hlen hb hk2 hr),obs,w64 o_ o_];dsimp only
       cases hc:wF (zo k) (xK t.nodes ⟨k,0⟩ m e) (y0,y1,y2,y3,y4,y5,y6) with
       |mk y c=>cases c <;> rfl
      case he2 =>
       rintro⟨y0,y1,y2,y3,y4,y5,y6⟩ hr;dsimp only;rw[decide_eq_false o_];rfl
      rw[obs,yi]
      cases hc:wF (zo k) (((nd t.nodes x7).kids.drop (yL (nd t.nodes x7).seps ⟨k,0⟩)).flatMap (xK t.nodes ⟨k,0⟩ m)) (b0,b1,b2,b3,b4,b5,b6) with
      |mk y c=>cases c <;> rfl
 rw[obs];dsimp only;rw[Ix hg ⟨k,0⟩];obtain⟨hsort,hall⟩:=xB hg.chk h t.root 0 topS hg.ok;have hlast:=hr.last_le;have hat:=Jp (λe he=>(hall e he).2) k 2147483647 (l:=vS t.nodes h t.root);rw[KS hr hlast] at hat;rcases K2 k 2147483647 _ (hsort.filter _) Iw (λe he=>by have:=zV (g_.1 he).1;omega) (false,0,0,0,0,0,Q_ #[]) with ⟨e,h1,h2⟩|⟨h1,c,hc,h2⟩
 . rw[h2,<-hat,h1];rfl
 . rw[h2,<-hat,h1];have:c=0\/c=1:=o_;rcases this with rfl|rfl <;> rfl
theorem Iz {ns:List DNode}(hns:∀n∈ns,wr n=0):∀ {h:Nat} {i:Int} {m:Nat} {s:Span},wo ns h i m s->we (nd ns i)=xj (vS ns h i):=by
 intro h
 induction h with
 |zero =>
  intro i m s c;have L:=c.leaf hns;obtain⟨g1,g2,g3⟩:=Bv (nd ns i);have g0:=(AC (hns _ (xL c.range.1 c.range.2))).1;have hnn:=Ca (nd ns i).elems;rw[vS];refine Int.le_antisymm ?_ (zi.2 ⟨g0,g1⟩);rcases g3 with g3|⟨e,he,g3⟩|⟨t,ht,_⟩
  . omega
  . rw[<-g3];exact zV he
  . rw[L.tids] at ht;cases ht
 |succ h ih =>
  intro i m s c;have L:=c.inner hns;obtain⟨g1,g2,g3⟩:=Bv (nd ns i);have g0:=(AC (hns _ (xL c.range.1 c.range.2))).1;have hch:=c.2.2.2;rw[vS];have hnn:=Ca ((nd ns i).kids.flatMap (vS ns h));refine Int.le_antisymm ?_ (zi.2 ⟨g0,λe he=>?_⟩)
  . rcases g3 with g3|⟨e,he,_⟩|⟨t,ht,g3⟩
    . omega
    . rw[L.elems] at he;cases he
    . obtain⟨k,s',hk,x⟩:=hch.tmem t ht;rw[<-g3,<-x.2,ih x.1];exact zi.2 ⟨hnn,λe he=>zV (List.mem_flatMap.2 ⟨k,hk,he⟩)⟩
  . obtain⟨k,hk,he⟩:=List.mem_flatMap.1 he;obtain⟨q,hq⟩:=o6.1 hk;obtain⟨t,s',ht,x,_⟩:=hch.at_ q k hq;have h1:=g2 t (y_ ht);have h2:=zV he;rw[<-ih x.1,x.2] at h2;omega
theorem yP {t:DTree}{h:Nat}(hg:Good t h)(u:Int):nC F t u=some (decide (u<1\/2147483647<u\/u<xj (vS t.nodes h t.root))):=by
 have c:=AB hg;rw[wU] at c;have hgr:=Iz hg.chk c;obtain⟨h0,h1⟩:=c.range;unfold nC;by_cases h2:u<1
 . rw[decide_eq_true h2,cond_true,obs,decide_eq_true (.inl h2)]
 . rw[decide_eq_false h2,cond_false];by_cases h3:2147483647<u
   . rw[decide_eq_true h3,cond_true,obs,decide_eq_true (.inr (.inl h3))]
   . rw[decide_eq_false h3,cond_false,AG h0 h1,obs,xh _ (xp (hg.chk _ (xL h0 h1))),obs,obs,hgr];congr 1;rw[V_,decide_eq_true_eq,decide_eq_true_eq];omega
theorem yO {t:DTree}{h:Nat}(hg:Good t h):pc F t=some (decide (400<=(vS t.nodes h t.root).length)):=by
 have hlen:∀(a:Nat) (e:DElem),(λa:Nat=>a) ((λ(a:Nat) (_:DElem)=>(a+1,0)) a e).1<=(λa:Nat=>a) a+1:=λ_ _=>l_ _;unfold pc;rw[zR (σ:=Int×Int) (λm x=>DG t.nodes m x.2/\0<=x.1/\x.1+((wj t.nodes m x.2).length:Int)<=100000) (λm x=>x.1+((wj t.nodes m x.2).length:Int)) ?h0 ?hstep F _ ?hpre]
 case h0 =>
  rintro⟨x1,x2⟩ ⟨⟨h,d,s,hm,_⟩,_⟩;omega
 case hpre =>
  have hF:=(inferInstance:Big F).le;have h4:=xU hg;refine⟨⟨h,0,topS,by omega,hg.ok⟩,C_ _,?_⟩;dsimp only;rw[Cw hg];have:=zg hg;omega
 case hstep =>
  rintro m self ih ⟨x1,x2⟩ ⟨hok,hc0,hc1⟩;obtain⟨⟨h0,h1⟩,hkids⟩:=hok.kids hg.chk;dsimp only at h0 h1 hkids hc0 hc1 ⊢;obtain⟨h8,h8'⟩:=yk (hg.chk _ (xL h0 h1));rw[wj,d_] at hc1;rw[AG h0 h1,obs];rw[wB (λk=>(x1+(k:Int),(k:Int))) (nd t.nodes x2).elems.length (r:=x1+((nd t.nodes x2).elems.length:Int)) s_ o_ ?s1 ?e1]
  case s1 =>
   intro k hk;dsimp only;rw[decide_eq_true o_,cond_true,vX,gge hk,obs,w64 o_ o_,w64 o_ o_];congr 3;omega
  case e1 =>
   dsimp only;rw[decide_eq_false o_,cond_false]
  rw[obs];have hlen:((nd t.nodes x2).kids.flatMap (wj t.nodes m)).length<=100000:=o_;rw[wB (λk=>(x1+((nd t.nodes x2).elems.length:Int)+((((nd t.nodes x2).kids.take k).flatMap (wj t.nodes m)).length:Int),(k:Int))) (nd t.nodes x2).kids.length (r:=x1+((nd t.nodes x2).elems.length:Int)+(((nd t.nodes x2).kids.flatMap (wj t.nodes m)).length:Int)) s_ o_ ?s2 ?e2]
  case s2 =>
   intro k hk;have hgk:(nd t.nodes x2).kids[k]? = some (nd t.nodes x2).kids[k]:=gge hk;obtain⟨q1,q2⟩:=Ir (wj t.nodes m) hk;dsimp only;rw[decide_eq_true o_,cond_true,vX,hgk,obs,ih _ ⟨hkids _ (g9 _),by dsimp only;omega,by dsimp only;omega⟩,obs,w64 o_ o_];dsimp only;rw[q1,d_];congr 3;omega
  case e2 =>
   dsimp only;rw[decide_eq_false o_,cond_false,t_]
  rw[obs,wj,d_];congr 1;omega
 rw[obs,obs];dsimp only;rw[Cw hg];congr 1;rw[V_,decide_eq_true_eq,decide_eq_true_eq];omega
theorem Ia {A B:List DElem}{e y:DElem}(hs:vU y=vU e)(ho:(A++e::B).Pairwise SpO):(A++e::B).map (xS y)=A++y::B:=by
 obtain⟨o1,o2,o3⟩:=l9.1 ho;rw[List.map_append,P_,BO,BO]
 . unfold xS;rw[if_pos hs.symm]
 . intro x hx h;have h1:cmpS (vU e) (vU x)<0:=(m0.1 o2).1 x hx;rw[h,hs,wb.refl] at h1;omega
 . intro x hx h;have h1:cmpS (vU x) (vU e)<0:=o3 x hx e u_;rw[h,hs,wb.refl] at h1;omega
theorem K1 {A B:List DElem}{e:DElem}(ho:(A++e::B).Pairwise SpO):(A++e::B).filter (yx (vU e))=A++B:=by
 have hg:(A++e::B)[A.length]? = some e:=by rw[List.getElem?_append_right (l_ _)];simp
 rw[LE ho hg,List.take_left' rfl,show A++e::B=(A++[e])++B by simp,List.drop_left' s_]
section
variable {l:List DElem} {k:DKey} {t:Int} {v:ByteArray}
theorem CF (h:Run l){e:DElem}(hn:xy l k=some e):∃a,l=(lo l k++a)++e::hi l k/\clo (hist l k) t=a++(if e.made=t then [] else [{ e with gone:=t }]):=by
 obtain⟨a,ha,hc⟩:=HM (t:=t) h.ord hn;refine⟨a,?_,hc⟩
 conv=>lhs;rw[Fp k h.ord,ha]
 simp
theorem KX (h:Run l){e:DElem}(hn:xy l k=some e)(hm:e.made=t):l.map (xS (yh k v t))=putR l k v t:=by
 obtain⟨a,h1,h2⟩:=CF (t:=t) h hn;have hk:=((yZ h.ord).1 hn).2.1;have ho:=AV h.ord;rw[h1] at ho;have hsp:vU (yh k v t)=vU e:=by unfold vU yh;rw[hk,hm]
 conv=>lhs;rw[h1]
 rw[Ia hsp ho];unfold putR upd;rw[h2,if_pos hm];simp
theorem Dd (h:Run l){e:DElem}(hn:xy l k=some e)(hm:e.made≠t):l.map (xS { e with gone:=t })=cutR l k t:=by
 obtain⟨a,h1,h2⟩:=CF (t:=t) h hn;have ho:=AV h.ord;rw[h1] at ho
 conv=>lhs;rw[h1]
 rw[Ia (e:=e) (y:={ e with gone:=t }) rfl ho];unfold cutR upd;rw[h2,if_neg hm];simp
theorem KC (h:Run l){e:DElem}(hn:xy l k=some e)(hm:e.made=t):l.filter (yx (vU e))=cutR l k t:=by
 obtain⟨a,h1,h2⟩:=CF (t:=t) h hn;have ho:=AV h.ord;rw[h1] at ho
 conv=>lhs;rw[h1]
 rw[K1 ho];unfold cutR upd;rw[h2,if_pos hm];simp
theorem EF (h:Run l)(ht:xj l<=t)(hc:wa (yh k v t)=0):∀x∈cutR l k t,vU x≠vU (yh k v t):=by
 obtain⟨_,h0,h1,_⟩:=zw hc;obtain⟨c1,c2,c3⟩:=h.clo ht h0 h1 k;intro x hx hs;unfold cutR at hx;have hk:x.key=k:=congrArg DSpot.key hs;have hmd:x.made=t:=congrArg DSpot.made hs;rcases(zv h.ord).1 hx with hx|⟨_,hx⟩
 . have:=(c3 x hx).2;omega
 . exact hx hk
theorem Gl (h:Run l)(hn:xy l k=none):(putR l k v t).length=l.length+1:=by rw[BK h,hn]
theorem Gm (h:Run l){e:DElem}(hn:xy l k=some e)(hm:e.made=t):(putR l k v t).length=l.length:=by rw[BK h,hn];exact if_pos hm
theorem Gn (h:Run l){e:DElem}(hn:xy l k=some e)(hm:¬ e.made=t):(putR l k v t).length=l.length+1:=by rw[BK h,hn];exact if_neg hm
theorem KW (h:Run l)(ht:xj l<=t)(hc:wa (yh k v t)=0)(hn:(putR l k v t).length<=400):G6 (cutR l k t) (yh k v t)=putR l k v t:=by
 obtain⟨_,h0,h1,_⟩:=zw hc;have hcut:=h.cutR ht h0 h1 k;have hput:=h.putR ht hc hn;refine Fq (CV (AV hcut.ord) _) (AV hput.ord) λx=>?_;rw[Ge];have hf:=EF h ht hc;unfold putR;rw[zv h.ord,v_,B_];constructor
 . rintro(rfl|⟨hx,_⟩)
   . exact .inl (.inr rfl)
   . unfold cutR at hx;rcases(zv h.ord).1 hx with hx|hx
     . exact .inl (.inl hx)
     . exact .inr hx
 . rintro((hx|rfl)|hx)
   . have hm:x∈cutR l k t:=(by unfold cutR;exact(zv h.ord).2 (.inl hx));exact .inr ⟨hm,hf x hm⟩
   . exact .inl rfl
   . have hm:x∈cutR l k t:=(by unfold cutR;exact(zv h.ord).2 (.inr hx));exact .inr ⟨hm,hf x hm⟩
end
theorem Lz {N:NL}(h:qY N=some (fN N))(root:Int):nlT ⟨root,fN N⟩=N:=(lE h).symm
theorem zy {t:DTree}{h:Nat}(hg:Good t h):lz F t=some (Ad (vS t.nodes h t.root)):=C8 (zO hg) hg
omit [Big F] in
theorem Cs (t:DTree)(k:DKey)(v:ByteArray)(u:Int):pP F t k v u=(lz F t).bind λr1=>bif (r1 !=0) then some ((DTree.mk 0 []),r1) else (kO (DElem.mk k u 0 v)).bind λr2=>bif (r2 !=0) then some ((DTree.mk 0 []),r2) else
 (nC F t u).bind λr3=>bif r3 then some ((DTree.mk 0 []),9) else (oB F t k).bind λr4=>(mz F t).bind λr5 =>
 bif (r4.2&&(r4.1.made==u)) then (qc (σ:=NL×Int) (ρ:=NL) (Ay F (DElem.mk k u 0 v)) F (nlT r5,r5.root)).bind λq1=>(qY q1).bind λl1=>some ((DTree.mk r5.root l1),0)
 else (pc F t).bind λr16=>bif r16 then some ((DTree.mk 0 []),8) else
  (bif r4.2 then (qc (σ:=NL×Int) (ρ:=NL) (Ay F (DElem.mk r4.1.key r4.1.made u r4.1.val)) F (nlT r5,r5.root)).bind λq2=>some q2 else some (nlT r5):Option NL).bind λz5 =>
  (GI F (DElem.mk k u 0 v) z5 r5.root).bind λz=>match z with|(z10,z11)=>(qY z11).bind λl2=>some ((DTree.mk z10 l2),0)
:=by
 unfold pP;simp only[Eg,Lh];rfl
theorem FF {t:DTree}{h:Nat}(hg:Good t h)(k:DKey)(v:ByteArray)(u:Int)(hz:Eb (vS t.nodes h t.root) k v u≠0):pP F t k v u=some (zT,Eb (vS t.nodes h t.root) k v u):=by
 rw[Cs,zy hg,obs];unfold Eb at hz ⊢;by_cases h1:Ad (vS t.nodes h t.root)=0;rotate_left
 . rw[wK h1,cond_true,if_pos h1];rfl
 have hrun:=xd.1 h1;rw[if_neg (by simpa using h1)] at hz ⊢;rw[wt h1,cond_false,wI,obs];by_cases h2:wa (yh k v u)=0;rotate_left
 . rw[show DElem.mk k u 0 v=yh k v u from rfl,wK h2,cond_true,if_pos h2];rfl
 rw[if_neg (by simpa using h2)] at hz ⊢;obtain⟨_,u0,u1,_⟩:=zw h2;rw[show DElem.mk k u 0 v=yh k v u from rfl,wt h2,cond_false,yP hg,obs];by_cases h3:u<xj (vS t.nodes h t.root)
 . rw[decide_eq_true (.inr (.inr h3)),cond_true,if_pos h3];rfl
 rw[if_neg h3] at hz ⊢;rw[decide_eq_false o_,cond_false,zp hg hrun,obs,yl hg.len hg.chk,obs];have hl:=hrun.len;by_cases h4:400<(putR (vS t.nodes h t.root) k v u).length;rotate_left
 . exact absurd (if_neg h4) hz
 rw[if_pos h4]
 have hnm:((Fe (xy (vS t.nodes h t.root) k)).2&&((Fe (xy (vS t.nodes h t.root) k)).1.made==u))=false:=by
  cases hn:xy (vS t.nodes h t.root) k with
  |none=>rfl
  |some e=>show (true&&(e.made==u))=false;rw[p6,beq_eq_false_iff_ne];intro hm;have hpl:=Gm (v:=v) hrun hn hm;omega
 have h5:400<=(vS t.nodes h t.root).length:=by
  cases hn:xy (vS t.nodes h t.root) k with
  |none=>have hpl:=Gl (v:=v) (t:=u) hrun hn;omega
  |some e =>
   by_cases hm:e.made=u
   . have hpl:=Gm (v:=v) hrun hn hm;omega
   . have hpl:=Gn (v:=v) hrun hn hm;omega
 rw[hnm,cond_false,yO hg,obs,decide_eq_true h5,cond_true];rfl
theorem AX {t:DTree}{h:Nat}(hg:Good t h)(k:DKey)(v:ByteArray)(u:Int)(hz:Eb (vS t.nodes h t.root) k v u=0) :
 ∃t' h',pP F t k v u=some (t',0)/\Good t' h'/\vS t'.nodes h' t'.root=putR (vS t.nodes h t.root) k v u:=by
 obtain⟨hrun,hc,hlast,hput⟩:=Bh.1 hz;obtain⟨_,u0,u1,_⟩:=zw hc;have hl:=hrun.len;have hcut:=hrun.cutR hlast u0 u1 k
 have pre:∀r,((bif ((Fe (xy (vS t.nodes h t.root) k)).2&&((Fe (xy (vS t.nodes h t.root) k)).1.made==u)) then (qc (σ:=NL×Int) (ρ:=NL) (Ay F (yh k v u)) F (nlT t,t.root)).bind λq1=>(qY q1).bind λl1=>some ((DTree.mk t.root l1),(0:Int))
  else (pc F t).bind λr16=>bif r16 then some ((DTree.mk 0 []),8) else
   (bif (Fe (xy (vS t.nodes h t.root) k)).2 then (qc (σ:=NL×Int) (ρ:=NL) (Ay F (DElem.mk (Fe (xy (vS t.nodes h t.root) k)).1.key (Fe (xy (vS t.nodes h t.root) k)).1.made u (Fe (xy (vS t.nodes h t.root) k)).1.val)) F (nlT t,t.root)).bind λq2=>some q2 else some (nlT t):Option NL).bind λz5 =>
   (GI F (yh k v u) z5 t.root).bind λz=>match z with|(z10,z11)=>(qY z11).bind λl2=>some ((DTree.mk z10 l2),0))=r)->pP F t k v u=r:=λr hh=>by
  rw[Cs,zy hg,obs,wt (xd.2 hrun),cond_false,show DElem.mk k u 0 v=yh k v u from rfl,wI,obs,wt hc,cond_false,yP hg,obs,decide_eq_false o_,cond_false,zp hg hrun,obs,yl hg.len hg.chk,obs];exact hh
 have add:∀(t1:DTree),Good t1 h->t1.root=t.root->vS t1.nodes h t1.root=cutR (vS t.nodes h t.root) k u->∃t' h',((GI F (yh k v u) (nlT t1) t.root).bind λz=>match z with|(z10,z11)=>(qY z11).bind λl2=>some ((DTree.mk z10 l2),(0:Int)))=some (t',0)/\Good t' h'/\vS t'.nodes h' t'.root=putR (vS t.nodes h t.root) k v u:=λt1 g1 hr1 he1=>by
  obtain⟨root,N,a1,a2,h',a3,a4⟩:=Ih (F:=F) (e:=yh k v u) g1 hc (by rw[he1];exact EF hrun hlast hc) (by rw[he1];exact hcut.len);rw[hr1] at a1;refine⟨⟨root,fN N⟩,h',?_,a3,?_⟩
  . rw[a1,obs];dsimp only;rw[a2,obs]
  . rw[a4,he1];exact KW hrun hlast hc hput
 cases hn:xy (vS t.nodes h t.root) k with
 |none=>have hpl:=Gl (v:=v) (t:=u) hrun hn;rw[hn] at pre;obtain⟨t',h',a1,a2,a3⟩:=add t hg rfl (JC hrun hn).symm;refine⟨t',h',pre _ ?_,a2,a3⟩;show (bif false then _ else _)=_;rw[cond_false,yO hg,obs,decide_eq_false o_,cond_false];show ((bif false then _ else some (nlT t):Option NL).bind _)=_;rw[cond_false,obs];exact a1
 |some e =>
  rw[hn] at pre;have hem:=(yZ hrun.ord).1 hn;by_cases hm:e.made=u
  . obtain⟨N,c1,c2,c3,c4⟩:=Dr (F:=F) (e:=yh k v u) hg hc;refine⟨⟨t.root,fN N⟩,h,pre _ ?_,c3,by rw[c4];exact KX hrun hn hm⟩;show (bif (true&&(e.made==u)) then _ else _)=_;rw[p6,show (e.made==u)=true by rw[beq_iff_eq];exact hm,cond_true,c1,obs,c2,obs]
  . have hce:wa { e with gone:=u } = 0:=by have h1:=hcut.ok { e with gone:=u };refine h1 ?_;rw[<-Dd hrun hn hm];exact I_.2 ⟨e,hem.1,if_pos rfl⟩
    obtain⟨N,c1,c2,c3,c4⟩:=Dr (F:=F) (e:={ e with gone:=u }) hg hce;obtain⟨t',h',a1,a2,a3⟩:=add ⟨t.root,fN N⟩ c3 rfl (by rw[<-Dd hrun hn hm];exact c4);rw[Lz c2] at a1;refine⟨t',h',pre _ ?_,a2,a3⟩;have hpl:=Gn (v:=v) hrun hn hm;show (bif (true&&(e.made==u)) then _ else _)=_;rw[p6,show (e.made==u)=false by rw[beq_eq_false_iff_ne];exact hm,cond_false,yO hg,obs,decide_eq_false o_,cond_false];show ((bif true then (qc (σ:=NL×Int) (ρ:=NL) (Ay F { e with gone:=u }) F (nlT t,t.root)).bind _ else _:Option NL).bind _)=_;rw[cond_true,c1,obs,obs];exact a1
omit [Big F] in
theorem FE (t:DTree)(k:DKey)(u:Int):pO F t k u=(lz F t).bind λr1=>bif (r1 !=0) then some ((DTree.mk 0 []),r1) else (mw k).bind λr2=>bif (r2 !=0) then some ((DTree.mk 0 []),r2) else
 (nC F t u).bind λr3=>bif r3 then some ((DTree.mk 0 []),9) else (oB F t k).bind λr4=>bif (!r4.2) then some ((DTree.mk 0 []),4) else
 bif (r4.1.made==u) then (mz F t).bind λr5=>(jp r4.1).bind λr7=>(Gk F r7 (nlT r5) r5.root).bind λz=>match z with|(z1,z2)=>(qY z1).bind λl1=>some ((DTree.mk z2 l1),0)
 else (mz F t).bind λr43=>(qc (σ:=NL×Int) (ρ:=NL) (Ay F (DElem.mk r4.1.key r4.1.made u r4.1.val)) F (nlT r43,r43.root)).bind λq11=>(qY q11).bind λl2=>some ((DTree.mk r43.root l2),0)
:=by
 unfold pO;simp only[Eg,Jl];rfl
theorem D3 {t:DTree}{h:Nat}(hg:Good t h)(k:DKey)(u:Int)(hz:JB (vS t.nodes h t.root) k u=0) :
 ∃t' h',pO F t k u=some (t',0)/\Good t' h'/\vS t'.nodes h' t'.root=cutR (vS t.nodes h t.root) k u:=by
 obtain⟨hrun,hk,u0,u1,hlast,hnow⟩:=Cv.1 hz;obtain⟨e,hn⟩:=Option.isSome_iff_exists.1 hnow;have hem:=(yZ hrun.ord).1 hn;have hcut:=hrun.cutR hlast u0 u1 k;rw[FE,zy hg,obs,wt (xd.2 hrun),cond_false,B8,obs,wt hk,cond_false,yP hg,obs,decide_eq_false o_,cond_false,zp hg hrun,obs,hn];show ∃t' h',(bif (!true) then _ else bif (e.made==u) then _ else _)=_/\_;rw[l7,cond_false];by_cases hm:e.made=u
 . obtain⟨root,N,o1,o2,h',o3,o4⟩:=EC (F:=F) (sp:=vU e) hg;refine⟨⟨root,fN N⟩,h',?_,o3,by rw[o4];exact KC hrun hn hm⟩;rw[show (e.made==u)=true by rw[beq_iff_eq];exact hm,cond_true,yl hg.len hg.chk,obs,wg,obs];show (Gk F (vU e) (nlT t) t.root).bind _=_;rw[o1,obs];dsimp only;rw[o2,obs]
 . have hce:wa { e with gone:=u } = 0:=by refine hcut.ok { e with gone:=u } ?_;rw[<-Dd hrun hn hm];exact I_.2 ⟨e,hem.1,if_pos rfl⟩
   obtain⟨N,c1,c2,c3,c4⟩:=Dr (F:=F) (e:={ e with gone:=u }) hg hce;refine⟨⟨t.root,fN N⟩,h,?_,c3,by rw[c4];exact Dd hrun hn hm⟩;rw[show (e.made==u)=false by rw[beq_eq_false_iff_ne];exact hm,cond_false,yl hg.len hg.chk,obs];show (qc (σ:=NL×Int) (ρ:=NL) (Ay F { e with gone:=u }) F (nlT t,t.root)).bind _=_;rw[c1,obs,c2,obs]
end
section
variable {F:Nat} [Big F]
def AR (t:DTree):List UInt8:=wi t.root.toNat 2++wi t.nodes.length 2
def wV (t:DTree):ByteArray:=ofL (AR t)
theorem xI (t:DTree):(AR t).length=4:=by unfold AR;rw[d_,vV,vV]
theorem Es {t:DTree}{h:Nat}(g:Good t h):0<=t.root/\t.root<(t.nodes.length:Int):=by
 have:=g.ok
 cases h with
 |zero=>exact this.1
 |succ h=>exact this.1
theorem H8 {t:DTree}{h:Nat}(g:Good t h):((kN F t.root 2).bind λr1=>(kN F (t.nodes.length:Int) 2).bind λr2=>(m5 r1 r2).bind λs1=>some s1:Option ByteArray)=some (wV t):=by
 have hr:=Es g;have e:t.root=((t.root.toNat:Nat):Int):=o_;have h1:kN F t.root 2=some (ofL (wi t.root.toNat 2)):=by have:=yq (F:=F) t.root.toNat 2 c_;rw[<-e] at this;exact this
 have h2:kN F (t.nodes.length:Int) 2=some (ofL (wi t.nodes.length 2)):=yq (F:=F) t.nodes.length 2 c_;rw[h1,vT,h2,vT,xn (by rw[vV,vV];decide),vT];rfl
structure Fine (t:DTree) (l:List DElem):Prop where
 good:∃h,Good t h/\vS t.nodes h t.root=l
 run:Run l
 few:t.nodes.length<=100
theorem Fine.all {t:DTree}{l:List DElem}(f:Fine t l):j6 F t=some (l,0):=by obtain⟨h,g,rfl⟩:=f.good;exact yB (zO g) g
theorem Fine.chk {t:DTree}{l:List DElem}(f:Fine t l):∀n∈t.nodes,wr n=0:=by obtain⟨h,g,rfl⟩:=f.good;exact g.chk
theorem Fine.check {t:DTree}{l:List DElem}(f:Fine t l):lz F t=some 0:=by obtain⟨h,g,rfl⟩:=f.good;rw[zy g,xd.2 f.run]
structure Kept (R:List ByteArray) (q:Nat) (t:DTree):Prop where
 done:Done ⟨R,[]⟩ q (wV t)
 page:∀(i:Nat) (n:DNode),t.nodes[i]? = some n->pg R (1+i)=ofL (xc n)
 small:∀j,1<=j->j<101->(pg R j).size<=2900
theorem BH {n:DNode}(h:wr n=0):(ofL (xc n)).size<=2900:=by have:=BW h;rw[DN,AO];omega
theorem CT (l:List DNode):∀a:List DNode,l.foldl (λa n=>a++[n]) a=a++l:=by
 induction l with
 |nil=>intro a;simp
 |cons x l ih=>intro a;rw[List.foldl_cons,ih];simp
theorem IV {P0:List ByteArray}{W0:List DWrite}{R:List ByteArray}{q:Nat}{t:DTree}{l:List DElem}(hr:nA F ⟨P0,W0⟩=some (⟨R,[]⟩,0))(K:Kept R q t)(f:Fine t l) :
 j9 F P0 W0=some (R,[],t.root,t.nodes):=by
 obtain⟨h,g,hl⟩:=f.good;have hg:=Es g;have hn:=f.few;have hR:R.length=201:=K.done.ok.len;unfold j9;rw[hr,vT];dsimp only;rw[show ((0:Int) !=0)=false from rfl,vY,DV K.done.ok,vT];dsimp only;have hsz:(wV t).size=4:=xI t;have s1:km (wV t) 2 ((wV t).size:Int)=some (ofL (slc (AR t) 2 4)):=by rw[hsz];exact zn (l:=AR t) (a:=2) (b:=4) c_ (by rw[xI];decide)
 have s2:km (wV t) 0 2=some (ofL (slc (AR t) 0 2)):=zn (l:=AR t) (a:=0) (b:=2) c_ (by rw[xI];decide);have e1:slc (AR t) 2 4=wi t.nodes.length 2:=by unfold slc AR;rw[n9 (by rw[d_,vV,vV];decide)];exact List.drop_left' (vV _ _)
 have e2:slc (AR t) 0 2=wi t.root.toNat 2:=by unfold slc AR;rw[List.drop_zero];exact List.take_left' (vV _ _)
 rw[s1,s2,e1,e2,hsz,show (((4:Nat):Int) !=4)=false from rfl,vY,vT,xT _ (by rw[vV];decide),vT,vT,xT _ (by rw[vV];decide),vT,xA,xA,
  Nat.mod_eq_of_lt (show t.nodes.length<256 ^ 2 by omega),Nat.mod_eq_of_lt (show t.root.toNat<256 ^ 2 by omega),decide_eq_false (show ¬ (100:Int)<(t.nodes.length:Int) by omega),vY]
 rw[xo (F:=F) t.nodes (λa n=>a++[n]) [] (r:=.inl t.nodes) o_ rfl (λk n hk=>?_) (by dsimp only;rw[decide_eq_false o_,vY,CT];rfl),vT]
 . dsimp only;rw[show (((t.root.toNat:Nat):Int))=t.root by omega];rw[show lz F (DTree.mk t.root t.nodes)=some 0 from f.check,vT];rfl
 . have hk1:=(ggs.1 hk).1;dsimp only;have hp:pg R (1+k)=ofL (xc n):=K.page k n hk;have hc:=f.chk n (y_ hk);have hb:=BW hc;have hlen:((t.nodes.take k).foldl (λa n=>a++[n]) []).length=k:=by rw[CT,q_,H_];omega
   rw[decide_eq_true o_,wh,wv o_ o_,BA o_ o_,vT,show (1+(k:Int)).toNat=1+k by omega,hp,Ff _ (by rw[AO];omega),vT,I8 hc];dsimp only;rw[show ((0:Int) !=0)=false from rfl,vY,yn (by rw[hlen,E_];omega) (by rw[hlen,E_];omega),vT,wv o_ o_]
def Av (R:List ByteArray)(ns:List DNode):List DWrite:=(ns.zipIdx.filter λp=>decide (pg R (1+p.2)≠ofL (xc p.1))).map λp=>⟨((1+p.2:Nat):Int),ofL (xc p.1)⟩
theorem Cf {R:List ByteArray}{ns:List DNode}{w:DWrite}:w∈Av R ns↔∃k n,ns[k]? = some n/\pg R (1+k)≠ofL (xc n)/\w=⟨((1+k:Nat):Int),ofL (xc n)⟩:=by
 unfold Av;rw[I_];constructor
 . rintro⟨⟨n,k⟩,hm,rfl⟩;obtain⟨h1,h2⟩:=g_.1 hm;exact⟨k,n,B1.1 h1,of_decide_eq_true h2,rfl⟩
 . rintro⟨k,n,h1,h2,rfl⟩;exact⟨(n,k),g_.2 ⟨B1.2 h1,decide_eq_true h2⟩,rfl⟩
theorem Jw {R:List ByteArray}{t:DTree}{l:List DElem}(f:Fine t l):FitOk (wV t) (Av R t.nodes):=by
 have hn:=f.few;refine⟨by have:(wV t).size=4:=xI t;omega,?_,λw hw=>?_,λw hw=>?_,?_⟩
 . unfold Av;rw[j_];exact W_ (J_ _ _) (by rw[List.length_zipIdx];exact hn)
 . obtain⟨k,n,h1,_,rfl⟩:=Cf.1 hw;have:=(ggs.1 h1).1;dsimp only;omega
 . obtain⟨k,n,h1,_,rfl⟩:=Cf.1 hw;exact BH (f.chk n (y_ h1))
 . unfold Av;rw[R_];refine List.Pairwise.filter _ ?_;have:(t.nodes.zipIdx.map Prod.snd).Pairwise (·≠·):=by rw[List.zipIdx_map_snd];exact List.nodup_range'
   refine(R_.1 this).imp λ{a b} h=>?_;dsimp only;omega
theorem En (R:List ByteArray)(l:List (DNode×Nat)):∀a:List DWrite,l.foldl (λa p=>if pg R (1+p.2)=ofL (xc p.1) then a else a++[⟨((1+p.2:Nat):Int),ofL (xc p.1)⟩]) a=a++(l.filter λp=>decide (pg R (1+p.2)≠ofL (xc p.1))).map λp=>⟨((1+p.2:Nat):Int),ofL (xc p.1)⟩:=by
 induction l with
 |nil=>intro a;simp
 |cons p l ih =>
  intro a;rw[List.foldl_cons,ih];by_cases h:pg R (1+p.2)=ofL (xc p.1)
  . rw[if_pos h,m9 (by rw[decide_eq_true_iff];exact λc=>c h)]
  . rw[if_neg h,m4 (by rw[decide_eq_true_iff];exact h),P_,List.append_assoc];rfl
theorem KB (R:List ByteArray)(l:List (DNode×Nat)):(l.foldl (λa p=>if pg R (1+p.2)=ofL (xc p.1) then a else a++[⟨((1+p.2:Nat):Int),ofL (xc p.1)⟩]) ([]:List DWrite)).length<=l.length:=by rw[En,q_,j_];exact J_ _ _
theorem Kept.ground {R:List ByteArray}{q:Nat}{t0 t:DTree}{l:List DElem}(K:Kept R q t0)(f:Fine t l)(hq:q<2147483647):StepsOk ⟨R,[]⟩ (wV t) (Av R t.nodes) q (wV t0):=by have ft:=Jw (R:=R) f;refine⟨K.done.ok,ft,λw hw=>?_,hq⟩;have:=ft.page w hw;rw[BM];exact K.small _ o_ o_
theorem Kept.next {R:List ByteArray}{q:Nat}{t0 t:DTree}{l:List DElem}(K:Kept R q t0)(f:Fine t l)(hq:q<2147483647):Kept (P4 q R (wV t) (Av R t.nodes)) (q+1) t:=by
 have g:Ground q R (wV t) (Av R t.nodes):=(K.ground f hq).ground;have hn:=f.few;refine⟨LL g K.done.quiet,λi n hi=>?_,λj h1 h2=>?_⟩
 . have hi1:=(ggs.1 hi).1;by_cases e:pg R (1+i)=ofL (xc n)
   . rw[EE g (1+i) o_ o_ (λw hw=>?_),e];obtain⟨k,m,a1,a2,rfl⟩:=Cf.1 hw;dsimp only;intro c;obtain rfl:k=i:=o_;rw[hi] at a1;obtain rfl:=x_.inj a1;exact a2 e
   . exact J5 g (w:=⟨((1+i:Nat):Int),ofL (xc n)⟩) (Cf.2 ⟨i,n,hi,e,rfl⟩)
 . by_cases hw:∃w∈Av R t.nodes,w.page=(j:Int)
   . obtain⟨w,hw,hp⟩:=hw;have:=J5 g hw;rw[hp,T_] at this;rw[this];exact g.fit.text w hw
   . rw[EE g j h1 h2 (λw hw' c=>hw ⟨w,hw',c⟩)];exact K.small j h1 h2
theorem GY {R:List ByteArray}{q:Nat}{t0 t:DTree}{l:List DElem}(K:Kept R q t0)(f:Fine t l)(hq:q<2147483647) :
 jn F R [] t.root t.nodes=some (P4 q R (wV t) (Av R t.nodes),[],Ak q R (wV t) (Av R t.nodes),0):=by
 obtain⟨h,g,hl⟩:=f.good;have hn:=f.few;have hR:R.length=201:=K.done.ok.len;have G:Ground q R (wV t) (Av R t.nodes):=(K.ground f hq).ground;have hL:=Bp q R (wV t) (Av R t.nodes);have hcl:=G.fit.len;have h4:=G.len4;unfold jn;rw[H8 g,vT];have hz:t.nodes.zipIdx.length=t.nodes.length:=List.length_zipIdx;rw[xo (F:=F) t.nodes.zipIdx (λa p=>if pg R (1+p.2)=ofL (xc p.1) then a else a++[⟨((1+p.2:Nat):Int),ofL (xc p.1)⟩]) [] (r:=Av R t.nodes) o_ rfl (λk p hk=>?_) (by dsimp only;rw[decide_eq_false o_,vY,En];rfl),vT,vT]
 . rw[show o9 F ⟨R,[]⟩ (wV t) (Av R t.nodes)=some (Ak q R (wV t) (Av R t.nodes),0) from HF (K.ground f hq),vT];dsimp only;rw[show ((0:Int) !=0)=false from rfl,vY,wv o_ o_,JR G _ rfl,vT];dsimp only;rw[yn (by rw[G_];omega) (by rw[G_];omega),vT,yn c_ c_,vT,vT];rfl
 . obtain⟨n,i⟩:=p;have hk2:(t.nodes.zipIdx)[k]? = some (n,i):=hk;rw[List.getElem?_zipIdx] at hk2;obtain⟨m,hm,e⟩:=v6.1 hk2;obtain⟨rfl,hi⟩:=Prod.mk.inj e;obtain rfl:k=i:=o_;have hk1:=(ggs.1 hm).1;have hc:=f.chk m (y_ hm);have hcx:=KB R (t.nodes.zipIdx.take k);rw[H_] at hcx;dsimp only;generalize (t.nodes.zipIdx.take k).foldl _ []=a at hcx ⊢;rw[decide_eq_true o_,wh,xE,hm,vT,Bo m (xp hc),if_pos hc,vT];dsimp only;rw[wv o_ o_,BA o_ o_,vT,show (1+(k:Int)).toNat=1+k by omega];by_cases e:pg R (1+k)=ofL (xc m)
   . rw[if_pos e,e,(tF _ _).2 rfl,l7,vY,vT,wv o_ o_]
   . have hs:seq (pg R (1 + k)) (ofL (xc m))=false:=by
      cases hh:seq (pg R (1+k)) (ofL (xc m)) with
      |false=>rfl
      |true=>exact absurd ((tF _ _).1 hh) e
     rw[if_neg e,hs,Bool.not_false,wh,yn (by rw[E_];omega) (by rw[E_];omega),vT,vT,wv o_ o_];rfl
theorem ED {t:DTree}{h:Nat}(g:Good t h)(hr:Run (vS t.nodes h t.root)):oN F t=some (yb (vS t.nodes h t.root),0):=by unfold oN;rw[yB (zO g) g,vT];dsimp only;have hl:=hr.len;rw[show ((0:Int) !=0)=false from rfl,vY,FQ,vT];unfold ofR;rw[if_neg o_,Ej.2 ⟨hr.ok,Ba g⟩]
theorem FK (P:List ByteArray)(W:List DWrite){t t1:DTree}{l:List DElem}(f:Fine t l){h:Nat}(g:Good t1 h)(hr:Run (vS t1.nodes h t1.root)) :
 ∃t' l' c,jR F P W t.root t.nodes t1.root t1.nodes 0=some (t'.root,t'.nodes,c)/\Fine t' l':=by
 unfold jR;rw[show ((0:Int) !=0)=false from rfl,vY];by_cases hn:(100:Int)<(t1.nodes.length:Int)
 . obtain⟨h',b1,b2,-⟩:=CO hr.len hr.ok (Ba g);rw[decide_eq_true hn,wh,show oN F (DTree.mk t1.root t1.nodes)=some (yb (vS t1.nodes h t1.root),0) from ED g hr,vT];dsimp only;generalize vS t1.nodes h t1.root=m at b1 b2 hr;by_cases hm:(100:Int)<((yb m).nodes.length:Int)
   . rw[decide_eq_true hm,wh,vT];exact⟨t,l,8,rfl,f⟩
   . rw[decide_eq_false hm,vY,vT];exact⟨yb m,m,0,rfl,⟨⟨h',b1,b2⟩,hr,by omega⟩⟩
 . rw[decide_eq_false hn,vY,vT];exact⟨t1,_,0,rfl,⟨⟨h,g,rfl⟩,hr,by omega⟩⟩
omit [Big F] in
theorem GK (P:List ByteArray)(W:List DWrite){t t1:DTree}{c:Int}(hc:c≠0):jR F P W t.root t.nodes t1.root t1.nodes c=some (t.root,t.nodes,c):=by unfold jR;rw[wK hc,wh]
theorem Jb (P:List ByteArray)(W:List DWrite){t:DTree}{l:List DElem}(f:Fine t l)(k:DKey)(v:ByteArray)(u:Int) :
 ∃t' l' c,j8 F P W t.root t.nodes k v u=some (t'.root,t'.nodes,c)/\Fine t' l':=by
 obtain⟨h,g,rfl⟩:=f.good;unfold j8;by_cases hz:Eb (vS t.nodes h t.root) k v u=0
 . obtain⟨t1,h1,a1,a2,a3⟩:=AX (F:=F) g k v u hz;obtain⟨hr,hc,hl,hn⟩:=Bh.1 hz;obtain⟨t',l',c,b1,b2⟩:=FK (F:=F) P W f a2 (by rw[a3];exact hr.putR hl hc hn);rw[show pP F (DTree.mk t.root t.nodes) k v u=some (t1,0) from a1,vT];dsimp only;rw[b1,vT];exact⟨t',l',c,rfl,b2⟩
 . rw[show pP F (DTree.mk t.root t.nodes) k v u=_ from FF g k v u hz,vT];dsimp only;rw[GK (t1:=zT) P W hz,vT];exact⟨t,_,_,rfl,f⟩
theorem DM:Fine newT []:=⟨⟨0,Bf,rfl⟩,Run.nil,by decide⟩
def AJ:List ByteArray:=((p7 201 (ofL [])).set 0 (hN 0 (wV newT))).set 1 (ofL (xc ⟨1,[],[],[],[]⟩))
theorem Ly:nu F=some (AJ,newT.root,newT.nodes):=by have hc:wr ⟨1,[],[],[],[]⟩=0:=Bf.chk _ (B_.2 rfl);have h4:(wV newT).size=4:=xI newT;unfold nu;rw[show sd 16 (201:Int)=some () by decide,vT,show (qU:Option DTree)=some newT from rfl,vT,H8 Bf,vT,show oA F 0 (wV newT)=some (hN 0 (wV newT),0) from HT 0 c_ (wV newT) o_,vT,Ls,vT,show idx newT.nodes 0=some ⟨1,[],[],[],[]⟩ from rfl,vT,Bo _ (xp hc),if_pos hc,vT];dsimp only;have e1:idx ((p7 ((201:Int).toNat) ((Q_ #[]):ByteArray)).set ((0:Int).toNat) (hN 0 (wV newT))) 1=some (pg ((p7 ((201:Int).toNat) ((Q_ #[]):ByteArray)).set ((0:Int).toNat) (hN 0 (wV newT))) 1):=BA c_ (by rw[N_,X_];decide);rw[e1,vT];rfl
theorem Fh (j:Nat):pg AJ j=if j=1 then ofL (xc ⟨1,[],[],[],[]⟩) else if j=0 then hN 0 (wV newT) else ofL []:=by
 unfold AJ;rw[BI _ _ _ _ (by rw[N_,X_];decide),BI _ _ _ _ (by rw[X_];decide),LQ];by_cases h1:j=1
 . rw[if_pos h1.symm,if_pos h1]
 . rw[if_neg (λc=>h1 c.symm),if_neg h1];by_cases h0:j=0
   . rw[if_pos h0.symm,if_pos h0]
   . rw[if_neg (λc=>h0 c.symm),if_neg h0]
theorem Cj:Kept AJ 0 newT:=by
 have hc:wr ⟨1,[],[],[],[]⟩=0:=Bf.chk _ (B_.2 rfl);have h4:(wV newT).size=4:=xI newT;have hl:AJ.length=201:=by unfold AJ;rw[N_,N_,X_]
 have hx:=LI 0 (wV newT) c_ o_
 have hs:∀s∈AJ,s.size<=3500:=λs hs=>by
  unfold AJ at hs;rcases List.mem_or_eq_of_mem_set hs with h1|rfl
  . exact hx.good.pages s h1
  . have:=BH hc;omega
 refine⟨⟨⟨⟨Nat.le_of_eq hl,D_ _,hs,λw hw=>by cases hw⟩,hl,?_⟩,rfl,λi h1 h2=>?_⟩,λi n hi=>?_,λj h1 h2=>?_⟩
 . rw[BM,Fh,if_neg c_,if_pos rfl];exact EZ 0 c_ _ o_
 . dsimp only;rw[Fh,if_neg o_,if_neg o_];intro n p t ho;have hz:Bk (ofL [])=none:=by decide
   rw[hz] at ho;cases ho
 . match i,hi with
   |0,hi=>obtain rfl:(⟨1,[],[],[],[]⟩:DNode)=n:=x_.inj hi;rw[Fh,if_pos rfl]
   |i+1,hi=>exact absurd hi (by simp[newT])
 . rw[Fh];split
   . exact BH hc
   . rw[if_neg o_];decide
end
section
theorem BS {zs:List Int}(hs:zs.Pairwise (·<=·)):∀m,m<=zs.length->(Lib.compactUpTo zs.toArray m).Pairwise (· < ·)/\(∀x∈Lib.compactUpTo zs.toArray m,∀j,m<=j+1->j<zs.length->x<=zs.toArray[j]!)/\∀x,x∈Lib.compactUpTo zs.toArray m↔∃j,j<m/\zs.toArray[j]! = x
 |0,_=>by simp[Lib.compactUpTo]
 |m+1,hm=>by
  obtain⟨h1,h2,h3⟩:=BS hs m o_;have at':∀j (hj:j<zs.length),zs.toArray[j]! = zs[j]:=λj hj=>by simp[hj]
  have le:∀i j,i<=j->j<zs.length->zs.toArray[i]!<=zs.toArray[j]!:=λi j hij hj=>by
   rw[at' i o_,at' j hj];rcases p8 i j with h|h
   . exact t6.1 hs i j o_ hj h
   . obtain rfl:i=j:=o_;exact C_ _
  rw[Lib.compactUpTo_succ]
  cases hk:Lib.keeps zs.toArray m with
  |true =>
   rw[if_pos rfl]
   have hne:m=0\/zs.toArray[m]!≠zs.toArray[m-1]!:=by
    unfold Lib.keeps at hk;by_cases h0:m=0
    . exact .inl h0
    . refine .inr λe=>?_;simp[h0,e] at hk
   refine⟨l9.2 ⟨h1,by simp,λx hx y hy=>?_⟩,λx hx j hj hjl=>?_,λx=>?_⟩
   . obtain rfl:=B_.1 hy;rcases hne with rfl|hne
     . simp[Lib.compactUpTo] at hx
     . by_cases h0:m=0
       . subst h0;simp[Lib.compactUpTo] at hx
       . have:=h2 x hx (m-1) o_ o_;have:=le (m-1) m o_ o_;omega
   . rcases v_.1 hx with hx|hx
     . exact h2 x hx j o_ hjl
     . obtain rfl:=B_.1 hx;exact le m j o_ hjl
   . rw[v_,B_,h3];constructor
     . rintro(⟨j,hj,rfl⟩|rfl)
       . exact⟨j,by omega,rfl⟩
       . exact⟨m,by omega,rfl⟩
     . rintro⟨j,hj,rfl⟩;rcases p8 j m with h|h
       . exact .inl ⟨j,h,rfl⟩
       . obtain rfl:j=m:=o_;exact .inr rfl
  |false =>
   have h4:m≠0/\zs.toArray[m]! = zs.toArray[m-1]!:=(by unfold Lib.keeps at hk;simpa using hk);rw[if_neg s_,List.append_nil];refine⟨h1,λx hx j hj hjl=>h2 x hx j o_ hjl,λx=>?_⟩;rw[h3];constructor
   . rintro⟨j,hj,rfl⟩;exact⟨j,by omega,rfl⟩
   . rintro⟨j,hj,rfl⟩;rcases p8 j m with h|h
     . exact⟨j,h,rfl⟩
     . obtain rfl:j=m:=o_;exact⟨j-1,by omega,h4.2.symm⟩
theorem B6 (l:List Int):(kp l).Pairwise (·<=·):=by unfold kp;have:=List.pairwise_mergeSort (le:=λx y:Int=>decide (x<=y)) (λa b c h1 h2=>by simp only[decide_eq_true_eq] at *;omega) (λa b=>by simp only[t7,decide_eq_true_eq];omega) l;exact this.imp λh=>by simpa using h
def Al (l:List Int):List Int:=Lib.compact (kp l)
theorem Fx (l:List Int):(Al l).Pairwise (· < ·):=(BS (B6 l) _ (l_ _)).1
theorem Hi {l:List Int}{x:Int}:x∈Al l↔x∈l:=by
 have h:=(BS (B6 l) _ (l_ _)).2.2 x;unfold Al Lib.compact;rw[h];have hm:x∈kp l↔x∈l:=by unfold kp;exact List.mem_mergeSort
 rw[<-hm];constructor
 . rintro⟨j,hj,rfl⟩;rw[show (kp l).toArray[j]! = (kp l)[j] by simp[hj]];exact g9 hj
 . intro hx;obtain⟨j,hj,rfl⟩:=Y_ hx;exact⟨j,hj,by simp[hj]⟩
theorem Ed (l:List Int):(Al l).length<=l.length:=by unfold Al;rw[<-po l];exact rX _
end
section
def opn (e:DElem):DElem:={ e with gone:=0 }
def cls (q:DElem->Bool)(e:DElem):DElem:=bif q e then e else opn e
def xi (p q:DElem->Bool)(l:List DElem):List DElem:=(l.filter p).map (cls q)
theorem wT {p q:DElem->Bool}{l:List DElem}{x:DElem}:x∈xi p q l↔∃e∈l,p e=true/\x=cls q e:=by
 unfold xi;rw[I_];constructor
 . rintro⟨e,h,rfl⟩;rw[g_] at h;exact⟨e,h.1,h.2,rfl⟩
 . rintro⟨e,h1,h2,rfl⟩;exact⟨e,g_.2 ⟨h1,h2⟩,rfl⟩
theorem yT (q:DElem->Bool)(e:DElem):(cls q e).key=e.key:=by unfold cls opn;cases q e <;> rfl
theorem Dt (q:DElem->Bool)(e:DElem):(cls q e).made=e.made:=by unfold cls opn;cases q e <;> rfl
theorem yU {q:DElem->Bool}{e:DElem}(h:q e=true):cls q e=e:=by unfold cls;rw[h,cond_true]
theorem Cu {q:DElem->Bool}{e:DElem}(h:q e=false):cls q e=opn e:=by unfold cls;rw[h,cond_false]
structure Seen (l:List DElem) (t:Int) (p q:DElem->Bool):Prop where
 made:∀e∈l,p e=true->e.made<=t
 gone:∀e∈l,q e=true->e.gone≠0/\e.gone<=t
 shut:∀a∈l,∀b∈l,a.key=b.key->a.made<b.made->p b=true->p a=true/\q a=true
variable {l:List DElem} {t:Int} {p q:DElem->Bool}
theorem FT {e:DElem}(h:wa e=0):wa (opn e)=0:=by
 have:=zw (k:=e.key) (v:=e.val) (t:=e.made);revert h;unfold wa opn;simp only;intro h
 (repeat' split at h) <;> (repeat' split) <;> first|omega|contradiction|simp_all
theorem Seen.run (s:Seen l t p q)(h:Run l):Run (xi p q l):=by
 refine⟨?_,λx hx=>?_,?_⟩
 . unfold xi;rw[j_];exact W_ (J_ _ _) h.len
 . obtain⟨e,h1,_,rfl⟩:=wT.1 hx;unfold cls
   cases q e with
   |true=>exact h.ok e h1
   |false=>exact FT (h.ok e h1)
 . unfold xi;rw[R_];have ho:=h.ord.filter p;refine List.Pairwise.imp_of_mem ?_ ho;intro a b ha hb hab;obtain⟨a1,a2⟩:=g_.1 ha;obtain⟨b1,b2⟩:=g_.1 hb;rw[yS] at hab ⊢;rw[yT,yT,Dt,Dt];refine hab.imp id λ⟨k1,k2,k3,k4⟩=>?_;obtain⟨_,hq⟩:=s.shut a a1 b b1 k1 k2 b2;rw[yU hq];exact⟨k1,k2,k3,k4⟩
theorem Seen.last (s:Seen l t p q)(h0:0<=t):xj (xi p q l)<=t:=by
 refine zi.2 ⟨h0,λx hx=>?_⟩;obtain⟨e,h1,h2,rfl⟩:=wT.1 hx;refine zS.2 ⟨by rw[Dt];exact s.made e h1 h2,?_⟩;unfold cls
 cases hq:q e with
 |true=>exact(s.gone e h1 hq).2
 |false=>exact h0
theorem Run.older (h:Run l){a b:DElem}(ha:a∈l)(hb:b∈l)(hk:a.key=b.key):a=b\/a.made<b.made\/b.made<a.made:=by
 rcases zk h.ord ha hb with e|e|e
 . exact .inl e
 . rcases yS.1 e with h1|h1
   . rw[hk] at h1;have:=wm.refl b.key;omega
   . exact .inr (.inl h1.2.1)
 . rcases yS.1 e with h1|h1
   . rw[hk] at h1;have:=wm.refl b.key;omega
   . exact .inr (.inr h1.2.1)
theorem Seen.one (s:Seen l t p q)(h:Run l){a b:DElem}(ha:a∈l)(hb:b∈l)(hk:a.key=b.key)(pa:p a=true)(pb:p b=true)(qa:q a=false)(qb:q b=false):a=b:=by
 rcases h.older ha hb hk with e|e|e
 . exact e
 . have:=(s.shut a ha b hb hk e pb).2;rw[qa] at this;cases this
 . have:=(s.shut b hb a ha hk.symm e pa).2;rw[qb] at this;cases this
def Ct (p:DElem->Bool)(e:DElem):DElem->Bool:=λx=>p x||x==e
theorem wS {e x:DElem}:Ct p e x=true↔p x=true\/x=e:=by unfold Ct;rw[t7,beq_iff_eq]
theorem Seen.cut (s:Seen l t p q)(h:Run l){e:DElem}(he:e∈l)(pe:p e=true)(qe:q e=false)(hg:e.gone=t)(h1:1<=t) :
 Seen l t p (Ct q e)/\JB (xi p q l) e.key t=0/\cutR (xi p q l) e.key t=xi p (Ct q e) l:=by
 have hok:=h.ok e he
 have hm:e.made<t/\t<=2147483647/\BX e.key=0:=by
  have:wa e=0:=hok;unfold wa at this
  (repeat' split at this) <;> first|omega|(refine⟨?_,?_,?_⟩ <;> first|omega|simp_all)
 have s':Seen l t p (Ct q e):=⟨s.made,λx hx hq=>by
  rcases wS.1 hq with hq|rfl
  . exact s.gone x hx hq
  . exact⟨by omega,by omega⟩,λa ha b hb hk hab pb=>by
  have:=s.shut a ha b hb hk hab pb
  exact⟨this.1,wS.2 (.inl this.2)⟩⟩
 have r:=s.run h;have r':=s'.run h;have hl:=s.last o_;have hmem:opn e∈xi p q l:=wT.2 ⟨e,he,pe,(Cu qe).symm⟩;have hnow:xy (xi p q l) e.key=some (opn e):=(yZ r.ord).2 ⟨hmem,rfl,rfl⟩;refine⟨s',Cv.2 ⟨r,hm.2.2,h1,hm.2.1,hl,by rw[hnow];rfl⟩,?_⟩;refine EO (Run.cutR r hl h1 hm.2.1 e.key).ord r'.ord λx=>?_;unfold cutR;rw[zv r.ord,Cg];refine Iff.trans ?_ wT.symm;constructor
 . rintro((⟨hx,hgx⟩|⟨y,hy,hgy,hmy,rfl⟩)|⟨hx,hkx⟩)
   . obtain⟨a,a1,a2,rfl⟩:=wT.1 (wE.1 hx).1
     cases hq:q a with
     |true=>exact⟨a,a1,a2,by rw[yU hq,yU (wS.2 (.inl hq))]⟩
     |false=>rw[Cu hq] at hgx;exact absurd rfl hgx
   . obtain⟨hy1,hyk⟩:=wE.1 hy;obtain⟨a,a1,a2,rfl⟩:=wT.1 hy1;rw[yT] at hyk
     cases hq:q a with
     |true=>rw[yU hq] at hgy;exact absurd hgy (s.gone a a1 hq).1
     |false=>obtain rfl:=s.one h a1 he hyk a2 pe hq qe;refine⟨a,a1,a2,?_⟩;rw[Cu hq,yU (wS.2 (.inr rfl)),<-hg];rfl
   . obtain⟨a,a1,a2,rfl⟩:=wT.1 hx;rw[yT] at hkx;have hne:a≠e:=λe'=>hkx (by rw[e']);refine⟨a,a1,a2,?_⟩;unfold cls Ct;rw[show (a==e)=false from beq_eq_false_iff_ne.2 hne,Bool.or_false]
 . rintro⟨a,a1,a2,rfl⟩;by_cases hae:a=e
   . subst hae;refine .inl (.inr ⟨opn a,wE.2 ⟨hmem,rfl⟩,rfl,?_,?_⟩)
     . show a.made≠t;omega
     . rw[yU (wS.2 (.inr rfl)),<-hg];rfl
   . have hc:cls (Ct q e) a=cls q a:=(by unfold cls Ct;rw[show (a==e)=false from beq_eq_false_iff_ne.2 hae,Bool.or_false]);rw[hc];by_cases hk:a.key=e.key
     . refine .inl (.inl ⟨wE.2 ⟨wT.2 ⟨a,a1,a2,rfl⟩,by rw[yT];exact hk⟩,?_⟩)
       cases hq:q a with
       |true=>rw[yU hq];exact(s.gone a a1 hq).1
       |false=>exact absurd (s.one h a1 he hk a2 pe hq qe) hae
     . exact .inr ⟨wT.2 ⟨a,a1,a2,rfl⟩,by rw[yT];exact hk⟩
theorem Seen.put (s:Seen l t p q)(h:Run l){e:DElem}(he:e∈l)(pe:p e=false)(qe:q e=false)(hm:e.made=t)(hs:∀a∈l,a.key=e.key->a.made<e.made->p a=true/\q a=true) :
 Seen l t (Ct p e) q/\Eb (xi p q l) e.key e.val t=0/\putR (xi p q l) e.key e.val t=xi (Ct p e) q l:=by
 have hok:=FT (h.ok e he);have hnew:yh e.key e.val t=opn e:=by rw[<-hm];rfl
 have h1:1<=t/\t<=2147483647:=by rw[<-hnew] at hok;exact⟨(zw hok).2.1,(zw hok).2.2.1⟩
 have s':Seen l t (Ct p e) q:=⟨λx hx hp=>by
  rcases wS.1 hp with hp|rfl
  . exact s.made x hx hp
  . omega,s.gone,λa ha b hb hk hab pb=>by
  rcases wS.1 pb with pb|rfl
  . have:=s.shut a ha b hb hk hab pb;exact⟨wS.2 (.inl this.1),this.2⟩
  . have:=hs a ha hk hab
    exact⟨wS.2 (.inl this.1),this.2⟩⟩
 have r:=s.run h;have r':=s'.run h;have hl:=s.last o_
 have hgone:∀x∈hist (xi p q l) e.key,x.gone≠0:=λx hx=>by
  obtain⟨hx1,hxk⟩:=wE.1 hx;obtain⟨a,a1,a2,rfl⟩:=wT.1 hx1;rw[yT] at hxk
  have hlt:a.made<e.made:=by
   rcases h.older a1 he hxk with e'|e'|e'
   . subst e';rw[pe] at a2;cases a2
   . exact e'
   . have:=s.made a a1 a2;omega
  have hq:=(hs a a1 hxk hlt).2;rw[yU hq];exact(s.gone a a1 hq).1
 have hput:putR (xi p q l) e.key e.val t=upd (xi p q l) e.key (hist (xi p q l) e.key++[opn e]):=by unfold putR;rw[Ds hgone,hnew]
 have hlen:(putR (xi p q l) e.key e.val t).length<=400:=by
  have h2:=BR (k:=e.key) (h:=hist (xi p q l) e.key++[opn e]) r.ord;rw[hput];rw[d_,E_] at h2;have h3:(xi p q l).length<l.length:=by unfold xi;rw[j_];exact v7.2 ⟨e,he,by rw[pe];decide⟩
  have:=h.len;omega
 have hE:Eb (xi p q l) e.key e.val t=0:=Bh.2 ⟨r,by rw[hnew];exact hok,hl,hlen⟩;refine⟨s',hE,?_⟩;refine EO (r.putR hl (by rw[hnew];exact hok) hlen).ord r'.ord λx=>?_;rw[hput,zv r.ord,v_,B_];refine Iff.trans ?_ wT.symm;constructor
 . rintro((hx|rfl)|⟨hx,_⟩)
   . obtain⟨a,a1,a2,rfl⟩:=wT.1 (wE.1 hx).1;exact⟨a,a1,wS.2 (.inl a2),rfl⟩
   . exact⟨e,he,wS.2 (.inr rfl),(Cu qe).symm⟩
   . obtain⟨a,a1,a2,rfl⟩:=wT.1 hx;exact⟨a,a1,wS.2 (.inl a2),rfl⟩
 . rintro⟨a,a1,a2,rfl⟩;rcases wS.1 a2 with a2|rfl
   . by_cases hk:a.key=e.key
     . exact .inl (.inl (wE.2 ⟨wT.2 ⟨a,a1,a2,rfl⟩,by rw[yT];exact hk⟩))
     . exact .inr ⟨wT.2 ⟨a,a1,a2,rfl⟩,by rw[yT];exact hk⟩
   . exact .inl (.inr (Cu qe))
end
section
theorem Io {n h:Nat}(hn:n<=400)(h1:cN n h=1)(h2:∀j,j<h->1<cN n j):sNk n h<=100:=by
 have a0:cN n 0<=50:=by show kOf n<=50;unfold kOf;split <;> omega
 have a1:cN n 1<=7:=by show kOf (cN n 0)<=7;unfold kOf;split <;> omega
 have a2:cN n 2<=1:=by show kOf (cN n 1)<=1;unfold kOf;split <;> omega
 match h with
 |0=>show cN n 0<=100;omega
 |1=>show cN n 0+cN n 1<=100;omega
 |2=>show cN n 0+cN n 1+cN n 2<=100;omega
 |h+3=>have:=h2 2 o_;omega
section
variable {F:Nat} [Big F]
theorem Bt (P:List ByteArray)(W:List DWrite){t t1:DTree}{h:Nat}(g:Good t1 h)(hr:Run (vS t1.nodes h t1.root)) :
 ∃t',jR F P W t.root t.nodes t1.root t1.nodes 0=some (t'.root,t'.nodes,0)/\Fine t' (vS t1.nodes h t1.root):=by
 unfold jR;rw[show ((0:Int) !=0)=false from rfl,vY];by_cases hn:(100:Int)<(t1.nodes.length:Int)
 . obtain⟨h',b1,b2,b3,b4,b5⟩:=CO hr.len hr.ok (Ba g);rw[decide_eq_true hn,wh,show oN F (DTree.mk t1.root t1.nodes)=some (yb (vS t1.nodes h t1.root),0) from ED g hr,vT];dsimp only;have hlen:=Io hr.len b4 b5;generalize vS t1.nodes h t1.root=m at b1 b2 b3 b4 b5 hr hlen;have hm:¬ (100:Int)<((yb m).nodes.length:Int):=by rw[b3];omega
   rw[decide_eq_false hm,vY,vT];exact⟨yb m,rfl,⟨⟨h',b1,b2⟩,hr,by omega⟩⟩
 . rw[decide_eq_false hn,vY,vT];exact⟨t1,rfl,⟨⟨h,g,rfl⟩,hr,by omega⟩⟩
theorem Ko (P:List ByteArray)(W:List DWrite){t:DTree}{l:List DElem}(f:Fine t l)(k:DKey)(v:ByteArray)(u:Int)(hz:Eb l k v u=0) :
 ∃t',j8 F P W t.root t.nodes k v u=some (t'.root,t'.nodes,0)/\Fine t' (putR l k v u):=by
 obtain⟨h,g,rfl⟩:=f.good;unfold j8;obtain⟨t1,h1,a1,a2,a3⟩:=AX (F:=F) g k v u hz;obtain⟨hr,hc,hl,hn⟩:=Bh.1 hz;obtain⟨t',b1,b2⟩:=Bt (F:=F) P W (t:=t) a2 (by rw[a3];exact hr.putR hl hc hn);rw[show pP F (DTree.mk t.root t.nodes) k v u=some (t1,0) from a1,vT];dsimp only;rw[b1,vT];rw[a3] at b2;exact⟨t',rfl,b2⟩
theorem Kh (P:List ByteArray)(W:List DWrite){t:DTree}{l:List DElem}(f:Fine t l)(k:DKey)(u:Int)(hz:JB l k u=0) :
 ∃t',lD F P W t.root t.nodes k u=some (t'.root,t'.nodes,0)/\Fine t' (cutR l k u):=by
 obtain⟨h,g,rfl⟩:=f.good;unfold lD;obtain⟨t1,h1,a1,a2,a3⟩:=D3 (F:=F) g k u hz;obtain⟨hr,_,u0,u1,hl,_⟩:=Cv.1 hz;obtain⟨t',b1,b2⟩:=Bt (F:=F) P W (t:=t) a2 (by rw[a3];exact hr.cutR hl u0 u1 k);rw[show pO F (DTree.mk t.root t.nodes) k u=some (t1,0) from a1,vT];dsimp only;rw[b1,vT];rw[a3] at b2;exact⟨t',rfl,b2⟩
theorem IK {σ ρ:Type}{f:σ->Option (σ⊕ρ)}{Q:ρ->Prop}(n:Nat)(I:Nat->σ->Prop)(hn:n<=9223372036854775807){s:σ}(h0:I 0 s)(hs:∀k s,k<n->I k s->∃s',f s=some (.inl s')/\I (k+1) s')(he:∀s,I n s->∃r,f s=some (.inr r)/\Q r) :
 ∃r,iter f F s=some r/\Q r:=by
 have key:∀(m k N:Nat) (s:σ),k+m=n->m<N->I k s->∃r,iter f N s=some r/\Q r:=by
  intro m
  induction m with
  |zero=>intro k N s hk hN hI;obtain⟨N,rfl⟩:∃M,N=M+1:=⟨N-1,by omega⟩;obtain⟨r,h1,h2⟩:=he s (by rw[<-hk];exact hI);exact⟨r,by rw[iter,h1],h2⟩
  |succ m ih=>intro k N s hk hN hI;obtain⟨N,rfl⟩:∃M,N=M+1:=⟨N-1,by omega⟩;obtain⟨s',h1,h2⟩:=hs k s o_ hI;obtain⟨r,h3,h4⟩:=ih (k+1) N s' o_ o_ h2;exact⟨r,by rw[iter,h1];exact h3,h4⟩
 exact key n 0 F s o_ (zG hn) h0
end
theorem Run.apart {l:List DElem}(h:Run l){k:Nat}{e:DElem}(hk:l[k]? = some e):e∉l.take k:=λhm=>by obtain⟨i,hi,he⟩:=Y_ hm;rw[H_] at hi;rw[List.getElem_take] at he;obtain⟨hkl,hke⟩:=ggs.1 hk;have:=t6.1 h.ord i k o_ hkl o_;rw[he,hke] at this;exact this.irrefl
theorem yy {l:List DElem}{k:Nat}{e x:DElem}(hk:l[k]? = some e):x∈l.take (k+1)↔x∈l.take k\/x=e:=by rw[O_,hk,Option.toList_some,v_,B_]
theorem Dv {e:DElem}(h:wa e=0):1<=e.made/\(e.gone=0\/e.made<e.gone):=by
 unfold wa at h
 (repeat' split at h) <;> omega
structure CutAt (l:List DElem) (t:Int) (k:Nat) (p q:DElem->Bool):Prop where
 p:∀x∈l,p x=true↔x.made<t
 q:∀x∈l,q x=true↔x.gone≠0/\(x.gone<t\/x.gone=t/\x∈l.take k)
structure PutAt (l:List DElem) (t:Int) (k:Nat) (p q:DElem->Bool):Prop where
 p:∀x∈l,p x=true↔x.made<t\/x.made=t/\x∈l.take k
 q:∀x∈l,q x=true↔x.gone≠0/\x.gone<=t
theorem Run.behind {l:List DElem}(h:Run l){a b:DElem}(ha:a∈l)(hb:b∈l)(hk:a.key=b.key)(hm:a.made<b.made):a.gone≠0/\a.gone<=b.made:=by
 rcases zk h.ord ha hb with e|e|e
 . subst e;omega
 . rcases yS.1 e with h1|h1
   . rw[hk] at h1;have:=wm.refl b.key;omega
   . exact⟨h1.2.2.1,h1.2.2.2⟩
 . rcases yS.1 e with h1|h1
   . rw[hk] at h1;have:=wm.refl b.key;omega
   . omega
theorem CutAt.seen {l:List DElem}{t:Int}{k:Nat}{p q:DElem->Bool}(c:CutAt l t k p q)(h:Run l):Seen l t p q :=
 ⟨λe he hp=>by have:=(c.p e he).1 hp;omega,λe he hq=>by have:=(c.q e he).1 hq;exact⟨this.1,by omega⟩,λa ha b hb hk hab pb=>by
  have h1:=(c.p b hb).1 pb;have h2:=h.behind ha hb hk hab
  exact⟨(c.p a ha).2 o_,(c.q a ha).2 ⟨h2.1,.inl o_⟩⟩⟩
theorem PutAt.seen {l:List DElem}{t:Int}{k:Nat}{p q:DElem->Bool}(c:PutAt l t k p q)(h:Run l):Seen l t p q :=
 ⟨λe he hp=>by have:=(c.p e he).1 hp;omega,λe he hq=>(c.q e he).1 hq,λa ha b hb hk hab pb=>by
  have h1:=(c.p b hb).1 pb;have h2:=h.behind ha hb hk hab
  exact⟨(c.p a ha).2 (.inl o_),(c.q a ha).2 ⟨h2.1,by omega⟩⟩⟩
section
variable {F:Nat} [Big F]
theorem JD (P:List ByteArray){l:List DElem}(h:Run l){t:Int}{k:Nat}{p q:DElem->Bool}{e:DElem}(he:l[k]? = some e)(c:CutAt l t k p q){tr:DTree}(f:Fine tr (xi p q l)) :
 ∃tr' q',(bif ((e.gone==t)&&(decide ((0:Int)<t))) then (lD F P [] tr.root tr.nodes e.key t).bind λr4=>some (r4.1,r4.2.1) else some (tr.root,tr.nodes):Option (Int×List DNode))=some (tr'.root,tr'.nodes)/\CutAt l t (k+1) p q'/\Fine tr' (xi p q' l):=by
 have hm:e∈l:=y_ he;have ht:=Dv (h.ok e hm);by_cases hc:e.gone=t/\0<t
 . obtain⟨hg,h0⟩:=hc
   have qe:q e=false:=by
    cases hq:q e with
    |false=>rfl
    |true=>have:=(c.q e hm).1 hq;exact absurd (this.2.resolve_left o_).2 (h.apart he)
   obtain⟨s1,s2,s3⟩:=(c.seen h).cut h hm ((c.p e hm).2 o_) qe hg o_;obtain⟨tr',b1,b2⟩:=Kh (F:=F) P [] f e.key t s2;rw[s3] at b2;refine⟨tr',Ct q e,?_,⟨c.p,λx hx=>?_⟩,b2⟩
   . rw[show ((e.gone==t)&&(decide ((0:Int)<t)))=true by rw[beq_iff_eq.2 hg,decide_eq_true h0];rfl,wh,b1,vT]
   . rw[wS,c.q x hx,yy he];constructor
     . rintro(⟨h1,h2⟩|rfl)
       . exact⟨h1,h2.imp id λh=>⟨h.1,.inl h.2⟩⟩
       . exact⟨by omega,.inr ⟨hg,.inr rfl⟩⟩
     . rintro⟨h1,h2|⟨h2,h3|rfl⟩⟩
       . exact .inl ⟨h1,.inl h2⟩
       . exact .inl ⟨h1,.inr ⟨h2,h3⟩⟩
       . exact .inr rfl
 . refine⟨tr,q,?_,⟨c.p,λx hx=>?_⟩,f⟩
   . rw[show ((e.gone==t)&&(decide ((0:Int)<t)))=false from ?_,vY];rw[Bool.and_eq_false_iff,beq_eq_false_iff_ne,decide_eq_false_iff_not];by_cases h1:e.gone=t
     . exact .inr λh2=>hc ⟨h1,h2⟩
     . exact .inl h1
   . rw[c.q x hx,yy he];constructor
     . rintro⟨h1,h2⟩;exact⟨h1,h2.imp id λh=>⟨h.1,.inl h.2⟩⟩
     . rintro⟨h1,h2|⟨h2,h3|rfl⟩⟩
       . exact⟨h1,.inl h2⟩
       . exact⟨h1,.inr ⟨h2,h3⟩⟩
       . exact absurd ⟨h2,by omega⟩ hc
theorem Ke (P:List ByteArray){l:List DElem}(h:Run l){t:Int}{k:Nat}{p q:DElem->Bool}{e:DElem}(he:l[k]? = some e)(c:PutAt l t k p q){tr:DTree}(f:Fine tr (xi p q l)) :
 ∃tr' p',(bif (e.made==t) then (j8 F P [] tr.root tr.nodes e.key e.val t).bind λr5=>some (r5.1,r5.2.1) else some (tr.root,tr.nodes):Option (Int×List DNode))=some (tr'.root,tr'.nodes)/\PutAt l t (k+1) p' q/\Fine tr' (xi p' q l):=by
 have hm:e∈l:=y_ he;have ht:=Dv (h.ok e hm);by_cases hg:e.made=t
 . have pe:p e=false:=by
    cases hp:p e with
    |false=>rfl
    |true=>have:=(c.p e hm).1 hp;exact absurd (this.resolve_left o_).2 (h.apart he)
   have qe:q e=false:=by
    cases hq:q e with
    |false=>rfl
    |true=>have:=(c.q e hm).1 hq;omega
   obtain⟨s1,s2,s3⟩:=(c.seen h).put h hm pe qe hg (λa ha hk hab=>by
    have h2:=h.behind ha hm hk hab
    exact⟨(c.p a ha).2 (.inl o_),(c.q a ha).2 ⟨h2.1,by omega⟩⟩)
   obtain⟨tr',b1,b2⟩:=Ko (F:=F) P [] f e.key e.val t s2;rw[s3] at b2;refine⟨tr',Ct p e,?_,⟨λx hx=>?_,c.q⟩,b2⟩
   . rw[beq_iff_eq.2 hg,wh,b1,vT]
   . rw[wS,c.p x hx,yy he];constructor
     . rintro(h2|rfl)
       . exact h2.imp id λh=>⟨h.1,.inl h.2⟩
       . exact .inr ⟨hg,.inr rfl⟩
     . rintro(h2|⟨h2,h3|rfl⟩)
       . exact .inl (.inl h2)
       . exact .inl (.inr ⟨h2,h3⟩)
       . exact .inr rfl
 . refine⟨tr,p,?_,⟨λx hx=>?_,c.q⟩,f⟩
   . rw[beq_eq_false_iff_ne.2 hg,vY]
   . rw[c.p x hx,yy he];constructor
     . exact λh2=>h2.imp id λh=>⟨h.1,.inl h.2⟩
     . rintro(h2|⟨h2,h3|rfl⟩)
       . exact .inl h2
       . exact .inr ⟨h2,h3⟩
       . exact absurd h2 hg
theorem Df {σ ρ β γ:Type}{f:σ->Option (σ⊕ρ)}{K:ρ->Option γ}(g:β->γ)(S:β->Prop)(Q:ρ->Prop)(n:Nat)(I:Nat->σ->Prop)(hn:n<=9223372036854775807){s:σ}(h0:I 0 s)(hs:∀k s,k<n->I k s->∃s',f s=some (.inl s')/\I (k+1) s')(he:∀s,I n s->∃r,f s=some (.inr r)/\Q r)
 (hk:∀r,Q r->∃y,K r=some (g y)/\S y):∃y,(iter f F s).bind K=some (g y)/\S y:=by
 obtain⟨r,h1,h2⟩:=IK (F:=F) n I hn h0 hs he;rw[h1,vT];exact hk r h2
theorem Dj {ts:List Int}(hs:ts.Pairwise (· < ·)){m:Nat}{t y:Int}(ht:ts[m]? = some t)(hy:y∈ts):(y∈ts.take m↔y<t)/\(y∈ts.take (m+1)↔y<=t):=by
 obtain⟨hm,hmt⟩:=ggs.1 ht;obtain⟨j,hj,rfl⟩:=Y_ hy;have lt:∀i j (hi:i<ts.length) (hj:j<ts.length),i<j->ts[i]<ts[j]:=λi j hi hj h=>t6.1 hs i j hi hj h
 have mt:∀n,ts[j]∈ts.take n↔j<n:=λn=>by
  constructor
  . intro h;obtain⟨i,hi,he⟩:=Y_ h;rw[H_] at hi;rw[List.getElem_take] at he;rcases Nat.lt_trichotomy i j with h1|h1|h1
    . have:=lt i j o_ hj h1;omega
    . omega
    . have:=lt j i hj o_ h1;omega
  . intro h;exact w7.2 ⟨j,by omega,rfl⟩
 rw[mt,mt,<-hmt];rcases Nat.lt_trichotomy j m with h1|h1|h1
 . have:=lt j m hj hm h1;exact⟨⟨λ_=>this,λ_=>h1⟩,⟨λ_=>by omega,λ_=>by omega⟩⟩
 . subst h1;exact⟨⟨λh=>absurd h (Nat.lt_irrefl _),λh=>absurd h (Int.lt_irrefl _)⟩,⟨λ_=>C_ _,λ_=>by omega⟩⟩
 . have:=lt m j hm hj h1;exact⟨⟨λh=>by omega,λh=>by omega⟩,⟨λh=>by omega,λh=>by omega⟩⟩
theorem J4 {l:List DElem}{p q:DElem->Bool}(hp:∀x∈l,p x=true)(hq:∀x∈l,q x=false->x.gone=0):xi p q l=l:=by
 unfold xi;rw[B2.2 hp];refine(List.map_congr_left λx hx=>?_).trans (List.map_id l)
 cases h:q x with
 |true=>exact yU h
 |false=>rw[Cu h];have:=hq x hx h;unfold opn;rw[<-this];rfl
theorem CR {l:List DElem}(h:Run l):∃t:DTree,jh F l=some (AJ,t.root,t.nodes)/\Fine t l:=by
 have hl:=h.len;unfold jh;rw[Ly,vT];dsimp only;refine Df (F:=F) (λt:DTree=>(AJ,t.root,t.nodes)) (λt=>Fine t l) (λz=>z.length<=800/\∀x,x∈z↔∃e∈l,x=e.made\/x=e.gone) l.length (λk s=>s.2=(k:Int)/\s.1.length=2*k/\∀x,x∈s.1↔∃e∈l.take k,x=e.made\/x=e.gone) o_ ⟨rfl,rfl,by simp⟩ ?_ ?_ ?_
 . rintro k ⟨a,i⟩ hk ⟨h1,ha,hm⟩;dsimp only at h1 ha hm;subst h1;obtain⟨e,he⟩:∃e,l[k]? = some e:=⟨_,gge hk⟩;dsimp only;rw[decide_eq_true (show (k:Int)<(l.length:Int) by omega),wh,vX,he,vT,wq (by simp only[F_,G_];omega) (by simp only[F_,G_];omega),vT,w64 o_ o_];refine⟨_,rfl,by simp,by simp[ha];omega,λx=>?_⟩;dsimp only;rw[v_,hm];constructor
   . rintro(⟨e',h1,h2⟩|h1)
     . exact⟨e',(yy he).2 (.inl h1),h2⟩
     . exact⟨e,(yy he).2 (.inr rfl),by simpa using h1⟩
   . rintro⟨e',h1,h2⟩;rcases(yy he).1 h1 with h1|rfl
     . exact .inl ⟨e',h1,h2⟩
     . exact .inr (by simpa using h2)
 . rintro⟨a,i⟩ ⟨h1,ha,hm⟩;dsimp only at h1 ha hm;subst h1;dsimp only;rw[decide_eq_false o_,vY];refine⟨a,rfl,by omega,λx=>?_⟩;rw[hm,t_]
 . intro z ⟨hz,hmz⟩;rw[show uA z=some (kp z) by unfold uA;rw[if_pos o_],vT];rw[show Lib.compact (kp z)=Al z from rfl];have hts:=Fx z;have hmt:∀x,x∈Al z↔∃e∈l,x=e.made\/x=e.gone:=λx=>(Hi).trans (hmz x);have htl:(Al z).length<=800:=W_ (Ed z) hz;generalize Al z=ts at hts hmt htl;have hmade:∀x∈l,x.made∈ts:=λx hx=>(hmt _).2 ⟨x,hx,.inl rfl⟩;have hgone:∀x∈l,x.gone∈ts:=λx hx=>(hmt _).2 ⟨x,hx,.inr rfl⟩;refine Df (F:=F) (λt:DTree=>(AJ,t.root,t.nodes)) (λt=>Fine t l) (λr=>∃t:DTree,r=(t.root,t.nodes)/\Fine t l) ts.length (λm s=>∃(tr:DTree) (p q:DElem->Bool),s=(tr.root,tr.nodes,(m:Int))/\Fine tr (xi p q l)/\(∀x∈l,p x=true↔x.made∈ts.take m)/\∀x∈l,q x=true↔x.gone≠0/\x.gone∈ts.take m) o_ ⟨newT,λ_=>false,λ_=>false,rfl,?_,by simp,by simp⟩ ?_ ?_ ?_
   . have:xi (λ_=>false) (λ_=>false) l=[]:=(by unfold xi;simp);rw[this];exact DM
   . rintro m s hm ⟨tr,p,q,rfl,f,hp,hq⟩;obtain⟨t,ht⟩:∃t,ts[m]? = some t:=⟨_,gge hm⟩
     have c:CutAt l t 0 p q:=⟨λx hx=>(hp x hx).trans (Dj hts ht (hmade x hx)).1,λx hx=>by
      rw[hq x hx,(Dj hts ht (hgone x hx)).1]
      simp⟩
     dsimp only;rw[decide_eq_true (show (m:Int)<(ts.length:Int) by omega),wh,vX,ht,vT,w64 o_ o_];refine Df (F:=F) z_ _ (λr=>∃(tr:DTree) (q:DElem->Bool),r=(tr.root,tr.nodes)/\Fine tr (xi p q l)/\CutAt l t l.length p q) l.length (λk s=>∃(tr:DTree) (q:DElem->Bool),s=(tr.root,tr.nodes,(k:Int))/\Fine tr (xi p q l)/\CutAt l t k p q) o_ ⟨tr,q,rfl,f,c⟩ ?_ ?_ ?_
     . rintro k s hk ⟨tr,q,rfl,f,c⟩;obtain⟨e,he⟩:∃e,l[k]? = some e:=⟨_,gge hk⟩;obtain⟨tr',q',b1,b2,b3⟩:=JD (F:=F) AJ h he c f;dsimp only;rw[decide_eq_true (show (k:Int)<(l.length:Int) by omega),wh,vX,he,vT,b1,vT,w64 o_ o_];exact⟨_,rfl,tr',q',by simp,b3,b2⟩
     . rintro s ⟨tr,q,rfl,f,c⟩;dsimp only;rw[decide_eq_false o_,vY];exact⟨_,rfl,tr,q,rfl,f,c⟩
     . rintro r ⟨tr,q,rfl,f,c⟩
       have c2:PutAt l t 0 p q:=⟨λx hx=>by rw[c.p x hx];simp,λx hx=>by
        rw[c.q x hx,t_];constructor
        . rintro⟨h1,h2⟩;exact⟨h1,by omega⟩
        . rintro⟨h1,h2⟩;rcases Int.lt_or_eq_of_le h2 with h2|h2
          . exact⟨h1,.inl h2⟩
          . exact⟨h1,.inr ⟨h2,hx⟩⟩⟩
       dsimp only;refine Df (F:=F) z_ _ (λr=>∃(tr:DTree) (p:DElem->Bool),r=(tr.root,tr.nodes)/\Fine tr (xi p q l)/\PutAt l t l.length p q) l.length (λk s=>∃(tr:DTree) (p:DElem->Bool),s=(tr.root,tr.nodes,(k:Int))/\Fine tr (xi p q l)/\PutAt l t k p q) o_ ⟨tr,p,rfl,f,c2⟩ ?_ ?_ ?_
       . rintro k s hk ⟨tr,p,rfl,f,c⟩;obtain⟨e,he⟩:∃e,l[k]? = some e:=⟨_,gge hk⟩;obtain⟨tr',p',b1,b2,b3⟩:=Ke (F:=F) AJ h he c f;dsimp only;rw[decide_eq_true (show (k:Int)<(l.length:Int) by omega),wh,vX,he,vT,b1,vT,w64 o_ o_];exact⟨_,rfl,tr',p',by simp,b3,b2⟩
       . rintro s ⟨tr,p,rfl,f,c⟩;dsimp only;rw[decide_eq_false o_,vY];exact⟨_,rfl,tr,p,rfl,f,c⟩
       . rintro r ⟨tr,p,rfl,f,c⟩;refine⟨_,rfl,tr,p,q,by simp,f,λx hx=>?_,λx hx=>?_⟩
         . rw[c.p x hx,(Dj hts ht (hmade x hx)).2,t_];constructor
           . rintro(h1|h1) <;> omega
           . intro h1;rcases Int.lt_or_eq_of_le h1 with h1|h1
             . exact .inl h1
             . exact .inr ⟨h1,hx⟩
         . rw[c.q x hx,(Dj hts ht (hgone x hx)).2]
   . rintro s ⟨tr,p,q,rfl,f,hp,hq⟩;dsimp only;rw[decide_eq_false o_,vY];refine⟨_,rfl,tr,rfl,?_⟩
     rw[J4 (λx hx=>(hp x hx).2 (by rw[t_];exact hmade x hx)) (λx hx hqx=>by
      by_cases h0:x.gone=0
      . exact h0
      . have:=(hq x hx).2 ⟨h0,by rw[t_];exact hgone x hx⟩
        rw[hqx] at this;cases this)] at f
     exact f
   . rintro r ⟨tr,rfl,f⟩;exact⟨tr,rfl,f⟩
end
end
section
variable {F:Nat} [Big F]
theorem K3:Run [⟨⟨0,0,1⟩,1,0,Q_ #[97]⟩]:=xd.1 c_
omit [Big F] in
theorem HN {R:List ByteArray}(h:R.length=201):(((grow 16 ([]:List ByteArray) R).bind λ_=>(grow 24 ([]:List DWrite) ([]:List DWrite)).bind λ_=>some ():Option Unit).bind λ_=>some ():Option Unit)=some ():=by rw[yn (by rw[G_];omega) (by rw[G_];omega),vT,yn c_ c_,vT,vT]
theorem DO {R:List ByteArray}{q:Nat}{t:DTree}{l:List DElem}(K:Kept R q t)(f:Fine t l):j9 F R []=some (R,[],t.root,t.nodes):=IV (Fl K.done) K f
theorem Kept.len {R:List ByteArray}{q:Nat}{t:DTree}(K:Kept R q t):R.length=201:=K.done.ok.len
end
section
variable {F:Nat} [Big F]
def AW (l:List Int):Int:=if 20<l.length then 2 else if l.all λt=>decide (0<=t)&&decide (t<=2147483647) then 0 else 9
theorem GD {l:List Int}:AW l=0↔l.length<=20/\∀t∈l,0<=t/\t<=2147483647:=by
 unfold AW;split
 . constructor
   . intro h;cases h
   . intro h;omega
 . split
   . rename_i h1 h2;rw[Z_] at h2;refine⟨λ_=>⟨by omega,λt ht=>by simpa using h2 t ht⟩,λ_=>rfl⟩
   . rename_i h1 h2;constructor
     . intro h;cases h
     . intro h;exfalso;apply h2;rw[Z_];intro t ht;simpa using h.2 t ht
theorem DR (l:List Int):mU F l=some (AW l):=by
 unfold mU AW;by_cases h:20<l.length
 . rw[if_pos h,decide_eq_true o_,cond_true]
 . rw[if_neg h,decide_eq_false o_,cond_false];rw[Aj l (λt=>if (decide (0<=t)&&decide (t<=2147483647))=true then none else some (f_ 9)) (z_ ()) o_ rfl (λk e hk=>?_) s_]
   . cases hf:l.findSome? λt=>if (decide (0<=t)&&decide (t<=2147483647))=true then none else some (f_ 9:Unit⊕Int) with
     |none =>
      rw[B3] at hf
      rw[if_pos (Z_.2 λt ht=>by
       have:=hf t ht;split at this
       . assumption
       . cases this)];rfl
     |some r =>
      obtain⟨t,ht,hr⟩:=C1 hf;split at hr
      . cases hr
      . rename_i h1;obtain rfl:=x_.inj hr;rw[if_neg (λh2=>h1 (Z_.1 h2 t ht))];rfl
   . have hkl:=(ggs.1 hk).1;rw[decide_eq_true o_,cond_true,vX,hk,obs,w64 o_ o_];by_cases h1:0<=e/\e<=2147483647
     . rw[show (decide (e<0)||decide ((2147483647:Int)<e))=false by rw[Bool.or_eq_false_iff];simp;omega,cond_false,if_pos (by simpa using h1)]
     . rw[show (decide (e<0)||decide ((2147483647:Int)<e))=true by rw[t7];simp;omega,cond_true,if_neg (by simpa using h1)]
def zK (e:DElem)(ts:List Int):Bool:=(e.gone==0)||ts.any λt=>yN e t
theorem DQ (e:DElem)(ts:List Int)(hl:ts.length<=9223372036854775807):mT F e ts=some (zK e ts):=by
 unfold mT zK;by_cases h:e.gone=0
 . rw[beq_iff_eq.2 h];rfl
 . rw[beq_eq_false_iff_ne.2 h,cond_false,Bool.false_or];rw[Aj ts (λt=>if yN e t=true then some (f_ true) else none) (z_ ()) hl rfl (λk x hk=>?_) s_]
   . cases hf:ts.findSome? λt=>if yN e t=true then some (f_ true:Unit⊕Bool) else none with
     |none =>
      rw[B3] at hf
      rw[show (ts.any λt=>yN e t)=false by
       rw[List.any_eq_false];intro t ht hv;have:=hf t ht;rw[if_pos hv] at this;cases this];rfl
     |some r =>
      obtain⟨t,ht,hr⟩:=C1 hf;split at hr
      . rename_i hv;obtain rfl:=x_.inj hr;rw[List.any_eq_true.2 ⟨t,ht,hv⟩];rfl
      . cases hr
   . have hkl:=(ggs.1 hk).1;rw[decide_eq_true o_,cond_true,vX,hk,obs,w64 o_ o_,EV,obs];cases yN e x <;> rfl
def HY (l:List DElem)(ts:List Int):Int:=if Ad l≠0 then Ad l else AW ts
def HZ (l:List DElem)(ts:List Int):List DElem:=if HY l ts=0 then l.filter λe=>zK e ts else []
theorem BC {l:List DElem}{ts:List Int}:HY l ts=0↔Run l/\AW ts=0:=by unfold HY;rw[<-xd];split <;> simp_all
theorem IH {l:List DElem}{ts:List Int}(h:HY l ts=0):Run (HZ l ts):=by unfold HZ;rw[if_pos h];exact(BC.1 h).1.sub v8
end
section
def JL (F:Nat)(t:DTree)(keep:List Int)(n:Int):Option (List DSpot):=(((qc (σ:=(List DSpot)×Int) (ρ:=(List DSpot)×Nat) (λrf2 x=>match x with
    |(x1,x2)=>(idx t.nodes x2).bind λe1=>(iter (σ:=(List DSpot)×Int) (ρ:=((List DSpot))⊕((List DSpot)×Nat)) (λx=>match x with
       |(x3,x4)=>bif decide (x4<(e1.elems.length:Int)) then (idx e1.elems x4).bind λe2=>((bif ((x3.length:Int)==n) then some (x3,(0+1)) else (mT F e2 keep).bind λr4=>bif (!r4) then (jp e2).bind λr5=>(grow 32 x3 [r5]).bind λ_=>some ((x3++[r5]),0) else some (x3,0):Option ((List DSpot)×Nat)).bind λz=>match z with
           |(z6,k4)=>j5 k4 (some (z6,0)) λk5=>some (z6,(k5+1)):Option ((List DSpot)×Nat)).bind λz=>match z with
          |(z5,k3)=>j5 k3 (some (.inl (z5,IntKind.i64.wrap (x4+1)))) λk6=>some (.inr (.inr (z5,(k6+1)))) else some (.inr (.inl x3))) F (x1,0)).bind λz=>match z with
       |.inl z4=>(iter (σ:=(List DSpot)×Int) (ρ:=((List DSpot))⊕((List DSpot)×Nat)) (λx=>match x with
         |(x5,x6)=>bif decide (x6<(e1.kids.length:Int)) then (idx e1.kids x6).bind λe3=>((rf2 (x5,e3)).bind λz=>match z with
             |(z9,z10)=>j5 z10 (some (z9,0)) λk8=>some (z9,(k8+1)):Option ((List DSpot)×Nat)).bind λz=>match z with
            |(z8,k7)=>j5 k7 (some (.inl (z8,IntKind.i64.wrap (x6+1)))) λk9=>some (.inr (.inr (z8,(k9+1)))) else some (.inr (.inl x5))) F (z4,0)).bind λz=>match z with
         |.inl z7=>some (z7,0)
         |.inr q=>some q
       |.inr q=>some q) F ([],t.root)).bind λz=>match z with
    |(z11,z12)=>j5 z12 (some (z11,0)) λk10=>some (z11,(k10+1)):Option ((List DSpot)×Nat)).bind λz=>match z with
   |(z2,k1)=>j5 k1 (some z2) λk11=>some z2:Option ((List DSpot)))
def J1 (F:Nat)(gone:List DSpot)(t:DTree):Option (Int×NL):=(iter (σ:=Int×(List (Int⊕DNode))×Int) (ρ:=Int×(List (Int⊕DNode))) (λx=>match x with
  |(x7,x8,x9)=>bif decide (x9<(gone.length:Int)) then (idx gone x9).bind λe4=>(Gk F e4 x8 x7).bind λz=>match z with
     |(z15,z16)=>some (.inl (z16,z15,IntKind.i64.wrap (x9+1))) else some (.inr (x7,x8))) F (t.root,(t.nodes.map f_),0))
variable {F:Nat} [Big F]
def Fd (keep:List Int)(e:DElem):Bool:=!zK e keep
def yK (keep:List Int)(n:Int)(st:List DSpot)(e:DElem):List DSpot×Nat:=if (st.length:Int)=n then (st,1) else if zK e keep then (st,0) else (st++[vU e],0)
def zf (l:List DElem)(keep:List Int)(n:Nat):List DSpot:=((l.filter (Fd keep)).take n).map vU
theorem Jc (keep:List Int)(n:Nat):∀(l:List DElem) (a:List DSpot),a.length<=n->(wF (yK keep n) l a).1=a++zf l keep (n-a.length):=by
 intro l
 induction l with
 |nil=>intro a _;simp[wF,zf]
 |cons e l ih =>
  intro a ha;rw[wF];by_cases h1:a.length=n
  . have e1:yK keep n a e=(a,1):=by unfold yK;rw[if_pos o_]
    rw[e1,if_neg (show ¬ (1:Nat)=0 by decide),h1,Nat.sub_self];simp[zf]
  . by_cases h2:zK e keep=true
    . have e1:yK keep n a e=(a,0):=(by unfold yK;rw[if_neg o_,if_pos h2]);rw[e1,if_pos rfl,ih a ha];unfold zf;rw[m9 (by unfold Fd;simp[h2])]
    . have e1:yK keep n a e=(a++[vU e],0):=(by unfold yK;rw[if_neg o_,if_neg h2]);rw[e1,if_pos rfl,ih _ (by simp;omega)];unfold zf;rw[m4 (by unfold Fd;simp[h2]),d_,E_,show n-a.length=(n-(a.length+1))+1 by omega,List.take_succ_cons,P_,List.append_assoc];rfl
theorem JM {t:DTree}{h:Nat}(hg:Good t h)(keep:List Int)(hk:keep.length<=9223372036854775807)(n:Nat):JL F t keep (n:Int)=some (zf (vS t.nodes h t.root) keep n):=by
 have hlen:∀(a:List DSpot) (e:DElem),g6 (yK keep n a e).1<=g6 a+1:=λa e=>by
  unfold yK;split
  . show a.length<=_;omega
  . split
    . show a.length<=_;omega
    . simp
 unfold JL;rw[zR (σ:=List DSpot×Int) (λm x=>J9 t.nodes g6 m x) (λm x=>wF (yK keep n) (wj t.nodes m x.2) x.1) ?h0 ?hstep F _ (I4 hg g6 [] rfl)]
 case h0 =>
  rintro⟨x1,x2⟩ ⟨⟨h,d,s,hm,_⟩,_⟩;omega
 case hstep =>
  rintro m self ih ⟨x1,x2⟩ hpre;obtain⟨⟨h0,h1⟩,hkids⟩:=hpre.1.kids hg.chk;dsimp only at h0 h1 hkids ⊢;have hmem:=xL h0 h1;obtain⟨h8,h8'⟩:=yk (hg.chk _ hmem);rw[AG h0 h1,obs];rw[Bc (yK keep n) (nd t.nodes x2).elems (λ(st:List DSpot) k=>(st,k)) z_ (λst n=>f_ (st,n+1)) x1 o_ rfl ?hs ?he]
  case hs =>
   intro k e y hk' hr;have hkl:=(ggs.1 hk').1;have hyl:=Hw hpre hlen hk' hr;dsimp only;rw[decide_eq_true o_,cond_true,vX,hk',obs,w64 o_ o_];unfold yK;by_cases hn:(y.length:Int)=n
   . rw[if_pos hn,show ((y.length:Int)==(n:Int))=true by rw[beq_iff_eq];exact hn,cond_true];rfl
   . rw[if_neg hn,show ((y.length:Int)==(n:Int))=false by rw[beq_eq_false_iff_ne];exact hn,cond_false,DQ e keep hk,obs]
     cases zK e keep with
     |true=>rfl
     |false=>rw[Bool.not_false,cond_true,wg,obs,wq (by simp;omega) (by simp;omega),obs];rfl
  case he =>
   intro y hr;dsimp only;rw[decide_eq_false o_];rfl
  rw[obs,wj]
  cases hb:wF (yK keep n) (nd t.nodes x2).elems x1 with
  |mk b c =>
   rw[xY,hb]
   cases c with
   |succ c=>rfl
   |zero =>
    dsimp only[j5];rw[if_pos rfl];rw[Bc (λst k=>wF (yK keep n) (wj t.nodes m k) st) (nd t.nodes x2).kids (λ(st:List DSpot) k=>(st,k)) z_ (λst n=>f_ (st,n+1)) b o_ rfl ?hs2 ?he2]
    case hs2 =>
     intro k e y hk2 hr;have hkl:=(ggs.1 hk2).1;dsimp only;rw[decide_eq_true o_,cond_true,vX,hk2,obs,ih (y,e) (Ka hg.chk hpre hlen hb hk2 hr),obs,w64 o_ o_];dsimp only
     cases hc:wF (yK keep n) (wj t.nodes m e) y with
     |mk y c=>cases c <;> rfl
    case he2 =>
     intro y hr;dsimp only;rw[decide_eq_false o_];rfl
    rw[obs,yi]
    cases hc:wF (yK keep n) ((nd t.nodes x2).kids.flatMap (wj t.nodes m)) b with
    |mk y c=>cases c <;> rfl
 rw[obs];dsimp only;rw[Cw hg];have hrun:=Jc keep n (vS t.nodes h t.root) [] (D_ _);rw[q_,G_,Nat.sub_zero] at hrun
 cases hc:wF (yK keep n) (vS t.nodes h t.root) [] with
 |mk y c=>rw[hc] at hrun;rw[<-hrun];cases c <;> rfl
def Bn (g:List DSpot)(e:DElem):Bool:=!(decide (vU e∈g))
theorem Hd (A:List DSpot)(b:DSpot)(x:DElem):Bn (A++[b]) x=(yx b x&&Bn A x):=by unfold Bn yx;rw[V_];simp[not_or,and_comm]
theorem Hs {t:DTree}{h:Nat}(hg:Good t h)(g:List DSpot)(hl:g.length<=100000):∃(root:Int) (N:NL),J1 F g t=some (root,N)/\qY N=some (fN N)/\∃h',Good ⟨root,fN N⟩ h'/\vS (fN N) h' root=(vS t.nodes h t.root).filter (Bn g):=by
 have hF:=(inferInstance:Big F).le;unfold J1
 generalize hf:(λx:Int×(List (Int⊕DNode))×Int=>match x with
  |(x7,x8,x9) =>
   bif decide (x9<(g.length:Int)) then
    (idx g x9).bind λe4 =>
    (Gk F e4 x8 x7).bind λz=>match z with
     |(z15,z16) =>
      (some (.inl (z16,z15,IntKind.i64.wrap (x9+1))):Option ((Int×(List (Int⊕DNode))×Int)⊕(Int×(List (Int⊕DNode)))))
    else
     some (.inr (x7,x8)))=f
 have key:∀(k:Nat),k<=g.length->∃(t':DTree) (h':Nat),(∀n:Nat,iter f (n+k) (t.root,nlT t,0)=iter f n (t'.root,nlT t',(k:Int)))/\Good t' h'/\vS t'.nodes h' t'.root=(vS t.nodes h t.root).filter (Bn (g.take k)):=by
  intro k
  induction k with
  |zero=>intro _;refine⟨t,h,λn=>rfl,hg,?_⟩;exact(B2.2 λx _=>by unfold Bn;simp).symm
  |succ k ih =>
   intro hk;obtain⟨t1,h1,i1,i2,i3⟩:=ih o_;obtain⟨root,N,o1,o2,h2,o3,o4⟩:=EC (F:=F) (sp:=g[k]'o_) i2;have hgk:g[k]? = some (g[k]'o_):=gge o_;have hN:nlT ⟨root,fN N⟩=N:=(by have:=lE o2;unfold nlT;exact this.symm);refine⟨⟨root,fN N⟩,h2,λn=>?_,o3,?_⟩
   . rw[show n+(k+1)=(n+1)+k by omega,i1,iter];have hstep:f (t1.root,nlT t1,(k:Int))=some (.inl (root,N,((k+1:Nat):Int))):=(by rw[<-hf];dsimp only;rw[decide_eq_true o_,cond_true,vX,hgk,obs,o1,obs];dsimp only;rw[w64 o_ o_];rfl);rw[hstep,hN]
   . show vS (fN N) h2 root=_;rw[o4,i3,List.filter_filter,O_,hgk];congr 1;funext x;rw[Option.toList_some,Hd]
 obtain⟨t',h',i1,i2,i3⟩:=key g.length (l_ _);rw[t_] at i3;refine⟨t'.root,nlT t',?_,?_,h',?_,?_⟩
 . show iter f F (t.root,nlT t,0)=_;rw[show F=((F-g.length-1)+1)+g.length by omega,i1,iter];have hend:f (t'.root,nlT t',(g.length:Int))=some (.inr (t'.root,nlT t')):=by rw[<-hf];dsimp only;rw[decide_eq_false o_,cond_false]
   rw[hend]
 . rw[wU];exact vo _
 . rw[wU];exact i2
 . rw[wU];exact i3
omit [Big F] in
theorem Ea (t:DTree)(keep:List Int)(n:Int):nt F t keep n=(lz F t).bind λr1=>bif (r1 !=0) then some ((DTree.mk 0 []),0,r1) else (mU F keep).bind λr2=>bif (r2 !=0) then some ((DTree.mk 0 []),0,r2) else
 bif decide (n<0) then some ((DTree.mk 0 []),0,1) else (JL F t keep n).bind λz1=>(mz F t).bind λr6=>(J1 F z1 r6).bind λz=>match z with|(z13,z14)=>(qY z14).bind λl2=>some ((DTree.mk z13 l2),(z1.length:Int),0)
:=by
 unfold nt;simp only[Jl];rfl
theorem Hu {t:DTree}{h:Nat}(hg:Good t h):lz F t=some (Ad (vS t.nodes h t.root)):=by unfold lz;rw[yB (zO hg) hg,obs];dsimp only;rw[show ((0:Int) !=0)=false from rfl,cond_false,yW];rfl
theorem C9 {t:DTree}{h:Nat}(hg:Good t h)(hr:Ad (vS t.nodes h t.root)=0){keep:List Int}(hk:AW keep=0)(n:Nat) :
 ∃t' h',nt F t keep (n:Int)=some (t',((zf (vS t.nodes h t.root) keep n).length:Int),0)/\Good t' h'/\vS t'.nodes h' t'.root=(vS t.nodes h t.root).filter (Bn (zf (vS t.nodes h t.root) keep n)):=by
 have hkl:=(GD.1 hk).1;have hsm:=zg hg;have hgl:(zf (vS t.nodes h t.root) keep n).length<=100000:=by unfold zf;rw[j_,H_];have:=J_ (Fd keep) (vS t.nodes h t.root);omega
 obtain⟨root,N,o1,o2,h',o3,o4⟩:=Hs (F:=F) hg _ hgl;refine⟨⟨root,fN N⟩,h',?_,o3,o4⟩;rw[Ea,Hu hg,obs,hr,wt rfl,cond_false,DR,obs,hk,wt rfl,cond_false,decide_eq_false o_,cond_false,JM hg keep o_,obs,yl hg.len hg.chk,obs,o1,obs];dsimp only;rw[o2,obs]
end
section
theorem IP {l:List DElem}(ho:l.Pairwise SpO){keep:List Int}{n:Nat}{e:DElem}(he:e∈l):vU e∈zf l keep n↔e∈(l.filter (Fd keep)).take n:=by
 unfold zf;rw[I_];constructor
 . rintro⟨y,hy,hs⟩;have hyl:y∈l:=(g_.1 (List.mem_of_mem_take hy)).1;rw[<-Km ho hyl he hs];exact hy
 . intro h;exact⟨e,h,rfl⟩
theorem JN {l:List DElem}(ho:l.Pairwise SpO){keep:List Int}{n:Nat}(hn:l.length<=n):l.filter (Bn (zf l keep n))=l.filter (λe=>zK e keep):=by
 refine List.filter_congr λe he=>?_;have ht:(l.filter (Fd keep)).take n=l.filter (Fd keep):=n9 (W_ (J_ _ _) hn);have h1:Bn (zf l keep n) e=true↔vU e∉zf l keep n:=by unfold Bn;simp
 have h2:Fd keep e=true↔zK e keep=false:=by unfold Fd;simp
 rw[V_,h1,IP ho he,ht,g_,h2];cases zK e keep <;> simp[he]
variable {F:Nat} [Big F]
theorem GA {t:DTree}{l:List DElem}(f:Fine t l){keep:List Int}(hk:AW keep=0):∃t1 h1 m,nt F (DTree.mk t.root t.nodes) keep 400=some (t1,m,0)/\Good t1 h1/\vS t1.nodes h1 t1.root=HZ l keep:=by obtain⟨h,g,rfl⟩:=f.good;obtain⟨t1,h1,a1,a2,a3⟩:=C9 (F:=F) g (xd.2 f.run) hk 400;rw[JN (Ba g) f.run.len] at a3;refine⟨t1,h1,_,a1,a2,?_⟩;rw[a3,HZ,if_pos (BC.2 ⟨f.run,hk⟩)]
theorem HA (P:List ByteArray)(W:List DWrite){t:DTree}{l:List DElem}(f:Fine t l):∃t' l' c,ld F P W t.root t.nodes=some (t'.root,t'.nodes,c)/\Fine t' l':=by obtain⟨t1,h1,m,a1,a2,a3⟩:=GA (F:=F) f (keep:=[]) c_;obtain⟨t',b1,b2⟩:=Bt (F:=F) P W (t:=t) a2 (by rw[a3];exact IH (BC.2 ⟨f.run,by decide⟩));unfold ld;rw[a1,vT];dsimp only;rw[b1,vT];exact⟨t',_,0,rfl,b2⟩
end
section
open Go.ChangeShapes
theorem zA (F:Nat)[Big F](l:List DElem)(k:DKey)(v:ByteArray)(k0:Hm 56 okElem l)(k1:okKey k)(k2:LM v)(k2_:v.size<=reachBytes):mg F l k v=some true:=by
 unfold mg;rw[Li,vT];obtain⟨t1,a1,f1⟩:=CR (F:=F) K3;rw[a1,vT];dsimp only;rw[show j6 F (DTree.mk t1.root t1.nodes)=_ from f1.all,vT,vT];dsimp only;rw[show ((([⟨⟨0,0,1⟩,1,0,Q_ #[97]⟩]:List DElem).length:Int) !=1)=false from rfl,vY,HN Cj.len,vT,q_,q_,DO Cj DM,vT];dsimp only;rw[show j6 F (DTree.mk newT.root newT.nodes)=_ from DM.all,vT,vT];dsimp only;rw[show ((([]:List DElem).length:Int) !=0)=false from rfl,vY,yW,vT];by_cases hr:Ad l=0
 . have hR:=xd.1 hr;have hlen:=hR.len;obtain⟨t,c1,f⟩:=CR (F:=F) hR;have fl:=GY (F:=F) Cj f o_;have kn:=Cj.next f o_;have h201:=kn.len;rw[wt hr,vY,c1,vT];dsimp only;rw[fl,vT];dsimp only;rw[show ((0:Int) !=0)=false from rfl,vY,HN h201,vT,Gt,vT,hr];dsimp only;rw[show ((0:Int) !=0)=false from rfl,vY];obtain⟨t',l',c,d1,f'⟩:=Jb (F:=F) (P4 0 AJ (wV t) (Av AJ t.nodes)) [] f k v (if (2147483647:Int)<(IntKind.i64.wrap ((if (0:Int)=0 then xj l else 0)+1)) then 2147483647 else IntKind.i64.wrap ((if (0:Int)=0 then xj l else 0)+1));obtain⟨t'',l'',c',d2,f''⟩:=HA (F:=F) (P4 0 AJ (wV t) (Av AJ t.nodes)) [] f';rw[d1,vT];dsimp only;rw[d2,vT,vT,q_,q_,DO kn f,vT,vT];dsimp only;rw[FG _ _ (by dsimp only;omega) s_ (by dsimp only;omega) s_,vT,decide_eq_true rfl,wh,show j6 F (DTree.mk t.root t.nodes)=_ from f.all,vT,vT];dsimp only;rw[F0 l o_,vT,vT]
 . rw[wK hr,wh]
end
section
open Go.RowKit
theorem Kc:ownKnob Tryz.prog.godebug=none:=by kernel_rfl
theorem I6:laidOutB Tryz.prog=true:=by kernel_rfl
theorem LO:yC Tryz.prog 24 vR okKey:=IW Tryz.underlying24 (by kernel_rfl) rfl (by kernel_rfl) (zY Tryz.underlying3) rfl (by kernel_rfl) (zY Tryz.underlying3) rfl (by kernel_rfl) (zY Tryz.underlying3)
theorem LV:yC Tryz.prog 28 eElem okElem:=Ho Tryz.underlying28 (by kernel_rfl) rfl (by kernel_rfl) LO rfl (by kernel_rfl) (zY Tryz.underlying3) rfl (by kernel_rfl) (zY Tryz.underlying3) rfl (by kernel_rfl) (IX Tryz.underlying9)
theorem LU:yC Tryz.prog 22 (ku eElem) (Hm 56 okElem):=Hq Tryz.underlying22 (by kernel_rfl) (by kernel_rfl) LV
set_option maxRecDepth 100000
def orderSigns:List Char:=[.ofNat 104,.ofNat 97,.ofNat 114,.ofNat 110,.ofNat 101,.ofNat 115,.ofNat 115,.ofNat 32,.ofNat 56,.ofNat 55,.ofNat 52,.ofNat 53,.ofNat 49,.ofNat 51,.ofNat 54,.ofNat 50,.ofNat 97,.ofNat 100,.ofNat 55,.ofNat 101,.ofNat 102,.ofNat 56,.ofNat 99,.ofNat 51,.ofNat 57,.ofNat 50,.ofNat 101,.ofNat 100,.ofNat 53,.ofNat 57,.ofNat 100,.ofNat 54,.ofNat 50,.ofNat 56,.ofNat 55,.ofNat 102,.ofNat 97,.ofNat 48,.ofNat 49,.ofNat 55,.ofNat 100,.ofNat 102,.ofNat 53,.ofNat 50,.ofNat 56,.ofNat 56,.ofNat 54,.ofNat 101,.ofNat 50,.ofNat 56,.ofNat 52,.ofNat 100,.ofNat 51,.ofNat 48,.ofNat 101,.ofNat 53,.ofNat 49,.ofNat 53,.ofNat 50,.ofNat 99,.ofNat 98,.ofNat 54,.ofNat 97,.ofNat 57,.ofNat 100,.ofNat 51,.ofNat 50,.ofNat 100,.ofNat 48,.ofNat 99,.ofNat 97,.ofNat 53,.ofNat 32,.ofNat 99,.ofNat 117,.ofNat 116,.ofNat 32,.ofNat 97,.ofNat 116,.ofNat 32,.ofNat 97,.ofNat 110,.ofNat 110,.ofNat 97,.ofNat 108,.ofNat 105,.ofNat 115,.ofNat 116,.ofNat 47,.ofNat 97,.ofNat 110,.ofNat 110,.ofNat 97,.ofNat 108,.ofNat 107,.ofNat 101,.ofNat 101,.ofNat 112,.ofNat 46,.ofNat 83,.ofNat 116,.ofNat 111,.ofNat 114,.ofNat 101,.ofNat 79,.ofNat 119,.ofNat 110,.ofNat 32,.ofNat 97,.ofNat 110,.ofNat 110,.ofNat 97,.ofNat 108,.ofNat 105,.ofNat 115,.ofNat 116,.ofNat 47,.ofNat 97,.ofNat 110,.ofNat 110,.ofNat 97,.ofNat 108,.ofNat 107,.ofNat 101,.ofNat 101,.ofNat 112,.ofNat 46,.ofNat 83,.ofNat 116,.ofNat 111,.ofNat 114,.ofNat 101,.ofNat 83,.ofNat 116,.ofNat 101,.ofNat 112,.ofNat 115,.ofNat 32,.ofNat 97,.ofNat 110,.ofNat 110,.ofNat 97,.ofNat 108,.ofNat 105,.ofNat 115,.ofNat 116,.ofNat 47,.ofNat 97,.ofNat 110,.ofNat 110,.ofNat 97,.ofNat 108,.ofNat 107,.ofNat 101,.ofNat 101,.ofNat 112,.ofNat 46,.ofNat 83,.ofNat 116,.ofNat 111,.ofNat 114,.ofNat 101,.ofNat 72,.ofNat 111,.ofNat 108,.ofNat 100,.ofNat 115,.ofNat 32,.ofNat 97,.ofNat 110,.ofNat 110,.ofNat 97,.ofNat 108,.ofNat 105,.ofNat 115,.ofNat 116,.ofNat 47,.ofNat 97,.ofNat 110,.ofNat 110,.ofNat 97,.ofNat 108,.ofNat 107,.ofNat 101,.ofNat 101,.ofNat 112,.ofNat 46,.ofNat 83,.ofNat 116,.ofNat 111,.ofNat 114,.ofNat 101,.ofNat 76,.ofNat 97,.ofNat 122,.ofNat 121,.ofNat 32,.ofNat 97,.ofNat 110,.ofNat 110,.ofNat 97,.ofNat 108,.ofNat 105,.ofNat 115,.ofNat 116,.ofNat 47,.ofNat 97,.ofNat 110,.ofNat 110,.ofNat 97,.ofNat 108,.ofNat 107,.ofNat 101,.ofNat 101,.ofNat 112,.ofNat 46,.ofNat 83,.ofNat 116,.ofNat 111,.ofNat 114,.ofNat 101,.ofNat 65,.ofNat 103,.ofNat 97,.ofNat 105,.ofNat 110]
theorem Hr:Tryz.prog.initOrder = "harness 87451362ad7ef8c392ed59d6287fa017df52886e284d30e5152cb6a9d32d0ca5 cut at annalist/annalkeep.StoreOwn annalist/annalkeep.StoreSteps annalist/annalkeep.StoreHolds annalist/annalkeep.StoreLazy annalist/annalkeep.StoreAgain":=by kernel_rfl
theorem Gj:("harness 87451362ad7ef8c392ed59d6287fa017df52886e284d30e5152cb6a9d32d0ca5 cut at annalist/annalkeep.StoreOwn annalist/annalkeep.StoreSteps annalist/annalkeep.StoreHolds annalist/annalkeep.StoreLazy annalist/annalkeep.StoreAgain" : String)=String.ofList orderSigns:=by kernel_rfl
theorem BJ:Tryz.prog.initOrder.toList=orderSigns:=by rw[Hr,Gj];exact String.toList_ofList
theorem KQ (P:Program)(h:P.initOrder.toList=orderSigns):P.make=some .cut:=by unfold Program.make Program.headLifts;rw[h];kernel_rfl
theorem JX (P:Program)(h:P.initOrder.toList=orderSigns):P.liftsFinal=false:=by unfold Program.liftsFinal Program.headLifts;rw[h];kernel_rfl
theorem JE (P:Program)(h:P.initOrder.toList=orderSigns)(h1:P.laysLater=false)(h2:P.bearsReflect=false)(h3:P.doorFits []=true):P.mayEnter=true:=by
 unfold Program.mayEnter
 rw[h,h1,h2]
 have e:(stripLifts liftWords (behindMainWord (wordsSigns orderSigns))).1=[]:=by kernel_rfl
 have e0:behindMainWord (wordsSigns orderSigns) = "cut".toList::(behindMainWord (wordsSigns orderSigns)).tail:=by kernel_rfl
 rw[e0] at e ⊢
 dsimp only
 rw[e,h3]
 clear h h1 h2 h3
 change _=true
 kernel_rfl
theorem I7:Tryz.prog.make=some .cut:=KQ _ BJ
theorem Hy:Tryz.prog.liftsFinal=false:=JX _ BJ
theorem Hx:Tryz.prog.mayEnter=true:=JE _ BJ (by kernel_rfl) (by kernel_rfl) (by kernel_rfl)
end
end
end Go.Proofs.YtnofgfobljadbaaGreat
