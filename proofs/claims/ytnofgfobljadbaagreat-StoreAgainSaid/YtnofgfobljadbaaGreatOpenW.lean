/- Plain Lean: what the editors' contracts compute is what the plain laws speak of. Its conditions: none. -/
import Derived.Test.YtnofgfobljadbaaGreatPRemW
open Option renaming bind→a_, bind_assoc→j_, some→x_, map_eq_some_iff→t7
open List renaming length_append→d_, mem_filter→g_, nil_append→i_, length_map→l_, flatMap_cons→q_, take_length→t_, mem_cons_self→u_, mem_append→v_, mem_of_getElem?→y_, mem_singleton→B_, length_take→C_, length_filter_le→F_, length_singleton→G_, length_cons→H_, length_nil→I_, mem_map→J_, mem_cons_of_mem→K_, flatMap_append→L_, take_append_drop→M_, length_set→N_, take_add_one→O_, map_cons→P_, pairwise_map→S_, length_flatMap→T_, flatMap_singleton→V_, length_replicate→Y_, getElem_of_mem→Z_, all_eq_true→g6, length→g8, set_set→g9, getElem_mem→l7, pairwise_append→l9, pairwise_cons→m0, filter_cons_of_pos→m4, filter_cons_of_neg→m9, take_of_length_le→n9, drop_eq_getElem_cons→o5, mem_iff_getElem?→o6, find?_cons→o7, length_drop→o8, replicate→p6, pairwise_iff_getElem→p8, length_filter_lt_length_iff_exists→v6, filter_sublist→v7, mem_of_mem_drop→v8, mem_take_iff_getElem→w6, mem_zipIdx_iff_getElem?→w7, filter_eq_self→B1, findSome?_eq_none_iff→B2, exists_of_findSome?_eq_some→B3
open Sum renaming inr→f_, inl→z_
open Nat renaming le_refl→p_, zero_le→E_, le_trans→X_, lt_or_ge→p7
open Int renaming le_refl→D_, toNat_natCast→U_
open Bool renaming not_true→Q_, eq_iff_iff→W_, or_eq_true→t6
open ByteArray renaming mk→R_
namespace Go.Proofs.YtnofgfobljadbaaGreat
set_option linter.unusedSimpArgs false
set_option linter.unusedVariables false
section
section
variable {F:Nat}
theorem ES {α:Type}(x:Option α):(x.bind λz=>some z)=x:=by cases x <;> rfl
theorem Ej (root:Int)(N:NL)(i:Int)(e:DElem):j7 F root N i e=qc (Az F e) F (N,i):=ES _
theorem Iv (root:Int)(N:NL)(i:Int)(e:DElem):kW F root N i e=qc (BD F e) F (N,i):=by refine Eq.trans ?_ (ES (qc (BD F e) F (N,i)));refine congrArg (λg=>(qc g F (N,i)).bind λz=>some z) (funext λrf=>funext λx=>?_);rfl
theorem La (root:Int)(N:NL)(e:DElem):lw F root N e=GD F e N root:=by unfold lw GD;rw[Iv];rfl
theorem BK (N:NL)(i:Int):(ja N i).length=N.length:=N_
theorem KS {N:NL}{a b:Int}{x y:DNode}(h:a.toNat≠b.toNat):jA (jA (ja (ja N a) b) a x) b y=jA (jA (ja N a) a x) b y:=by unfold jA;rw[show ja (ja N a) b=(ja N a).set b.toNat (.inl ((((ja N a)[b.toNat]?).map tD).getD 0)) from rfl,List.set_comm _ _ (Ne.symm h),g9]
theorem HJ {N M:NL}{i:Int}(h:N.length=M.length):ll N i=ll M i:=by unfold ll;rw[h]
theorem Lv {N:NL}{a b:Int}{n:DNode}(h:kI (ja N a) b=some n):a.toNat≠b.toNat:=λe=>by
 obtain⟨_,h2⟩:=nU h;rw[<-e] at h2;have hl:a.toNat<N.length:=by have:=(ggs.1 h2).1;rwa[BK] at this
 unfold ja at h2;rw[List.getElem?_set_self hl] at h2;cases h2
theorem KI (n m:DNode)(s:DSpot):mL n.kind n.elems n.kids n.seps n.tids m.kind m.elems m.kids m.seps m.tids s=F7 n m s:=rfl
theorem KB (root:Int)(n:DNode)(r10 r11:Int)(N:NL):kX F root N n.kind n.elems n.kids n.seps (n.tids.set r10.toNat r11) r10=(DA F n r10 r11 N).bind λz=>some (z.2.2.2,z.1,z.2.1,z.2.2.1):=by
 unfold kX DA;rw[j_];refine congrArg (a_ _) (funext λz=>?_);rw[j_];refine congrArg (a_ _) (funext λa=>?_);rw[j_];refine congrArg (a_ _) (funext λb=>?_);rw[j_]
 cases h1:kI N a with
 |none=>rfl
 |some n1 =>
 rw[obs,obs,j_]
 cases h2:kI (ja N a) b with
 |none=>rfl
 |some n2 =>
 have hne:=Lv h2;rw[obs,obs,j_];refine congrArg (a_ _) (funext λx=>?_);rw[j_,KI];refine congrArg (a_ _) (funext λX=>?_);rw[j_];have hh:∀q,ll (ja (ja N a) b) q=ll (ja N a) q:=λq=>HJ (BK _ _);have hp:∀q y,ll (jA (ja (ja N a) b) a y) q=ll (jA (ja N a) a y) q:=λq y=>HJ (by rw[vZ,vZ,BK]);simp only[hh,hp,KS hne];refine Eq.trans (b:=(JV F n r10 r11 N z a b n1 n2 X).bind λz'=>(kI z'.2.2.2 a).bind λn7=>(jw F n7).bind λr24=>(idx z'.2.2.1 z).bind λ_=>some (z'.2.2.2,z'.1,z'.2.1,z'.2.2.1.set z.toNat r24)) rfl ?_;refine congrArg (a_ _) (funext λq=>?_);obtain⟨q1,q2,q3,q4⟩:=q;dsimp only;rw[j_];refine congrArg (a_ _) (funext λn7=>?_);rw[j_];refine congrArg (a_ _) (funext λg=>?_);rw[j_];rfl
set_option maxHeartbeats 4000000 in
theorem IY (root:Int)(N:NL)(i:Int)(s:DSpot):kK F root N i s=qc (Dd F s) F (N,i):=by
 refine Eq.trans ?_ (ES (qc (Dd F s) F (N,i)));refine congrArg (λg=>(qc g F (N,i)).bind λz=>some z) (funext λrf=>funext λx=>?_);obtain⟨x1,x2⟩:=x;show a_ (kI x1 x2) _=a_ (kI x1 x2) _
 cases kI x1 x2 with
 |none=>rfl
 |some n =>
 rw[obs,obs];refine congr (congrArg (λa b=>bif n.kind==1 then a else b) ?_) ?_
 . exact congrArg (λq=>a_ q _) (show _=Kx F n.elems s from rfl)
 . refine congrArg (a_ _) (funext λw=>?_);refine congrArg (a_ _) (funext λk=>?_);refine congrArg (a_ _) (funext λN2=>?_);refine congrArg (a_ _) (funext λk2=>?_);refine congrArg (a_ _) (funext λn4=>?_);refine congrArg (a_ _) (funext λg=>?_);refine congrArg (a_ _) (funext λt=>?_);refine congrFun (congrArg a_ ?_) _;unfold KT
   cases decide ((IntKind.i64.wrap ((n4.elems.length:Int)+(n4.kids.length:Int)))<4) with
   |false=>rfl
   |true=>rw[cond_true,cond_true,KB,j_];refine congrArg (a_ _) (funext λq=>?_);obtain⟨q1,q2,q3,q4⟩:=q;rfl
theorem Jd (root:Int)(N:NL)(s:DSpot):lZ F root N s=Gl F s N root:=by unfold lZ Gl;rw[IY]
end
section
variable {F:Nat} [Big F]
theorem Ff {n:DNode}(h:wr n=0):pH n=some n:=by
 obtain⟨h1,h2⟩:=yk h
 have h3:n.seps.length<=8/\n.tids.length<=8:=by
  rcases wx.1 h with h|h|h
  . rw[h.2.2.2.1,h.2.2.2.2];simp
  . rw[h.2.seps,h.2.tids];simp
  . have:=h.2.seps;have:=h.2.tids;omega
 unfold pH;rw[wq (by simp;omega) (by simp;omega),obs,wq (by simp;omega) (by simp;omega),obs,wq (by simp;omega) (by simp;omega),obs,wq (by simp;omega) (by simp;omega),obs];rfl
theorem Df {N:NL}(h:∀(j:Nat) (k:Int),N[j]?≠some (.inl k)):qY N=some (fN N):=by
 have e:N=(fN N).map f_:=List.ext_getElem? λj=>by
  rw[List.getElem?_map,AB]
  cases hj:N[j]? with
  |none=>rfl
  |some x =>
   cases x with
   |inl k=>exact absurd hj (h j k)
   |inr n=>rfl
 conv=>lhs;rw[e]
 exact vo _
theorem yV {t:DTree}(hl:t.nodes.length<=400)(hc:∀n∈t.nodes,wr n=0):mz F t=some t:=by
 unfold mz;rw[wB (λk=>((t.nodes.take k).map (f_:DNode->Int⊕DNode),(k:Int))) t.nodes.length s_ o_ (λk hk=>?_) (r:=t.nodes.map f_) ?_,obs,vo,obs]
 . dsimp only;rw[decide_eq_false o_,cond_false,t_]
 . have hg:t.nodes[k]? = some t.nodes[k]:=gge hk;have hr:tE 104 (((t.nodes.take k).map (f_:DNode->Int⊕DNode)).length+1)=some ():=by unfold tE;rw[l_,C_,if_pos ⟨by omega,by unfold maxLen;omega⟩]
   dsimp only;rw[decide_eq_true o_,cond_true,vX,hg,obs,Ff (hc _ (l7 _)),obs,hr,obs,w64 o_ o_,O_,hg,List.map_append];rfl
def nlT (t:DTree):NL:=t.nodes.map f_
theorem wT (t:DTree):fN (nlT t)=t.nodes:=Lh _
theorem CH {t:DTree}{j:Nat}{x:Int⊕DNode}(h:(nlT t)[j]? = some x):∃n,t.nodes[j]? = some n/\x=.inr n:=by unfold nlT at h;rw[List.getElem?_map] at h;obtain⟨n,hn,rfl⟩:=t7.1 h;exact⟨n,hn,rfl⟩
theorem DE {t:DTree}{h:Nat}(g:Good t h):xr (nlT t):=λn hn=>by rw[wT] at hn;exact g.chk n hn
theorem AE {t:DTree}{h:Nat}(g:Good t h):wo (fN (nlT t)) h t.root (mOf 0 h) topS:=by rw[wT];exact(Dl g.chk h t.root 0 topS (D_ _)).1 g.ok
theorem FZ {α:Type}{p:α->Bool}:∀ {N:List α} {K:List Nat},K.Nodup->(∀(j:Nat) (x:α),N[j]? = some x->p x=true->j∈K)->N.countP p<=K.length
 |[],K,_,_=>E_ _
 |a::N,K,hn,h=>by
  have hK:∀(j:Nat) (x:α),N[j]? = some x->p x=true->j∈(K.filter (λj=>j !=0)).map (· - 1):=λj x hx hp =>
   J_.2 ⟨j+1,g_.2 ⟨h (j+1) x (by simpa using hx) hp,by simp⟩,by simp⟩
  have hnd:((K.filter (λj=>j !=0)).map (· - 1)).Nodup:=by unfold List.Nodup;rw[S_];refine((hn.filter _).imp_of_mem λ{a b} ha hb hab e=>hab ?_);have h1:=(g_.1 ha).2;have h2:=(g_.1 hb).2;simp only[bne_iff_ne,ne_eq] at h1 h2;omega
  have ih:=FZ hnd hK;rw[l_] at ih;rw[List.countP_cons];by_cases hp:p a=true
  . have h0:0∈K:=h 0 a rfl hp;have hlt:(K.filter (λj=>j !=0)).length<K.length:=v6.2 ⟨0,h0,by simp⟩;rw[if_pos hp];omega
  . have:=F_ (λj=>j !=0) K;rw[if_neg hp];omega
theorem Il {t:DTree}{h:Nat}(g:Good t h):used (nlT t)<=(ids t.nodes h t.root).length:=by refine FZ g.nodup λj x hx hp=>?_;obtain⟨n,hn,rfl⟩:=CH hx;have hlt:=(ggs.1 hn).1;exact g.all j hlt (by rw[Cl hn];exact yz.1 hp)
theorem KD {ns:List DNode}(hns:∀n∈ns,wr n=0):∀ {h:Nat} {i:Int} {s:Span},wo ns h i 4 s->3*(ids ns h i).length+1<=(vS ns h i).length:=by
 intro h
 induction h with
 |zero=>intro i s c;have:=c.2.2.1;simp only[ids,vS,G_];omega
 |succ h ih =>
  intro i s c;rw[ids,vS,H_,T_,T_]
  have key:∀l:List Int,(∀k∈l,3*(ids ns h k).length+1<=(vS ns h k).length)->3*(l.map λa=>(ids ns h a).length).sum+l.length<=(l.map λa=>(vS ns h a).length).sum:=by
   intro l
   induction l with
   |nil=>intro _;simp
   |cons a l ihl=>intro hk;have:=ihl λk h=>hk k (K_ _ h);have:=hk a u_;simp only[P_,List.sum_cons,H_];omega
  have:=key (nd ns i).kids λk hk=>by obtain⟨t,s',x,_⟩:=c.2.2.2.mem k hk;exact ih x.1
  have:=c.2.2.1;omega
theorem JG {t:DTree}{h:Nat}(g:Good t h)(hl:(vS t.nodes h t.root).length<=400):(ids t.nodes h t.root).length<=134/\h<134:=by
 have hh:=BA g.chk h t.root 0 topS g.ok;have c:=AE g;rw[wT] at c
 have:(ids t.nodes h t.root).length<=134:=by
  cases h with
  |zero=>simp[ids]
  |succ h =>
   have key:∀l:List Int,(∀k∈l,3*(ids t.nodes h k).length+1<=(vS t.nodes h k).length)->3*(l.map λa=>(ids t.nodes h a).length).sum+l.length<=(l.map λa=>(vS t.nodes h a).length).sum:=by
    intro l
    induction l with
    |nil=>intro _;simp
    |cons a l ihl=>intro hk;have:=ihl λk h=>hk k (K_ _ h);have:=hk a u_;simp only[P_,List.sum_cons,H_];omega
   have h1:=key (nd t.nodes t.root).kids λk hk=>by obtain⟨t',s',x,_⟩:=c.2.2.2.mem k hk;exact KD g.chk x.1
   have h2:2<=(nd t.nodes t.root).kids.length:=(by have:=c.2.2.1;unfold mOf at this;simpa using this);rw[vS,T_] at hl;rw[ids,H_,T_];omega
 omega
theorem Di {N:NL}{h:Nat}{root:Int}(hc:xr N)(hl:N.length<=400)(c:wo (fN N) h root (mOf 0 h) topS)(hn:(ids (fN N) h root).Nodup)(hall:∀(j:Nat) (x:Int⊕DNode),N[j]? = some x->tD x≠0->j∈ids (fN N) h root):Good ⟨root,fN N⟩ h:=by
 refine⟨by show (fN N).length<=400;rw[wd];exact hl,hc,(Dl hc h root 0 topS (D_ _)).2 c,hn,λi hi hk=>?_⟩;have hi':i<(fN N).length:=hi;rw[wd] at hi';have hg:N[i]? = some N[i]:=gge hi';refine hall i _ hg λh0=>hk ?_;have:nd (fN N) (i:Int)=fN1 N[i]:=by unfold nd;rw[U_,AB,hg];rfl
 rw[this]
 cases hx:N[i] with
 |inl k=>rfl
 |inr n=>rw[hx] at h0;exact h0
theorem Lq (d:Int)(h:Nat):mOf d h<=4:=by
 unfold mOf;split
 . exact p_ _
 . split <;> omega
theorem Gh {t:DTree}{h:Nat}(g:Good t h){N':NL}{K:List Nat}{c:Nat}(f:Fr2 (nlT t) N' (ids (fN (nlT t)) h t.root) K c)(hK:∀j∈K,∃n:DNode,N'[j]? = some (.inr n)/\n.kind≠0):∀(j:Nat) (k:Int),N'[j]?≠some (.inl k):=λj k hj=>by
 have hold:∀(j:Nat) (x:Int⊕DNode),(nlT t)[j]? = some x->tD x≠0->j∈ids (fN (nlT t)) h t.root:=λj x hx hk=>by obtain⟨n,hn,rfl⟩:=CH hx;rw[wT];exact g.all j (ggs.1 hn).1 (by rw[Cl hn];exact hk)
 by_cases hk:k=0
 . subst hk;obtain⟨n,_,h⟩:=CH (f.zero j hj);cases h
 . rcases f.all j _ hj hk with h|⟨h,y,hy,hyk⟩
   . obtain⟨n,hn,_⟩:=hK j h;rw[hn] at hj;cases hj
   . exact h (hold j y hy hyk)
theorem HE {t:DTree}{h:Nat}(g:Good t h){N':NL}{K:List Nat}{c:Nat}(f:Fr2 (nlT t) N' (ids (fN (nlT t)) h t.root) K c):∀(j:Nat) (x:Int⊕DNode),N'[j]? = some x->tD x≠0->j∈K:=λj x hx hk=>by
 rcases f.all j x hx hk with h|⟨h,y,hy,hyk⟩
 . exact h
 . obtain⟨n,hn,rfl⟩:=CH hy;exact absurd (by rw[wT];exact g.all j (ggs.1 hn).1 (by rw[Cl hn];exact hyk)) h
theorem H6 {t:DTree}{h:Nat}{e:DElem}(g:Good t h)(he:wa e=0)(hne:∀x∈vS t.nodes h t.root,vU x≠vU e)(hl:(vS t.nodes h t.root).length<=400) :
 ∃(root:Int) (N:NL),GD F e (nlT t) t.root=some (root,N)/\qY N=some (fN N)/\∃h',Good ⟨root,fN N⟩ h'/\vS (fN N) h' root=GW (vS t.nodes h t.root) e:=by
 obtain⟨f1,f2⟩:=JG g hl;have hu:=Il g;have hF:=(inferInstance:Big F).le;have c:=AE g;have hsort:=(xA g.chk h t.root 0 topS g.ok).1;have hlen:(nlT t).length<=400:=by unfold nlT;rw[l_];exact g.len
 obtain⟨N',sp,r,b,hrun,hpost⟩:=JJ (F:=F) he h F (nlT t) t.root (mOf 0 h) topS o_ (DE g) hlen o_ c (by rw[wT];exact g.nodup) rfl (by rw[wT];exact hne)
 have sorted:∀ {ns:List DNode} {h':Nat} {root:Int},Good ⟨root,ns⟩ h'->(∀x,x∈vS ns h' root↔x=e\/x∈vS t.nodes h t.root)->vS ns h' root=GW (vS t.nodes h t.root) e:=λ{ns h' root} gg hm=>by
  refine Fu (xA gg.chk h' root 0 topS gg.ok).1 (CX hsort e) λx=>?_;rw[hm x,Gf];constructor
  . rintro(h|h)
    . exact .inl h
    . exact .inr ⟨h,hne x h⟩
  . rintro(h|h)
    . exact .inl h
    . exact .inr h.1
 unfold GD;rw[hrun,obs];dsimp only;rcases hpost with ⟨rfl,P⟩|⟨rfl,hsp,P⟩
 . obtain⟨k,t',e1,e2,x⟩:=P.ch;obtain rfl:t.root=k:=by simpa using e1
   have hK:[t.root].flatMap (ids (fN N') h)=ids (fN N') h t.root:=V_ ..;have fr:=P.fr;rw[hK] at fr;have hcap:N'.length<=400:=(by have:=fr.cap;have:=fr.use;omega);have gg:=Di fr.chk hcap x.1 fr.nodup (HE g fr);refine⟨t.root,N',rfl,Df (Gh g fr x.1.used),h,gg,sorted gg λy=>?_⟩;have:=P.elems y;rw[V_,wT] at this;exact this
 . obtain⟨k,ks',t',ts',e1,e2,i1,x,k2,t2,e3,e4,y⟩:=P.ch;obtain⟨rfl,rfl⟩:t.root=k/\[r]=ks':=by simpa using e1
   obtain rfl:r=k2:=(by simpa using e3);have hK:[t.root,r].flatMap (ids (fN N') h)=ids (fN N') h t.root++ids (fN N') h r:=s_;have fr:=P.fr;rw[hK] at fr;have hcap:N'.length<=400:=by have:=fr.cap;have:=fr.use;omega
   have hKu:∀q∈ids (fN N') h t.root++ids (fN N') h r,∃n:DNode,N'[q]? = some (.inr n)/\n.kind≠0:=λq hq=>by
    rcases v_.1 hq with hq|hq
    . exact x.1.used q hq
    . exact y.1.used q hq
   obtain⟨N2,j,hT,tk⟩:=Gy (F:=F) (N:=N') ⟨2,[],[t.root,r],[sp],[we (nd (fN N') t.root),we (nd (fN N') r)]⟩ o_;have cc:Ch (BW (fN N') h) [sp] topS [t.root,r] [we (nd (fN N') t.root),we (nd (fN N') r)]:=⟨t.root,[r],_,_,rfl,rfl,i1,⟨x.1,rfl⟩,r,_,rfl,rfl,⟨y.1,rfl⟩⟩;have hck:=wK (n:=⟨2,[],[t.root,r],[sp],[we (nd (fN N') t.root),we (nd (fN N') r)]⟩) rfl (yg fr.chk hcap cc s_ s_ (List.pairwise_singleton _ _) (by simpa using hsp));have fr2:=fr.take tk (CN _ _ _ _) hck λq hq=>by obtain⟨n,hn,hk⟩:=hKu q hq;exact⟨_,hn,hk⟩
   have hlen2:N'.length<=N2.length:=(by rcases tk.len with h|⟨h,_⟩ <;> omega);have hjK:∀q∈ids (fN N') h t.root++ids (fN N') h r,N2[q]? = N'[q]?:=λq hq=>tk.same q λe=>by subst e;obtain⟨n,hn,hk⟩:=hKu q hq;exact absurd (tk.free _ hn) hk
   obtain⟨a1,a2,a3⟩:=xw hlen2 cc λq hq=>hjK q (by rw[hK] at hq;exact hq);have hnd:nd (fN N2) (j:Int)=⟨2,[],[t.root,r],[sp],[we (nd (fN N') t.root),we (nd (fN N') r)]⟩:=Ar (by rw[U_];exact tk.at_);have hjl:j<N2.length:=(ggs.1 tk.at_).1;have hids:ids (fN N2) (h+1) (j:Int)=j::(ids (fN N') h t.root++ids (fN N') h r):=(by rw[ids,hnd,U_];show j::[t.root,r].flatMap _=_;rw[a2,hK]);have sub:wo (fN N2) (h+1) (j:Int) (mOf 0 (h+1)) topS:=⟨by rw[wd];omega,by rw[hnd],by rw[hnd];unfold mOf;simp,by rw[hnd];exact a1⟩;rw[<-hids] at fr2;have hcap2:N2.length<=400:=(by have:=fr2.cap;have:=fr2.use;omega);have gg:=Di fr2.chk hcap2 sub fr2.nodup (HE g fr2);refine⟨(j:Int),N2,?_,Df (Gh g fr2 sub.used),h+1,gg,sorted gg λz=>?_⟩
   . rw[Q_,cond_false,x.1.node.1,obs,y.1.node.1,obs,wZ fr.chk x.1.range,obs,wZ fr.chk y.1.range,obs,Fv,hT,obs]
   . have:=P.elems z;rw[wT] at this;rw[<-this,vS,hnd];show z∈[t.root,r].flatMap _↔_;rw[a3]
theorem Dv {t:DTree}{h:Nat}{e:DElem}(g:Good t h)(he:wa e=0) :
 ∃N:NL,qc (Az F e) F (nlT t,t.root)=some N/\qY N=some (fN N)/\Good ⟨t.root,fN N⟩ h/\vS (fN N) h t.root=(vS t.nodes h t.root).map (xS e):=by
 have hF:=(inferInstance:Big F).le;have hh:=xU g;obtain⟨N,hrun,P⟩:=Jp (F:=F) he h F (nlT t) t.root (mOf 0 h) topS o_ (DE g) (AE g) (by rw[wT];exact g.nodup) rfl;have hn:(ids (fN N) h t.root).Nodup:=by rw[P.ids,wT];exact g.nodup
 have hin:∀(j:Nat) (x:Int⊕DNode),N[j]? = some x->(∃n,x=.inr n)/\(tD x≠0->j∈ids (fN N) h t.root):=λj x hx=>by
  by_cases hj:j∈ids (fN N) h t.root
  . obtain⟨n,hn,_⟩:=P.sub.used j hj;rw[hn] at hx;exact⟨⟨n,(x_.inj hx).symm⟩,λ_=>hj⟩
  . rw[P.out j (by rw[<-P.ids];exact hj)] at hx;obtain⟨n,hn,rfl⟩:=CH hx
    exact⟨⟨n,rfl⟩,λhk=>by
     rw[P.ids,wT]
     exact g.all j (ggs.1 hn).1 (by rw[Cl hn];exact hk)⟩
 refine⟨N,hrun,Df λj k hj=>?_,Di P.chk ?_ P.sub hn λj x hx=>(hin j x hx).2,?_⟩
 . obtain⟨⟨n,hn⟩,_⟩:=hin j _ hj;cases hn
 . rw[P.len];unfold nlT;rw[l_];exact g.len
 . rw[P.elems,wT]
theorem Ig {α β:Type}(f:α->List β){l:List α}{k:Nat}(hk:k<l.length):(l.take (k+1)).flatMap f=(l.take k).flatMap f++f l[k]/\((l.take k).flatMap f).length+(f l[k]).length<=(l.flatMap f).length:=by
 have h1:(l.take (k+1)).flatMap f=(l.take k).flatMap f++f l[k]:=by rw[O_,gge hk,L_];simp
 refine⟨h1,?_⟩;have h2:l.flatMap f=(l.take (k+1)).flatMap f++(l.drop (k+1)).flatMap f:=by rw[<-L_,M_]
 rw[h2,h1,d_,d_];omega
theorem Cz {t:DTree}{h:Nat}(g:Good t h):(vS t.nodes h t.root).Pairwise SpO:=(xA g.chk h t.root 0 topS g.ok).1
theorem zM {t:DTree}{h:Nat}(g:Good t h):∀n∈t.nodes,Small n:=λn hn=>xp (g.chk n hn)
def newT:DTree:=⟨0,[⟨1,[],[],[],[]⟩]⟩
theorem Bg:Good newT 0:=by
 have hc:wr ⟨1,[],[],[],[]⟩=0:=wx.2 (.inr (.inl ⟨rfl,⟨rfl,rfl,rfl,E_ _,λe he=>(by cases he),List.Pairwise.nil⟩⟩));refine⟨by simp[newT],λn hn=>?_,⟨⟨by decide,by simp[newT]⟩,rfl,λh=>absurd h c_,λx hx=>(by cases hx)⟩,by simp[newT,ids],λi hi _=>?_⟩
 . obtain rfl:n=⟨1,[],[],[],[]⟩:=by simpa[newT] using hn
   exact hc
 . simp[newT,ids] at hi ⊢;exact hi
end
section
variable {F:Nat} [Big F]
theorem AX {t:DTree}{h h':Nat}{root':Int}{N':NL}(g:Good t h)(len:N'.length=(nlT t).length)(out:∀j:Nat,j∉ids t.nodes h t.root->N'[j]? = (nlT t)[j]?)(chk:xr N')(sub:wo (fN N') h' root' (mOf 0 h') topS)
 (perm:∃Z,(ids t.nodes h t.root).Perm (Z++ids (fN N') h' root')/\∀j∈Z,N'[j]? = some (.inr zN)):qY N'=some (fN N')/\Good ⟨root',fN N'⟩ h':=by
 obtain⟨Z,hZ,hz⟩:=perm
 have key:∀(j:Nat) (x:Int⊕DNode),N'[j]? = some x->(∃n,x=.inr n)/\(tD x≠0->j∈ids (fN N') h' root'):=λj x hx=>by
  by_cases hj:j∈ids t.nodes h t.root
  . rcases v_.1 (hZ.mem_iff.1 hj) with hj|hj
    . rw[hz j hj] at hx;obtain rfl:=x_.inj hx;exact⟨⟨_,rfl⟩,λhk=>absurd rfl hk⟩
    . obtain⟨n,hn,_⟩:=sub.used j hj;rw[hn] at hx;exact⟨⟨n,(x_.inj hx).symm⟩,λ_=>hj⟩
  . rw[out j hj] at hx;obtain⟨n,hn,rfl⟩:=CH hx;exact⟨⟨n,rfl⟩,λhk=>absurd (g.all j (ggs.1 hn).1 (by rw[Cl hn];exact hk)) hj⟩
 refine⟨Df λj k hj=>?_,Di chk ?_ sub ?_ λj x hx=>(key j x hx).2⟩
 . obtain⟨⟨n,hn⟩,_⟩:=key j _ hj;cases hn
 . rw[len];unfold nlT;rw[l_];exact g.len
 . exact(List.nodup_append.1 (hZ.nodup_iff.1 g.nodup)).2.1
theorem Gm {N:NL}{i:Int}{n:DNode}(h:N[i.toNat]? = some (.inr n)):jA (ja N i) i n=N:=by
 refine List.ext_getElem? λj=>?_;by_cases hj:j=i.toNat
 . subst hj;rw[wI _ (by rw[vW];exact(ggs.1 h).1),h]
 . rw[wn _ hj,wy _ hj]
theorem EF {t:DTree}{h:Nat}{sp:DSpot}(g:Good t h) :
 ∃(root:Int) (N:NL),Gl F sp (nlT t) t.root=some (N,root)/\qY N=some (fN N)/\∃h',Good ⟨root,fN N⟩ h'/\vS (fN N) h' root=(vS t.nodes h t.root).filter (yx sp):=by
 have hF:=(inferInstance:Big F).le;have hfu:=xU g;have hc:=DE g;have c:=AE g;have hlen:(nlT t).length<=400:=by unfold nlT;rw[l_];exact g.len
 have hnd:(ids (fN (nlT t)) h t.root).Nodup:=by rw[wT];exact g.nodup
 have hr:=c.range;rw[wd] at hr;unfold Gl
 cases h with
 |zero=>obtain⟨N',hrun,P⟩:=Gq (F:=F) sp 0 F (nlT t) t.root 0 topS o_ hc hlen (.inl rfl) c hnd rfl;have c':wo (fN N') 0 t.root 0 topS:=P.sub;have L:=c'.leaf P.chk;obtain⟨q1,q2⟩:=c'.node;obtain⟨r1,r2⟩:=AX g P.len (λj hj=>P.out j (by rw[wT];exact hj)) P.chk c' (by obtain⟨Z,hZ,hz⟩:=P.perm;rw[wT] at hZ;exact⟨Z,hZ,hz⟩);refine⟨t.root,N',?_,r1,0,r2,by rw[P.elems,wT]⟩;rw[hrun,obs,q1,obs,L.kids,show (((([]:List Int).length:Int))==1)=false from rfl,cond_false,obs,Gm q2]
 |succ h =>
  obtain⟨f,hf⟩:∃f,F=f+1:=⟨F-1,by omega⟩;obtain⟨N3,K,X,T,hrun,M⟩:=HU (F:=F) (Gq sp h) (mf:=f) o_ hc hlen c hnd rfl;rw[<-hf] at hrun;have hids:ids t.nodes (h+1) t.root=t.root.toNat::(nd t.nodes t.root).kids.flatMap (ids t.nodes h):=rfl;have hels:vS t.nodes (h+1) t.root=(nd t.nodes t.root).kids.flatMap (vS t.nodes h):=rfl;have hMe:=M.elems;obtain⟨Z,hZ,hz⟩:=M.perm;rw[wT] at hMe hZ;have hn1:=g.nodup;rw[hids] at hn1;obtain⟨n1,n2⟩:=List.nodup_cons.1 hn1;have hl3:=M.len;have h2:2<=(nd t.nodes t.root).kids.length:=by have:=c.2.2.1;rw[wT] at this;unfold mOf at this;simpa using this
  have hmore:=M.more;rw[wT] at hmore;have hget:(jA N3 t.root ⟨2,[],K,X,T⟩)[t.root.toNat]? = some (.inr ⟨2,[],K,X,T⟩):=wI _ (by rw[hl3];omega);have hnode:kI (jA N3 t.root ⟨2,[],K,X,T⟩) t.root=some ⟨2,[],K,X,T⟩:=by unfold kI;rw[if_neg o_,hget];rfl
  rw[hrun,obs,hnode,obs];dsimp only;by_cases h1:K.length=1
  . obtain⟨k,rfl⟩:=List.length_eq_one_iff.1 h1;obtain⟨X0,hX0⟩:∃X0,X0=X:=⟨_,rfl⟩;have hXl:=M.ch.lens.1;obtain rfl:X=[]:=List.eq_nil_of_length_eq_zero (by simpa using hXl);obtain⟨k',t',e1,e2,q⟩:=M.ch;obtain rfl:k=k':=by simpa using e1
    have hkn:∀j∈ids (fN N3) h k,j≠t.root.toNat:=λj hj e=>n1 (hZ.mem_iff.2 (List.mem_append_right _ (by rw[V_,<-e];exact hj)));have hN:jA (ja (jA N3 t.root ⟨2,[],[k],[],T⟩) t.root) t.root zN=jA N3 t.root zN:=(by unfold jA ja;rw[g9,g9]);obtain⟨a1,a2,a3,a4⟩:=wo.agree (N':=jA N3 t.root zN) (by rw[vZ];exact p_ _) q.1 λj hj=>wn N3 (hkn j hj);rw[V_] at hMe hZ
    obtain⟨r1,r2⟩:=AX (root':=k) g (by rw[vZ];exact hl3) (λj hj=>by
     have:=M.out j (by rw[wT];exact hj);rw[hids,List.mem_cons,not_or] at hj
     rw[wn N3 hj.1,this]) (M.chk.put HA) (a1.weak (Lq 0 h)) ⟨t.root.toNat::Z,by rw[hids,a2];exact List.Perm.cons _ hZ,λj hj=>by
     rcases List.mem_cons.1 hj with rfl|hj
     . exact wI _ (by rw[hl3];omega)
     . rw[wn N3 (show j≠t.root.toNat from λe=>n1 (hZ.mem_iff.2 (List.mem_append_left _ (by rw[<-e];exact hj))))]
       exact hz j hj⟩
    refine⟨k,jA N3 t.root zN,?_,r1,h,r2,by rw[a3,hMe,hels]⟩;rw[show ((([k]:List Int).length:Int)==1)=true from rfl,cond_true,zD (by rw[vW,vZ,hl3];exact hr),obs,show idx [k] 0=some k from rfl,obs,obs];dsimp only;exact congrArg (λq=>some (q,k)) hN
  . have P:=HV hlen c hc hnd M o_;have h2K:2<=K.length:=o_;have hck:=wK (n:=⟨2,[],K,X,T⟩) rfl (yg M.chk (by rw[hl3];exact hlen) M.ch h2K (by have:=M.few;rw[wT] at this;have:=(c.inner hc).eight;rw[wT] at this;omega) M.ord M.ok);have hnd2:=Ar hget
    have c':wo (fN (jA N3 t.root ⟨2,[],K,X,T⟩)) (h+1) t.root (mOf 0 (h+1)) topS :=
     ⟨P.sub.1,P.sub.2.1,by rw[hnd2];unfold mOf;simpa using h2K,P.sub.2.2.2⟩
    obtain⟨r1,r2⟩:=AX g P.len (λj hj=>P.out j (by rw[wT];exact hj)) P.chk c' (by obtain⟨Z,hZ,hz⟩:=P.perm;rw[wT] at hZ;exact⟨Z,hZ,hz⟩);refine⟨t.root,_,?_,r1,h+1,r2,by rw[P.elems,wT]⟩;rw[show ((K.length:Int)==1)=false by rw[beq_eq_false_iff_ne];omega,cond_false,obs,Gm hget]
theorem Ly {l:List DElem}{r:Nat}{x:DElem}(ho:l.Pairwise SpO)(hx:l[r]? = some x):l.filter (yx (vU x))=l.take r++l.drop (r+1):=by
 obtain⟨hr,he⟩:=ggs.1 hx;have e:=Af l hr;rw[he] at e;have hnx:yx (vU x) x=false:=by unfold yx;simp
 have ho':=ho;rw[e] at ho';obtain⟨o1,o2,o3⟩:=l9.1 ho'
 conv=>lhs;rw[e]
 rw[List.filter_append,List.filter_cons,if_neg (by rw[hnx];decide),Cm,Cm]
 . intro y hy hs;have h1:cmpS (vU x) (vU y)<0:=(m0.1 o2).1 y hy;rw[hs,wb.refl] at h1;omega
 . intro y hy hs;have h1:cmpS (vU y) (vU x)<0:=o3 y hy x u_;rw[hs,wb.refl] at h1;omega
end
end
section
section walks
variable {τ α β:Type} {F:Nat}
def wF (t:τ->α->τ×Nat):List α->τ->τ×Nat
 |[],a=>(a,0)
 |e::l,a=>if (t a e).2=0 then wF t l (t a e).1 else t a e
theorem xZ (t:τ->α->τ×Nat):∀(l m:List α) (a:τ),wF t (l++m) a=if (wF t l a).2=0 then wF t m (wF t l a).1 else wF t l a
 |[],m,a=>by simp[wF]
 |e::l,m,a=>by
  rw[List.cons_append,wF,wF];by_cases h:(t a e).2=0
  . rw[if_pos h,if_pos h,xZ t l m]
  . rw[if_neg h,if_neg h,if_neg h]
theorem AW (t:τ->α->τ×Nat)(p:α->Bool):∀(l:List α) (a:τ),wF (λst e=>if p e then t st e else (st,0)) l a=wF t (l.filter p) a
 |[],a=>rfl
 |e::l,a=>by
  rw[wF];by_cases h:p e=true
  . rw[if_pos h,m4 h,wF];by_cases h0:(t a e).2=0
    . rw[if_pos h0,if_pos h0,AW t p l]
    . rw[if_neg h0,if_neg h0]
  . rw[if_neg h,if_pos rfl,m9 h,AW t p l]
theorem yi (t:τ->α->τ×Nat)(g:β->List α):∀(l:List β) (a:τ),wF (λst k=>wF t (g k) st) l a=wF t (l.flatMap g) a
 |[],a=>rfl
 |b::l,a=>by rw[wF,q_,xZ,yi t g l]
theorem zY (t:τ->α->τ×Nat)(len:τ->Nat)(ht:∀a e,len (t a e).1<=len a+1):∀(l:List α) (a:τ),len (wF t l a).1<=len a+l.length
 |[],a=>p_ _
 |e::l,a=>by
  rw[wF,H_];have h1:=ht a e;by_cases h:(t a e).2=0
  . rw[if_pos h];have:=zY t len ht l (t a e).1;omega
  . rw[if_neg h];omega
theorem Bd {S R:Type}[Big F]{f:S->Option (S⊕R)}(t:τ->α->τ×Nat)(l:List α)(enc:τ->Int->S)(o0:τ->R)(o1:τ->Nat->R)(a:τ)(hn:l.length<=9223372036854775807){s:S}(h0:s=enc a 0)
 (hs:∀(k:Nat) (e:α) (st:τ),l[k]? = some e->wF t (l.take k) a=(st,0)->f (enc st (k:Int))=some (j5 (t st e).2 (.inl (enc (t st e).1 ((k:Int)+1))) (λn=>.inr (o1 (t st e).1 n))))
 (he:∀st,wF t l a=(st,0)->f (enc st (l.length:Int))=some (.inr (o0 st))) :
 iter f F s=some (j5 (wF t l a).2 (o0 (wF t l a).1) (λn=>o1 (wF t l a).1 n)):=by
 subst h0
 have key:∀(m k N:Nat) (st:τ),k+m=l.length->m<N->wF t (l.take k) a=(st,0)->iter f N (enc st (k:Int))=some (j5 (wF t l a).2 (o0 (wF t l a).1) (λn=>o1 (wF t l a).1 n)):=by
  intro m
  induction m with
  |zero=>intro k N st hk hN hr;obtain⟨N,rfl⟩:∃M,N=M+1:=⟨N-1,by omega⟩;rw[n9 o_] at hr;rw[iter,show k=l.length by omega,he st hr,hr];rfl
  |succ m ih =>
   intro k N st hk hN hr;obtain⟨N,rfl⟩:∃M,N=M+1:=⟨N-1,by omega⟩;have hkl:k<l.length:=o_;have hg:=gge hkl;have hsplit:wF t l a=wF t (l[k]::l.drop (k+1)) st:=(by have h1:=xZ t (l.take k) (l.drop k) a;rw[M_,hr,if_pos rfl,o5 hkl] at h1;exact h1);rw[iter,hs k l[k] st hg hr];rw[wF] at hsplit
   cases hz:(t st l[k]).2 with
   |zero=>rw[iK];refine ih (k+1) N _ o_ o_ ?_;rw[O_,hg,xZ,hr,if_pos rfl];show wF t [l[k]] st=_;rw[wF,if_pos hz];rfl
   |succ n=>rw[if_neg o_] at hsplit;rw[iO,hsplit,hz,iO]
 exact key l.length 0 F a o_ (zG hn) rfl
end walks
def geB (s:DSpot)(e:DElem):Bool:=decide (0<=cmpS (vU e) s)
def xJ (ns:List DNode)(s:DSpot):Nat->Int->List DElem
 |0,_=>[]
 |m+1,i=>(nd ns i).elems.filter (geB s)++(if (nd ns i).kind=1 then [] else ((nd ns i).kids.drop (yL (nd ns i).seps s)).flatMap (xJ ns s m))
theorem Ii (ns:List DNode)(s:DSpot):∀(m:Nat) (i:Int),(xJ ns s m i).Sublist (wj ns m i):=by
 intro m
 induction m with
 |zero=>intro i;exact List.Sublist.refl _
 |succ m ih =>
  intro i;rw[xJ,wj];refine List.Sublist.append v7 ?_;split
  . exact List.nil_sublist _
  . have h1:∀l:List Int,(l.flatMap (xJ ns s m)).Sublist (l.flatMap (wj ns m)):=by
     intro l
     induction l with
     |nil=>exact List.Sublist.refl _
     |cons a l ihl=>rw[q_,q_];exact(ih a).append ihl
    refine(h1 _).trans ?_
    have h2:∀(l:List Int) (k:Nat),((l.drop k).flatMap (wj ns m)).Sublist (l.flatMap (wj ns m)):=by
     intro l k
     conv=>rhs;rw[<-M_ k l,L_]
     exact List.sublist_append_right _ _
    exact h2 _ _
theorem Ap {α β:Type}(p:β->Bool)(f:α->List β):∀l:List α,(l.flatMap f).filter p=l.flatMap λa=>(f a).filter p
 |[]=>rfl
 |a::l=>by rw[q_,q_,List.filter_append,Ap p f l]
theorem JB {ns:List DNode}(hns:∀n∈ns,wr n=0)(s:DSpot):∀(h m:Nat) (i d:Int) (sp:Span),okN ns h i d sp->h<m->xJ ns s m i=(vS ns h i).filter (geB s):=by
 intro h
 induction h with
 |zero=>intro m i d sp hok hm;obtain⟨m,rfl⟩:∃q,m=q+1:=⟨m-1,by omega⟩;rw[xJ,vS,if_pos hok.2.1,List.append_nil]
 |succ h ih =>
  intro m i d sp hok hm;obtain⟨m,rfl⟩:∃q,m=q+1:=⟨m-1,by omega⟩;have hI:=(yh hns hok.1 hok.2.1).2;rw[xJ,vS,if_neg hok.2.1.2,hI.elems,List.filter_nil,i_,Ap];have hk:∀k∈(nd ns i).kids,xJ ns s m k=(vS ns h k).filter (geB s):=λk hk=>by obtain⟨q,hq⟩:=o6.1 hk;exact ih m k _ _ (hok.2.2.2 (k,q) (Am hq)).1 o_
  have hcong:∀l:List Int,(∀k∈l,k∈(nd ns i).kids)->l.flatMap (xJ ns s m)=l.flatMap λk=>(vS ns h k).filter (geB s):=by
   intro l
   induction l with
   |nil=>intro _;rfl
   |cons a l ihl=>intro hl;rw[q_,q_,hk a (hl a u_),ihl λk hk=>hl k (K_ _ hk)]
  rw[hcong _ λk hk=>v8 hk];have hnil:((nd ns i).kids.take (yL (nd ns i).seps s)).flatMap (λk=>(vS ns h k).filter (geB s))=[]:=by rw[List.flatMap_eq_nil_iff];intro k hk;rw[w6] at hk;obtain⟨q,hq,rfl⟩:=hk;rw[List.filter_eq_nil_iff];intro e he;have hqk:(nd ns i).kids[q]? = some (nd ns i).kids[q]:=gge o_;have h1:=(hok.2.2.2 (_,q) (Am hqk)).1;have h2:=((xA hns h _ _ _ h1).2 e he).1;have hw:=Dr (nd ns i).seps s;have hx:(nd ns i).seps[q]? = some (nd ns i).seps[q]:=gge o_;have h3:=DM hx h2;have h4:=(FE (nd ns i).seps s).1 q _ o_ hx;have h5:=xP h3 h4;unfold geB;rw[decide_eq_true_eq];omega
  conv=>rhs;rw[<-M_ (yL (nd ns i).seps s) (nd ns i).kids,L_,hnil,i_]
def KP {τ:Type}(ns:List DNode)(s:DSpot)(len:τ->Nat)(m:Nat)(x:τ×Int):Prop:=DL ns m x.2/\len x.1+(xJ ns s m x.2).length<=100000
theorem IR {τ:Type}{t:DTree}{h:Nat}(hg:Good t h)(s:DSpot)(len:τ->Nat)(a:τ)(ha:len a=0){F:Nat}[Big F]:KP t.nodes s len F (a,t.root):=by have hF:=(inferInstance:Big F).le;have h4:=xU hg;refine⟨⟨h,0,topS,by omega,hg.ok⟩,?_⟩;dsimp only;have h1:=(Ii t.nodes s F t.root).length_le;rw[Bb hg.chk h F t.root 0 topS hg.ok o_] at h1;have:=zh hg;omega
theorem Ik {t:DTree}{h:Nat}(hg:Good t h)(s:DSpot){F:Nat}[Big F]:xJ t.nodes s F t.root=(vS t.nodes h t.root).filter (geB s):=by have hF:=(inferInstance:Big F).le;have h4:=xU hg;exact JB hg.chk s h F t.root 0 topS hg.ok o_
theorem J3 {τ:Type}{ns:List DNode}(hns:∀n∈ns,wr n=0){s:DSpot}{len:τ->Nat}{m:Nat}{a b:τ}{i:Int}(h:KP ns s len (m+1) (a,i))(h1:(nd ns i).kind≠1){t:τ->DElem->τ×Nat}(ht:∀a e,len (t a e).1<=len a+1)
 (hb:wF t ((nd ns i).elems.filter (geB s)) a=(b,0)) {k:Nat} {e:Int} (hk:((nd ns i).kids.drop (yL (nd ns i).seps s))[k]? = some e) {st:τ}
 (hr:wF (λst k=>wF t (xJ ns s m k) st) (((nd ns i).kids.drop (yL (nd ns i).seps s)).take k) b=(st,0)):KP ns s len m (st,e):=by
 have hkids:=(h.1.kids hns).2;refine⟨hkids e (v8 (y_ hk)),?_⟩;rw[yi] at hr;have q1:=zY t len ht ((nd ns i).elems.filter (geB s)) a;rw[hb] at q1;have q2:=zY t len ht ((((nd ns i).kids.drop (yL (nd ns i).seps s)).take k).flatMap (xJ ns s m)) b;rw[hr] at q2;have h2:=h.2;dsimp only at q1 q2 h2 ⊢;rw[xJ,if_neg h1,d_] at h2;obtain⟨hkl,rfl⟩:=ggs.1 hk;have h3:(((nd ns i).kids.drop (yL (nd ns i).seps s)).flatMap (xJ ns s m)).length=((((nd ns i).kids.drop (yL (nd ns i).seps s)).take k).flatMap (xJ ns s m)).length+(((((nd ns i).kids.drop (yL (nd ns i).seps s)).drop k)).flatMap (xJ ns s m)).length:=by rw[<-d_,<-L_,M_]
 rw[o5 hkl,q_,d_] at h3;omega
theorem LA {ns:List DNode}{i:Int}(hI:Inner (nd ns i))(s:DSpot):yL (nd ns i).seps s<=(nd ns i).kids.length:=by have:=Dr (nd ns i).seps s;have:=hI.seps;omega
end
section
section
def J1 {τ:Type}(ns:List DNode)(len:τ->Nat)(m:Nat)(x:τ×Int):Prop:=DL ns m x.2/\len x.1+(wj ns m x.2).length<=100000
theorem IQ {τ:Type}{t:DTree}{h:Nat}(hg:Good t h)(len:τ->Nat)(a:τ)(ha:len a=0){F:Nat}[Big F]:J1 t.nodes len F (a,t.root):=by have hF:=(inferInstance:Big F).le;have h4:=xU hg;refine⟨⟨h,0,topS,by omega,hg.ok⟩,?_⟩;dsimp only;rw[Bb hg.chk h F t.root 0 topS hg.ok o_];have:=zh hg;omega
theorem Cy {t:DTree}{h:Nat}(hg:Good t h){F:Nat}[Big F]:wj t.nodes F t.root=vS t.nodes h t.root:=by have hF:=(inferInstance:Big F).le;have h4:=xU hg;exact Bb hg.chk h F t.root 0 topS hg.ok o_
theorem Hn {τ:Type}{ns:List DNode}{len:τ->Nat}{m:Nat}{a:τ}{i:Int}(h:J1 ns len (m+1) (a,i)){t:τ->DElem->τ×Nat}(ht:∀a e,len (t a e).1<=len a+1){k:Nat}{e:DElem}(hk:(nd ns i).elems[k]? = some e){st:τ}
 (hr:wF t ((nd ns i).elems.take k) a=(st,0)):len st<=100000:=by
 have h1:=zY t len ht ((nd ns i).elems.take k) a;rw[hr] at h1;have h2:=h.2;dsimp only at h1 h2;rw[wj,d_] at h2;have h3:=(List.take_sublist k (nd ns i).elems).length_le;omega
theorem J2 {τ:Type}{ns:List DNode}(hns:∀n∈ns,wr n=0){len:τ->Nat}{m:Nat}{a b:τ}{i:Int}(h:J1 ns len (m+1) (a,i)){t:τ->DElem->τ×Nat}(ht:∀a e,len (t a e).1<=len a+1)
 (hb:wF t (nd ns i).elems a=(b,0)) {k:Nat} {e:Int} (hk:(nd ns i).kids[k]? = some e) {st:τ}
 (hr:wF (λst k=>wF t (wj ns m k) st) ((nd ns i).kids.take k) b=(st,0)):J1 ns len m (st,e):=by
 have hkids:=(h.1.kids hns).2;refine⟨hkids e (y_ hk),?_⟩;rw[yi] at hr;have q1:=zY t len ht (nd ns i).elems a;rw[hb] at q1;have q2:=zY t len ht (((nd ns i).kids.take k).flatMap (wj ns m)) b;rw[hr] at q2;have h2:=h.2;dsimp only at q1 q2 h2 ⊢;rw[wj,d_] at h2;obtain⟨hkl,rfl⟩:=ggs.1 hk;have h3:((nd ns i).kids.flatMap (wj ns m)).length=(((nd ns i).kids.take k).flatMap (wj ns m)).length+(((nd ns i).kids.drop k).flatMap (wj ns m)).length:=by rw[<-d_,<-L_,M_]
 rw[o5 hkl,q_,d_] at h3;omega
end
section

end
section
variable {F:Nat} [Big F]
theorem Db {t:DTree}(hs:∀n∈t.nodes,Small n){h:Nat}(hg:Good t h):lz F t=some (AA (vS t.nodes h t.root)):=by unfold lz;rw[yB hs hg,obs];dsimp only;rw[show ((0:Int) !=0)=false from rfl,cond_false,yU];rfl
theorem Lp {l:List DElem}(hp:l.Pairwise SpO){i j:Nat}{a b:DElem}(hij:i<=j)(ha:l[i]? = some a)(hb:l[j]? = some b):cmpK a.key b.key<=0:=by
 by_cases e:i=j
 . subst e;rw[ha] at hb;obtain rfl:=x_.inj hb;rw[wm.refl];exact D_ _
 . have:=xi hp (show i<j by omega) ha hb;unfold SpO at this;rcases B5.1 this with h|⟨h,_⟩
   . exact Int.le_of_lt h
   . unfold vU at h;dsimp only at h;rw[h,wm.refl];exact D_ _
theorem Jh {l:List DElem}(ho:∀e∈l,wa e=0)(k:DKey)(u:Int):(l.filter (geB ⟨k,0⟩)).find? (λe=>e.key==k&&yN e u)=atR l k u:=by
 unfold atR;rw[List.find?_filter]
 have:∀m:List DElem,(∀e∈m,e∈l)->m.find? (λa=>decide (geB ⟨k,0⟩ a=true/\(a.key==k&&yN a u)=true))=m.find? λe=>e.key==k&&yN e u:=by
  intro m
  induction m with
  |nil=>intro _;rfl
  |cons e m ih =>
   intro hm;rw[o7,o7,ih λx hx=>hm x (K_ _ hx)];by_cases hk:e.key=k
   . obtain⟨_,h1,_⟩:=xN (ho e (hm e u_));have hge:geB ⟨k,0⟩ e=true:=(by refine decide_eq_true ?_;have h2:=wb.neg (vU e) ⟨k,0⟩;have:cmpS ⟨k,0⟩ (vU e)<0:=B5.2 (.inr ⟨hk.symm,by show (0:Int)<e.made;omega⟩);omega);have hd:decide (geB ⟨k,0⟩ e=true/\(e.key==k&&yN e u)=true)=(e.key==k&&yN e u):=(by cases hq:(e.key==k&&yN e u) <;> simp[hge]);rw[hd]
   . have:(e.key==k)=false:=(by simpa using hk);rw[this];simp
 first
 |exact this l λe he=>he
 |(simp only[Bool.decide_and,Bool.decide_eq_true] at this;exact this l λe he=>he)
theorem Ij {l:List DElem}{k:DKey}:∀e∈l.filter (geB ⟨k,0⟩),0<=cmpK e.key k:=λe he=>by
 have h1:=(g_.1 he).2;unfold geB at h1;have h1:=of_decide_eq_true h1;by_cases h:cmpK e.key k<0
 . have:cmpS (vU e) ⟨k,0⟩<0:=B5.2 (.inl h);omega
 . omega
end
section
variable {F:Nat} [Big F]
abbrev FlatN:=Bool×Int×Int×Int×Int×Int×ByteArray
def flatN (e:DElem):FlatN:=(true,e.key.pfs,e.key.obj,e.key.off,e.made,e.gone,e.val)
def zq (k:DKey)(st:FlatN)(e:DElem):FlatN×Nat:=if e.key≠k then (st,1) else if e.gone=0 then (flatN e,2) else (st,0)
theorem Gx {k:DKey}{st:FlatN}{e:DElem}(h:e.key≠k):zq k st e=(st,1):=if_pos h
theorem Hw {k:DKey}{st:FlatN}{e:DElem}(h:e.key=k)(hl:e.gone=0):zq k st e=(flatN e,2):=by unfold zq;rw[if_neg (λh'=>h' h),if_pos hl]
theorem Hv {k:DKey}{st:FlatN}{e:DElem}(h:e.key=k)(hl:¬ e.gone=0):zq k st e=(st,0):=by unfold zq;rw[if_neg (λh'=>h' h),if_neg hl]
theorem KV (k:DKey)(u:Int):∀(l:List DElem),l.Pairwise SpO->(∀e∈l,0<=cmpK e.key k)->(∀e∈l,w9 e<=u)->∀a:FlatN,(∃e,l.find? (λe=>e.key==k&&yN e u)=some e/\wF (zq k) l a=(flatN e,2))\/(l.find? (λe=>e.key==k&&yN e u)=none/\∃c,c<=1/\wF (zq k) l a=(a,c)):=by
 intro l
 induction l with
 |nil=>intro _ _ _ a;exact .inr ⟨rfl,0,by omega,rfl⟩
 |cons e l ih =>
  intro hp hk hu a;have hlv:=ED (hu e u_);rw[wF];by_cases he:e.key=k
  . have hb:(e.key==k)=true:=by simpa using he
    rw[o7,hb,hlv];by_cases hl:e.gone=0
    . left;rw[Hw he hl,if_neg s_,show (e.gone==0)=true by simpa using hl];exact⟨e,rfl,rfl⟩
    . rw[Hv he hl,if_pos rfl,show (e.gone==0)=false by simpa using hl];exact ih (m0.1 hp).2 (λx hx=>hk x (K_ _ hx)) (λx hx=>hu x (K_ _ hx)) a
  . right;rw[Gx he,if_neg s_];refine⟨?_,1,p_ _,rfl⟩;rw[List.find?_eq_none];intro x hx hq;have hxk:x.key=k:=by have:=(Bool.and_eq_true_iff.1 hq).1;simpa using this
    have h1:=hk e u_;obtain⟨j,hj⟩:=o6.1 hx;have h2:=Lp hp (i:=0) (j:=j) (E_ _) rfl hj;rw[hxk] at h2;exact he ((wm.zero _ _).1 o_)
def Hd (o:Option DElem):DElem×Bool:=match o with
 |some e=>(e,true)
 |none=>(LK,false)
theorem AZ {t:DTree}{h:Nat}(hg:Good t h)(hr:Run (vS t.nodes h t.root))(k:DKey):oB F t k=some (Hd (yc (vS t.nodes h t.root) k)):=by
 have hs:=zM hg;have hlen:∀(a:FlatN) (e:DElem),(λ_:FlatN=>0) (zq k a e).1<=(λ_:FlatN=>0) a+1:=λ_ _=>E_ _;unfold oB
 rw[zQ (σ:=Bool×Int×Int×Int×Int×Int×ByteArray×Int) (λm x=>match x with|(x0,x1,x2,x3,x4,x5,x6,x7)=>KP t.nodes ⟨k,0⟩ (λ_:FlatN=>0) m ((x0,x1,x2,x3,x4,x5,x6),x7))
  (λm x=>match x with|(x0,x1,x2,x3,x4,x5,x6,x7)=>let r:=wF (zq k) (xJ t.nodes ⟨k,0⟩ m x7) (x0,x1,x2,x3,x4,x5,x6);(r.2,r.1)) ?h0 ?hstep F _ (IR hg ⟨k,0⟩ (λ_=>0) _ rfl)]
 case h0 =>
  rintro⟨x0,x1,x2,x3,x4,x5,x6,x7⟩ ⟨⟨h,d,s,hm,_⟩,_⟩;omega
 case hstep =>
  rintro m self ih ⟨x0,x1,x2,x3,x4,x5,x6,x7⟩ hpre;dsimp only at hpre;obtain⟨⟨h0,h1⟩,hkids⟩:=hpre.1.kids hg.chk;dsimp only at h0 h1 hkids ⊢;have hmem:=xK h0 h1;obtain⟨h8,h8'⟩:=yk (hg.chk _ hmem);rw[AL h0 h1,obs];rw[Bd (λst e=>if geB ⟨k,0⟩ e then zq k st e else (st,0)) (nd t.nodes x7).elems (λ(st:FlatN) j=>(st.1,st.2.1,st.2.2.1,st.2.2.2.1,st.2.2.2.2.1,st.2.2.2.2.2.1,st.2.2.2.2.2.2,j)) z_ (λst n=>f_ (n+1,st)) (x0,x1,x2,x3,x4,x5,x6) o_ rfl ?hs ?he]
  case hs =>
   rintro j e ⟨y0,y1,y2,y3,y4,y5,y6⟩ hj hr;have hkl:=(ggs.1 hj).1;dsimp only;rw[decide_eq_true o_,cond_true,vX,hj,obs,wg,obs,wA,obs,w64 o_ o_];unfold geB;by_cases hge:0<=cmpS (vU e) ⟨k,0⟩
   . rw[decide_eq_true hge,cond_true,if_pos rfl];unfold zq;by_cases hn:e.key=k
     . rw[if_neg (show ¬ e.key≠k by simpa using hn),show (!(e.key==k))=false by simpa using hn,cond_false];by_cases hz:e.gone=0
       . rw[if_pos hz,show (e.gone==0)=true by simpa using hz];rfl
       . rw[if_neg hz,show (e.gone==0)=false by simpa using hz];rfl
     . rw[if_pos hn,show (!(e.key==k))=true by simpa using hn];rfl
   . rw[decide_eq_false hge,cond_false,if_neg s_];rfl
  case he =>
   rintro⟨y0,y1,y2,y3,y4,y5,y6⟩ hr;dsimp only;rw[decide_eq_false o_];rfl
  rw[obs,AW,xJ]
  cases hb:wF (zq k) ((nd t.nodes x7).elems.filter (geB ⟨k,0⟩)) (x0,x1,x2,x3,x4,x5,x6) with
  |mk b c =>
   rw[xZ,hb]
   cases c with
   |succ c=>rfl
   |zero =>
    obtain⟨b0,b1,b2,b3,b4,b5,b6⟩:=b;dsimp only[j5];rw[if_pos rfl];by_cases hkd:(nd t.nodes x7).kind=1
    . rw[if_pos hkd,show ((nd t.nodes x7).kind==1)=true by simpa using hkd];rfl
    . rw[if_neg hkd,show ((nd t.nodes x7).kind==1)=false by simpa using hkd,cond_false]
      have hw:yL (nd t.nodes x7).seps ⟨k,0⟩<=(nd t.nodes x7).kids.length:=by
       rcases wx.1 (hg.chk _ hmem) with q|q|q
       . rw[q.2.2.2.1];exact E_ _
       . exact absurd q.1 hkd
       . exact LA q.2 ⟨k,0⟩
      rw[yH _ ⟨k,0⟩ (hs _ hmem),obs,wJ hw,obs];rw[Bd (λst j=>wF (zq k) (xJ t.nodes ⟨k,0⟩ m j) st) ((nd t.nodes x7).kids.drop (yL (nd t.nodes x7).seps ⟨k,0⟩)) (λ(st:FlatN) j=>(st.1,st.2.1,st.2.2.1,st.2.2.2.1,st.2.2.2.2.1,st.2.2.2.2.2.1,st.2.2.2.2.2.2,j)) z_ (λst n=>f_ (n+1,st)) (b0,b1,b2,b3,b4,b5,b6) (by rw[o8];omega) rfl ?hs2 ?he2]
      case hs2 =>
       rintro j e ⟨y0,y1,y2,y3,y4,y5,y6⟩ hk2 hr;have hkl:=(ggs.1 hk2).1;rw[o8] at hkl;dsimp only;rw[decide_eq_true (by rw[o8];omega),cond_true,vX,hk2,obs,ih (y0,y1,y2,y3,y4,y5,y6,e) (J3 hg.chk hpre hkd hlen hb hk2 hr),obs,w64 o_ o_];dsimp only
       cases hc:wF (zq k) (xJ t.nodes ⟨k,0⟩ m e) (y0,y1,y2,y3,y4,y5,y6) with
       |mk y c=>cases c <;> rfl
      case he2 =>
       rintro⟨y0,y1,y2,y3,y4,y5,y6⟩ hr;dsimp only;rw[decide_eq_false o_];rfl
      rw[obs,yi]
      cases hc:wF (zq k) (((nd t.nodes x7).kids.drop (yL (nd t.nodes x7).seps ⟨k,0⟩)).flatMap (xJ t.nodes ⟨k,0⟩ m)) (b0,b1,b2,b3,b4,b5,b6) with
      |mk y c=>cases c <;> rfl
 rw[obs];dsimp only;rw[Ik hg ⟨k,0⟩];obtain⟨hsort,hall⟩:=xA hg.chk h t.root 0 topS hg.ok;have hlast:=hr.last_le;have hat:=Jh (λe he=>(hall e he).2) k 2147483647 (l:=vS t.nodes h t.root);rw[KM hr hlast] at hat;rcases KV k 2147483647 _ (hsort.filter _) Ij (λe he=>by have:=zU (g_.1 he).1;omega) (false,0,0,0,0,0,R_ #[]) with ⟨e,h1,h2⟩|⟨h1,c,hc,h2⟩
 . rw[h2,<-hat,h1];rfl
 . rw[h2,<-hat,h1];have:c=0\/c=1:=o_;rcases this with rfl|rfl <;> rfl
theorem Im {ns:List DNode}(hns:∀n∈ns,wr n=0):∀ {h:Nat} {i:Int} {m:Nat} {s:Span},wo ns h i m s->we (nd ns i)=xW (vS ns h i):=by
 intro h
 induction h with
 |zero =>
  intro i m s c;have L:=c.leaf hns;obtain⟨g1,g2,g3⟩:=Bx (nd ns i);have g0:=(AF (hns _ (xK c.range.1 c.range.2))).1;have hnn:=Cd (nd ns i).elems;rw[vS];refine Int.le_antisymm ?_ (zj.2 ⟨g0,g1⟩);rcases g3 with g3|⟨e,he,g3⟩|⟨t,ht,_⟩
  . omega
  . rw[<-g3];exact zU he
  . rw[L.tids] at ht;cases ht
 |succ h ih =>
  intro i m s c;have L:=c.inner hns;obtain⟨g1,g2,g3⟩:=Bx (nd ns i);have g0:=(AF (hns _ (xK c.range.1 c.range.2))).1;have hch:=c.2.2.2;rw[vS];have hnn:=Cd ((nd ns i).kids.flatMap (vS ns h));refine Int.le_antisymm ?_ (zj.2 ⟨g0,λe he=>?_⟩)
  . rcases g3 with g3|⟨e,he,_⟩|⟨t,ht,g3⟩
    . omega
    . rw[L.elems] at he;cases he
    . obtain⟨k,s',hk,x⟩:=hch.tmem t ht;rw[<-g3,<-x.2,ih x.1];exact zj.2 ⟨hnn,λe he=>zU (List.mem_flatMap.2 ⟨k,hk,he⟩)⟩
  . obtain⟨k,hk,he⟩:=List.mem_flatMap.1 he;obtain⟨q,hq⟩:=o6.1 hk;obtain⟨t,s',ht,x,_⟩:=hch.at_ q k hq;have h1:=g2 t (y_ ht);have h2:=zU he;rw[<-ih x.1,x.2] at h2;omega
theorem Av {t:DTree}{h:Nat}(hg:Good t h)(u:Int):nC F t u=some (decide (u<1\/2147483647<u\/u<xW (vS t.nodes h t.root))):=by
 have c:=AE hg;rw[wT] at c;have hgr:=Im hg.chk c;obtain⟨h0,h1⟩:=c.range;unfold nC;by_cases h2:u<1
 . rw[decide_eq_true h2,cond_true,obs,decide_eq_true (.inl h2)]
 . rw[decide_eq_false h2,cond_false];by_cases h3:2147483647<u
   . rw[decide_eq_true h3,cond_true,obs,decide_eq_true (.inr (.inl h3))]
   . rw[decide_eq_false h3,cond_false,AL h0 h1,obs,xg _ (xp (hg.chk _ (xK h0 h1))),obs,obs,hgr];congr 1;rw[W_,decide_eq_true_eq,decide_eq_true_eq];omega
theorem Au {t:DTree}{h:Nat}(hg:Good t h):pc F t=some (decide (400<=(vS t.nodes h t.root).length)):=by
 have hlen:∀(a:Nat) (e:DElem),(λa:Nat=>a) ((λ(a:Nat) (_:DElem)=>(a+1,0)) a e).1<=(λa:Nat=>a) a+1:=λ_ _=>p_ _;unfold pc;rw[zQ (σ:=Int×Int) (λm x=>DL t.nodes m x.2/\0<=x.1/\x.1+((wj t.nodes m x.2).length:Int)<=100000) (λm x=>x.1+((wj t.nodes m x.2).length:Int)) ?h0 ?hstep F _ ?hpre]
 case h0 =>
  rintro⟨x1,x2⟩ ⟨⟨h,d,s,hm,_⟩,_⟩;omega
 case hpre =>
  have hF:=(inferInstance:Big F).le;have h4:=xU hg;refine⟨⟨h,0,topS,by omega,hg.ok⟩,D_ _,?_⟩;dsimp only;rw[Cy hg];have:=zh hg;omega
 case hstep =>
  rintro m self ih ⟨x1,x2⟩ ⟨hok,hc0,hc1⟩;obtain⟨⟨h0,h1⟩,hkids⟩:=hok.kids hg.chk;dsimp only at h0 h1 hkids hc0 hc1 ⊢;obtain⟨h8,h8'⟩:=yk (hg.chk _ (xK h0 h1));rw[wj,d_] at hc1;rw[AL h0 h1,obs];rw[wB (λk=>(x1+(k:Int),(k:Int))) (nd t.nodes x2).elems.length (r:=x1+((nd t.nodes x2).elems.length:Int)) s_ o_ ?s1 ?e1]
  case s1 =>
   intro k hk;dsimp only;rw[decide_eq_true o_,cond_true,vX,gge hk,obs,w64 o_ o_,w64 o_ o_];congr 3;omega
  case e1 =>
   dsimp only;rw[decide_eq_false o_,cond_false]
  rw[obs];have hlen:((nd t.nodes x2).kids.flatMap (wj t.nodes m)).length<=100000:=o_;rw[wB (λk=>(x1+((nd t.nodes x2).elems.length:Int)+((((nd t.nodes x2).kids.take k).flatMap (wj t.nodes m)).length:Int),(k:Int))) (nd t.nodes x2).kids.length (r:=x1+((nd t.nodes x2).elems.length:Int)+(((nd t.nodes x2).kids.flatMap (wj t.nodes m)).length:Int)) s_ o_ ?s2 ?e2]
  case s2 =>
   intro k hk;have hgk:(nd t.nodes x2).kids[k]? = some (nd t.nodes x2).kids[k]:=gge hk;obtain⟨q1,q2⟩:=Ig (wj t.nodes m) hk;dsimp only;rw[decide_eq_true o_,cond_true,vX,hgk,obs,ih _ ⟨hkids _ (l7 _),by dsimp only;omega,by dsimp only;omega⟩,obs,w64 o_ o_];dsimp only;rw[q1,d_];congr 3;omega
  case e2 =>
   dsimp only;rw[decide_eq_false o_,cond_false,t_]
  rw[obs,wj,d_];congr 1;omega
 rw[obs,obs];dsimp only;rw[Cy hg];congr 1;rw[W_,decide_eq_true_eq,decide_eq_true_eq];omega
theorem HY {A B:List DElem}{e y:DElem}(hs:vU y=vU e)(ho:(A++e::B).Pairwise SpO):(A++e::B).map (xS y)=A++y::B:=by
 obtain⟨o1,o2,o3⟩:=l9.1 ho;rw[List.map_append,P_,BR,BR]
 . unfold xS;rw[if_pos hs.symm]
 . intro x hx h;have h1:cmpS (vU e) (vU x)<0:=(m0.1 o2).1 x hx;rw[h,hs,wb.refl] at h1;omega
 . intro x hx h;have h1:cmpS (vU x) (vU e)<0:=o3 x hx e u_;rw[h,hs,wb.refl] at h1;omega
theorem KU {A B:List DElem}{e:DElem}(ho:(A++e::B).Pairwise SpO):(A++e::B).filter (yx (vU e))=A++B:=by
 have hg:(A++e::B)[A.length]? = some e:=by rw[List.getElem?_append_right (p_ _)];simp
 rw[Ly ho hg,List.take_left' rfl,show A++e::B=(A++[e])++B by simp,List.drop_left' s_]
section
variable {l:List DElem} {k:DKey} {t:Int} {v:ByteArray}
theorem CI (h:Run l){e:DElem}(hn:yc l k=some e):∃a,l=(lo l k++a)++e::hi l k/\clo (hist l k) t=a++(if e.made=t then [] else [{ e with gone:=t }]):=by
 obtain⟨a,ha,hc⟩:=HF (t:=t) h.ord hn;refine⟨a,?_,hc⟩
 conv=>lhs;rw[Ft k h.ord,ha]
 simp
theorem KR (h:Run l){e:DElem}(hn:yc l k=some e)(hm:e.made=t):l.map (xS (yG k v t))=putR l k v t:=by
 obtain⟨a,h1,h2⟩:=CI (t:=t) h hn;have hk:=((yY h.ord).1 hn).2.1;have ho:=AY h.ord;rw[h1] at ho;have hsp:vU (yG k v t)=vU e:=by unfold vU yG;rw[hk,hm]
 conv=>lhs;rw[h1]
 rw[HY hsp ho];unfold putR upd;rw[h2,if_pos hm];simp
theorem Dh (h:Run l){e:DElem}(hn:yc l k=some e)(hm:e.made≠t):l.map (xS { e with gone:=t })=cutR l k t:=by
 obtain⟨a,h1,h2⟩:=CI (t:=t) h hn;have ho:=AY h.ord;rw[h1] at ho
 conv=>lhs;rw[h1]
 rw[HY (e:=e) (y:={ e with gone:=t }) rfl ho];unfold cutR upd;rw[h2,if_neg hm];simp
theorem Kw (h:Run l){e:DElem}(hn:yc l k=some e)(hm:e.made=t):l.filter (yx (vU e))=cutR l k t:=by
 obtain⟨a,h1,h2⟩:=CI (t:=t) h hn;have ho:=AY h.ord;rw[h1] at ho
 conv=>lhs;rw[h1]
 rw[KU ho];unfold cutR upd;rw[h2,if_pos hm];simp
theorem EH (h:Run l)(ht:xW l<=t)(hc:wa (yG k v t)=0):∀x∈cutR l k t,vU x≠vU (yG k v t):=by
 obtain⟨_,h0,h1,_⟩:=Ah hc;obtain⟨c1,c2,c3⟩:=h.clo ht h0 h1 k;intro x hx hs;unfold cutR at hx;have hk:x.key=k:=congrArg DSpot.key hs;have hmd:x.made=t:=congrArg DSpot.made hs;rcases(zy h.ord).1 hx with hx|⟨_,hx⟩
 . have:=(c3 x hx).2;omega
 . exact hx hk
theorem J6 (h:Run l)(hn:yc l k=none):(putR l k v t).length=l.length+1:=by rw[DV h,hn]
theorem J7 (h:Run l){e:DElem}(hn:yc l k=some e)(hm:¬ e.made=t):(putR l k v t).length=l.length+1:=by rw[DV h,hn];exact if_neg hm
theorem KQ (h:Run l)(ht:xW l<=t)(hc:wa (yG k v t)=0)(hn:(putR l k v t).length<=400):GW (cutR l k t) (yG k v t)=putR l k v t:=by
 obtain⟨_,h0,h1,_⟩:=Ah hc;have hcut:=h.cutR ht h0 h1 k;have hput:=h.putR ht hc hn;refine Fu (CX (AY hcut.ord) _) (AY hput.ord) λx=>?_;rw[Gf];have hf:=EH h ht hc;unfold putR;rw[zy h.ord,v_,B_];constructor
 . rintro(rfl|⟨hx,_⟩)
   . exact .inl (.inr rfl)
   . unfold cutR at hx;rcases(zy h.ord).1 hx with hx|hx
     . exact .inl (.inl hx)
     . exact .inr hx
 . rintro((hx|rfl)|hx)
   . have hm:x∈cutR l k t:=(by unfold cutR;exact(zy h.ord).2 (.inl hx));exact .inr ⟨hm,hf x hm⟩
   . exact .inl rfl
   . have hm:x∈cutR l k t:=(by unfold cutR;exact(zy h.ord).2 (.inr hx));exact .inr ⟨hm,hf x hm⟩
end
theorem Lt {N:NL}(h:qY N=some (fN N))(root:Int):nlT ⟨root,fN N⟩=N:=(lE h).symm
theorem AQ {t:DTree}{h:Nat}(hg:Good t h):lz F t=some (AA (vS t.nodes h t.root)):=Db (zM hg) hg
omit [Big F] in
theorem FJ (t:DTree)(k:DKey)(v:ByteArray)(u:Int):pP F t k v u=(lz F t).bind λr1=>bif (r1 !=0) then some ((DTree.mk 0 []),r1) else (kO (DElem.mk k u 0 v)).bind λr2=>bif (r2 !=0) then some ((DTree.mk 0 []),r2) else
 (nC F t u).bind λr3=>bif r3 then some ((DTree.mk 0 []),9) else (oB F t k).bind λr4=>(mz F t).bind λr5 =>
 bif (r4.2&&(r4.1.made==u)) then (qc (σ:=NL×Int) (ρ:=NL) (Az F (DElem.mk k u 0 v)) F (nlT r5,r5.root)).bind λq1=>(qY q1).bind λl1=>some ((DTree.mk r5.root l1),0)
 else (pc F t).bind λr16=>bif r16 then some ((DTree.mk 0 []),8) else
  (bif r4.2 then (qc (σ:=NL×Int) (ρ:=NL) (Az F (DElem.mk r4.1.key r4.1.made u r4.1.val)) F (nlT r5,r5.root)).bind λq2=>some q2 else some (nlT r5):Option NL).bind λz5 =>
  (GD F (DElem.mk k u 0 v) z5 r5.root).bind λz=>match z with|(z10,z11)=>(qY z11).bind λl2=>some ((DTree.mk z10 l2),0)
:=by
 unfold pP;simp only[Ej,La];rfl
theorem D7 {t:DTree}{h:Nat}(hg:Good t h)(k:DKey)(v:ByteArray)(u:Int)(hz:IW (vS t.nodes h t.root) k v u=0) :
 ∃t' h',pP F t k v u=some (t',0)/\Good t' h'/\vS t'.nodes h' t'.root=putR (vS t.nodes h t.root) k v u:=by
 obtain⟨hrun,hc,hlast,hput⟩:=CL.1 hz;obtain⟨_,u0,u1,_⟩:=Ah hc;have hl:=hrun.len;have hcut:=hrun.cutR hlast u0 u1 k
 have pre:∀r,((bif ((Hd (yc (vS t.nodes h t.root) k)).2&&((Hd (yc (vS t.nodes h t.root) k)).1.made==u)) then (qc (σ:=NL×Int) (ρ:=NL) (Az F (yG k v u)) F (nlT t,t.root)).bind λq1=>(qY q1).bind λl1=>some ((DTree.mk t.root l1),(0:Int))
  else (pc F t).bind λr16=>bif r16 then some ((DTree.mk 0 []),8) else
   (bif (Hd (yc (vS t.nodes h t.root) k)).2 then (qc (σ:=NL×Int) (ρ:=NL) (Az F (DElem.mk (Hd (yc (vS t.nodes h t.root) k)).1.key (Hd (yc (vS t.nodes h t.root) k)).1.made u (Hd (yc (vS t.nodes h t.root) k)).1.val)) F (nlT t,t.root)).bind λq2=>some q2 else some (nlT t):Option NL).bind λz5 =>
   (GD F (yG k v u) z5 t.root).bind λz=>match z with|(z10,z11)=>(qY z11).bind λl2=>some ((DTree.mk z10 l2),0))=r)->pP F t k v u=r:=λr hh=>by
  rw[FJ,AQ hg,obs,wv (xn.2 hrun),cond_false,show DElem.mk k u 0 v=yG k v u from rfl,wP,obs,wv hc,cond_false,Av hg,obs,decide_eq_false o_,cond_false,AZ hg hrun,obs,yV hg.len hg.chk,obs];exact hh
 have add:∀(t1:DTree),Good t1 h->t1.root=t.root->vS t1.nodes h t1.root=cutR (vS t.nodes h t.root) k u->∃t' h',((GD F (yG k v u) (nlT t1) t.root).bind λz=>match z with|(z10,z11)=>(qY z11).bind λl2=>some ((DTree.mk z10 l2),(0:Int)))=some (t',0)/\Good t' h'/\vS t'.nodes h' t'.root=putR (vS t.nodes h t.root) k v u:=λt1 g1 hr1 he1=>by
  obtain⟨root,N,a1,a2,h',a3,a4⟩:=H6 (F:=F) (e:=yG k v u) g1 hc (by rw[he1];exact EH hrun hlast hc) (by rw[he1];exact hcut.len);rw[hr1] at a1;refine⟨⟨root,fN N⟩,h',?_,a3,?_⟩
  . rw[a1,obs];dsimp only;rw[a2,obs]
  . rw[a4,he1];exact KQ hrun hlast hc hput
 cases hn:yc (vS t.nodes h t.root) k with
 |none=>have hpl:=J6 (v:=v) (t:=u) hrun hn;rw[hn] at pre;obtain⟨t',h',a1,a2,a3⟩:=add t hg rfl (Ju hrun hn).symm;refine⟨t',h',pre _ ?_,a2,a3⟩;show (bif false then _ else _)=_;rw[cond_false,Au hg,obs,decide_eq_false o_,cond_false];show ((bif false then _ else some (nlT t):Option NL).bind _)=_;rw[cond_false,obs];exact a1
 |some e =>
  rw[hn] at pre;have hem:=(yY hrun.ord).1 hn;by_cases hm:e.made=u
  . obtain⟨N,c1,c2,c3,c4⟩:=Dv (F:=F) (e:=yG k v u) hg hc;refine⟨⟨t.root,fN N⟩,h,pre _ ?_,c3,by rw[c4];exact KR hrun hn hm⟩;show (bif (true&&(e.made==u)) then _ else _)=_;rw[Bool.true_and,show (e.made==u)=true by rw[beq_iff_eq];exact hm,cond_true,c1,obs,c2,obs]
  . have hce:wa { e with gone:=u } = 0:=by have h1:=hcut.ok { e with gone:=u };refine h1 ?_;rw[<-Dh hrun hn hm];exact J_.2 ⟨e,hem.1,if_pos rfl⟩
    obtain⟨N,c1,c2,c3,c4⟩:=Dv (F:=F) (e:={ e with gone:=u }) hg hce;obtain⟨t',h',a1,a2,a3⟩:=add ⟨t.root,fN N⟩ c3 rfl (by rw[<-Dh hrun hn hm];exact c4);rw[Lt c2] at a1;refine⟨t',h',pre _ ?_,a2,a3⟩;have hpl:=J7 (v:=v) hrun hn hm;show (bif (true&&(e.made==u)) then _ else _)=_;rw[Bool.true_and,show (e.made==u)=false by rw[beq_eq_false_iff_ne];exact hm,cond_false,Au hg,obs,decide_eq_false o_,cond_false];show ((bif true then (qc (σ:=NL×Int) (ρ:=NL) (Az F { e with gone:=u }) F (nlT t,t.root)).bind _ else _:Option NL).bind _)=_;rw[cond_true,c1,obs,obs];exact a1
omit [Big F] in
theorem FH (t:DTree)(k:DKey)(u:Int):pO F t k u=(lz F t).bind λr1=>bif (r1 !=0) then some ((DTree.mk 0 []),r1) else (mw k).bind λr2=>bif (r2 !=0) then some ((DTree.mk 0 []),r2) else
 (nC F t u).bind λr3=>bif r3 then some ((DTree.mk 0 []),9) else (oB F t k).bind λr4=>bif (!r4.2) then some ((DTree.mk 0 []),4) else
 bif (r4.1.made==u) then (mz F t).bind λr5=>(jp r4.1).bind λr7=>(Gl F r7 (nlT r5) r5.root).bind λz=>match z with|(z1,z2)=>(qY z1).bind λl1=>some ((DTree.mk z2 l1),0)
 else (mz F t).bind λr43=>(qc (σ:=NL×Int) (ρ:=NL) (Az F (DElem.mk r4.1.key r4.1.made u r4.1.val)) F (nlT r43,r43.root)).bind λq11=>(qY q11).bind λl2=>some ((DTree.mk r43.root l2),0)
:=by
 unfold pO;simp only[Ej,Jd];rfl
theorem D6 {t:DTree}{h:Nat}(hg:Good t h)(k:DKey)(u:Int)(hz:Jt (vS t.nodes h t.root) k u=0) :
 ∃t' h',pO F t k u=some (t',0)/\Good t' h'/\vS t'.nodes h' t'.root=cutR (vS t.nodes h t.root) k u:=by
 obtain⟨hrun,hk,u0,u1,hlast,hnow⟩:=Cx.1 hz;obtain⟨e,hn⟩:=Option.isSome_iff_exists.1 hnow;have hem:=(yY hrun.ord).1 hn;have hcut:=hrun.cutR hlast u0 u1 k;rw[FH,AQ hg,obs,wv (xn.2 hrun),cond_false,Cb,obs,wv hk,cond_false,Av hg,obs,decide_eq_false o_,cond_false,AZ hg hrun,obs,hn];show ∃t' h',(bif (!true) then _ else bif (e.made==u) then _ else _)=_/\_;rw[Q_,cond_false];by_cases hm:e.made=u
 . obtain⟨root,N,o1,o2,h',o3,o4⟩:=EF (F:=F) (sp:=vU e) hg;refine⟨⟨root,fN N⟩,h',?_,o3,by rw[o4];exact Kw hrun hn hm⟩;rw[show (e.made==u)=true by rw[beq_iff_eq];exact hm,cond_true,yV hg.len hg.chk,obs,wg,obs];show (Gl F (vU e) (nlT t) t.root).bind _=_;rw[o1,obs];dsimp only;rw[o2,obs]
 . have hce:wa { e with gone:=u } = 0:=by refine hcut.ok { e with gone:=u } ?_;rw[<-Dh hrun hn hm];exact J_.2 ⟨e,hem.1,if_pos rfl⟩
   obtain⟨N,c1,c2,c3,c4⟩:=Dv (F:=F) (e:={ e with gone:=u }) hg hce;refine⟨⟨t.root,fN N⟩,h,?_,c3,by rw[c4];exact Dh hrun hn hm⟩;rw[show (e.made==u)=false by rw[beq_eq_false_iff_ne];exact hm,cond_false,yV hg.len hg.chk,obs];show (qc (σ:=NL×Int) (ρ:=NL) (Az F { e with gone:=u }) F (nlT t,t.root)).bind _=_;rw[c1,obs,c2,obs]
end
section
variable {F:Nat} [Big F]
def AV (t:DTree):List UInt8:=wh t.root.toNat 2++wh t.nodes.length 2
def wU (t:DTree):ByteArray:=ofL (AV t)
theorem xG (t:DTree):(AV t).length=4:=by unfold AV;rw[d_,vV,vV]
theorem Ev {t:DTree}{h:Nat}(g:Good t h):0<=t.root/\t.root<(t.nodes.length:Int):=by
 have:=g.ok
 cases h with
 |zero=>exact this.1
 |succ h=>exact this.1
theorem HW {t:DTree}{h:Nat}(g:Good t h):((kN F t.root 2).bind λr1=>(kN F (t.nodes.length:Int) 2).bind λr2=>(m5 r1 r2).bind λs1=>some s1:Option ByteArray)=some (wU t):=by
 have hr:=Ev g;have e:t.root=((t.root.toNat:Nat):Int):=o_;have h1:kN F t.root 2=some (ofL (wh t.root.toNat 2)):=by have:=yq (F:=F) t.root.toNat 2 c_;rw[<-e] at this;exact this
 have h2:kN F (t.nodes.length:Int) 2=some (ofL (wh t.nodes.length 2)):=yq (F:=F) t.nodes.length 2 c_;rw[h1,vT,h2,vT,xm (by rw[vV,vV];decide),vT];rfl
structure Fine (t:DTree) (l:List DElem):Prop where
 good:∃h,Good t h/\vS t.nodes h t.root=l
 run:Run l
 few:t.nodes.length<=100
theorem Fine.all {t:DTree}{l:List DElem}(f:Fine t l):j6 F t=some (l,0):=by obtain⟨h,g,rfl⟩:=f.good;exact yB (zM g) g
theorem Fine.chk {t:DTree}{l:List DElem}(f:Fine t l):∀n∈t.nodes,wr n=0:=by obtain⟨h,g,rfl⟩:=f.good;exact g.chk
theorem Fine.check {t:DTree}{l:List DElem}(f:Fine t l):lz F t=some 0:=by obtain⟨h,g,rfl⟩:=f.good;rw[AQ g,xn.2 f.run]
structure Kept (R:List ByteArray) (q:Nat) (t:DTree):Prop where
 done:Done ⟨R,[]⟩ q (wU t)
 page:∀(i:Nat) (n:DNode),t.nodes[i]? = some n->pg R (1+i)=ofL (xc n)
 small:∀j,1<=j->j<101->(pg R j).size<=2900
theorem BL {n:DNode}(h:wr n=0):(ofL (xc n)).size<=2900:=by have:=B0 h;rw[DR,AP];omega
theorem CV (l:List DNode):∀a:List DNode,l.foldl (λa n=>a++[n]) a=a++l:=by
 induction l with
 |nil=>intro a;simp
 |cons x l ih=>intro a;rw[List.foldl_cons,ih];simp
theorem IH {P0:List ByteArray}{W0:List DWrite}{R:List ByteArray}{q:Nat}{t:DTree}{l:List DElem}(hr:nA F ⟨P0,W0⟩=some (⟨R,[]⟩,0))(K:Kept R q t)(f:Fine t l) :
 j9 F P0 W0=some (R,[],t.root,t.nodes):=by
 obtain⟨h,g,hl⟩:=f.good;have hg:=Ev g;have hn:=f.few;have hR:R.length=201:=K.done.ok.len;unfold j9;rw[hr,vT];dsimp only;rw[show ((0:Int) !=0)=false from rfl,vY,DZ K.done.ok,vT];dsimp only;have hsz:(wU t).size=4:=xG t;have s1:km (wU t) 2 ((wU t).size:Int)=some (ofL (slc (AV t) 2 4)):=by rw[hsz];exact zp (l:=AV t) (a:=2) (b:=4) c_ (by rw[xG];decide)
 have s2:km (wU t) 0 2=some (ofL (slc (AV t) 0 2)):=zp (l:=AV t) (a:=0) (b:=2) c_ (by rw[xG];decide);have e1:slc (AV t) 2 4=wh t.nodes.length 2:=by unfold slc AV;rw[n9 (by rw[d_,vV,vV];decide)];exact List.drop_left' (vV _ _)
 have e2:slc (AV t) 0 2=wh t.root.toNat 2:=by unfold slc AV;rw[List.drop_zero];exact List.take_left' (vV _ _)
 rw[s1,s2,e1,e2,hsz,show (((4:Nat):Int) !=4)=false from rfl,vY,vT,xT _ (by rw[vV];decide),vT,vT,xT _ (by rw[vV];decide),vT,xz,xz,
  Nat.mod_eq_of_lt (show t.nodes.length<256 ^ 2 by omega),Nat.mod_eq_of_lt (show t.root.toNat<256 ^ 2 by omega),decide_eq_false (show ¬ (100:Int)<(t.nodes.length:Int) by omega),vY]
 rw[xo (F:=F) t.nodes (λa n=>a++[n]) [] (r:=.inl t.nodes) o_ rfl (λk n hk=>?_) (by dsimp only;rw[decide_eq_false o_,vY,CV];rfl),vT]
 . dsimp only;rw[show (((t.root.toNat:Nat):Int))=t.root by omega];rw[show lz F (DTree.mk t.root t.nodes)=some 0 from f.check,vT];rfl
 . have hk1:=(ggs.1 hk).1;dsimp only;have hp:pg R (1+k)=ofL (xc n):=K.page k n hk;have hc:=f.chk n (y_ hk);have hb:=B0 hc;have hlen:((t.nodes.take k).foldl (λa n=>a++[n]) []).length=k:=by rw[CV,i_,C_];omega
   rw[decide_eq_true o_,wi,wu o_ o_,BC o_ o_,vT,show (1+(k:Int)).toNat=1+k by omega,hp,Fj _ (by rw[AP];omega),vT,IX hc];dsimp only;rw[show ((0:Int) !=0)=false from rfl,vY,yn (by rw[hlen,G_];omega) (by rw[hlen,G_];omega),vT,wu o_ o_]
def Aw (R:List ByteArray)(ns:List DNode):List DWrite:=(ns.zipIdx.filter λp=>decide (pg R (1+p.2)≠ofL (xc p.1))).map λp=>⟨((1+p.2:Nat):Int),ofL (xc p.1)⟩
theorem Cj {R:List ByteArray}{ns:List DNode}{w:DWrite}:w∈Aw R ns↔∃k n,ns[k]? = some n/\pg R (1+k)≠ofL (xc n)/\w=⟨((1+k:Nat):Int),ofL (xc n)⟩:=by
 unfold Aw;rw[J_];constructor
 . rintro⟨⟨n,k⟩,hm,rfl⟩;obtain⟨h1,h2⟩:=g_.1 hm;exact⟨k,n,w7.1 h1,of_decide_eq_true h2,rfl⟩
 . rintro⟨k,n,h1,h2,rfl⟩;exact⟨(n,k),g_.2 ⟨w7.2 h1,decide_eq_true h2⟩,rfl⟩
theorem Jo {R:List ByteArray}{t:DTree}{l:List DElem}(f:Fine t l):FitOk (wU t) (Aw R t.nodes):=by
 have hn:=f.few;refine⟨by have:(wU t).size=4:=xG t;omega,?_,λw hw=>?_,λw hw=>?_,?_⟩
 . unfold Aw;rw[l_];exact X_ (F_ _ _) (by rw[List.length_zipIdx];exact hn)
 . obtain⟨k,n,h1,_,rfl⟩:=Cj.1 hw;have:=(ggs.1 h1).1;dsimp only;omega
 . obtain⟨k,n,h1,_,rfl⟩:=Cj.1 hw;exact BL (f.chk n (y_ h1))
 . unfold Aw;rw[S_];refine List.Pairwise.filter _ ?_;have:(t.nodes.zipIdx.map Prod.snd).Pairwise (·≠·):=by rw[List.zipIdx_map_snd];exact List.nodup_range'
   refine(S_.1 this).imp λ{a b} h=>?_;dsimp only;omega
theorem Er (R:List ByteArray)(l:List (DNode×Nat)):∀a:List DWrite,l.foldl (λa p=>if pg R (1+p.2)=ofL (xc p.1) then a else a++[⟨((1+p.2:Nat):Int),ofL (xc p.1)⟩]) a=a++(l.filter λp=>decide (pg R (1+p.2)≠ofL (xc p.1))).map λp=>⟨((1+p.2:Nat):Int),ofL (xc p.1)⟩:=by
 induction l with
 |nil=>intro a;simp
 |cons p l ih =>
  intro a;rw[List.foldl_cons,ih];by_cases h:pg R (1+p.2)=ofL (xc p.1)
  . rw[if_pos h,m9 (by rw[decide_eq_true_iff];exact λc=>c h)]
  . rw[if_neg h,m4 (by rw[decide_eq_true_iff];exact h),P_,List.append_assoc];rfl
theorem Kv (R:List ByteArray)(l:List (DNode×Nat)):(l.foldl (λa p=>if pg R (1+p.2)=ofL (xc p.1) then a else a++[⟨((1+p.2:Nat):Int),ofL (xc p.1)⟩]) ([]:List DWrite)).length<=l.length:=by rw[Er,i_,l_];exact F_ _ _
theorem Kept.ground {R:List ByteArray}{q:Nat}{t0 t:DTree}{l:List DElem}(K:Kept R q t0)(f:Fine t l)(hq:q<2147483647):StepsOk ⟨R,[]⟩ (wU t) (Aw R t.nodes) q (wU t0):=by have ft:=Jo (R:=R) f;refine⟨K.done.ok,ft,λw hw=>?_,hq⟩;have:=ft.page w hw;rw[BP];exact K.small _ o_ o_
theorem Kept.next {R:List ByteArray}{q:Nat}{t0 t:DTree}{l:List DElem}(K:Kept R q t0)(f:Fine t l)(hq:q<2147483647):Kept (P4 q R (wU t) (Aw R t.nodes)) (q+1) t:=by
 have g:Ground q R (wU t) (Aw R t.nodes):=(K.ground f hq).ground;have hn:=f.few;refine⟨LF g K.done.quiet,λi n hi=>?_,λj h1 h2=>?_⟩
 . have hi1:=(ggs.1 hi).1;by_cases e:pg R (1+i)=ofL (xc n)
   . rw[EG g (1+i) o_ o_ (λw hw=>?_),e];obtain⟨k,m,a1,a2,rfl⟩:=Cj.1 hw;dsimp only;intro c;obtain rfl:k=i:=o_;rw[hi] at a1;obtain rfl:=x_.inj a1;exact a2 e
   . exact JX g (w:=⟨((1+i:Nat):Int),ofL (xc n)⟩) (Cj.2 ⟨i,n,hi,e,rfl⟩)
 . by_cases hw:∃w∈Aw R t.nodes,w.page=(j:Int)
   . obtain⟨w,hw,hp⟩:=hw;have:=JX g hw;rw[hp,U_] at this;rw[this];exact g.fit.text w hw
   . rw[EG g j h1 h2 (λw hw' c=>hw ⟨w,hw',c⟩)];exact K.small j h1 h2
theorem Bw {R:List ByteArray}{q:Nat}{t0 t:DTree}{l:List DElem}(K:Kept R q t0)(f:Fine t l)(hq:q<2147483647) :
 jn F R [] t.root t.nodes=some (P4 q R (wU t) (Aw R t.nodes),[],Aj q R (wU t) (Aw R t.nodes),0):=by
 obtain⟨h,g,hl⟩:=f.good;have hn:=f.few;have hR:R.length=201:=K.done.ok.len;have G:Ground q R (wU t) (Aw R t.nodes):=(K.ground f hq).ground;have hL:=Bq q R (wU t) (Aw R t.nodes);have hcl:=G.fit.len;have h4:=G.len4;unfold jn;rw[HW g,vT];have hz:t.nodes.zipIdx.length=t.nodes.length:=List.length_zipIdx;rw[xo (F:=F) t.nodes.zipIdx (λa p=>if pg R (1+p.2)=ofL (xc p.1) then a else a++[⟨((1+p.2:Nat):Int),ofL (xc p.1)⟩]) [] (r:=Aw R t.nodes) o_ rfl (λk p hk=>?_) (by dsimp only;rw[decide_eq_false o_,vY,Er];rfl),vT,vT]
 . rw[show o9 F ⟨R,[]⟩ (wU t) (Aw R t.nodes)=some (Aj q R (wU t) (Aw R t.nodes),0) from Hx (K.ground f hq),vT];dsimp only;rw[show ((0:Int) !=0)=false from rfl,vY,wu o_ o_,JI G _ rfl,vT];dsimp only;rw[yn (by rw[I_];omega) (by rw[I_];omega),vT,yn c_ c_,vT,vT];rfl
 . obtain⟨n,i⟩:=p;have hk2:(t.nodes.zipIdx)[k]? = some (n,i):=hk;rw[List.getElem?_zipIdx] at hk2;obtain⟨m,hm,e⟩:=t7.1 hk2;obtain⟨rfl,hi⟩:=Prod.mk.inj e;obtain rfl:k=i:=o_;have hk1:=(ggs.1 hm).1;have hc:=f.chk m (y_ hm);have hcx:=Kv R (t.nodes.zipIdx.take k);rw[C_] at hcx;dsimp only;generalize (t.nodes.zipIdx.take k).foldl _ []=a at hcx ⊢;rw[decide_eq_true o_,wi,xD,hm,vT,Bo m (xp hc),if_pos hc,vT];dsimp only;rw[wu o_ o_,BC o_ o_,vT,show (1+(k:Int)).toNat=1+k by omega];by_cases e:pg R (1+k)=ofL (xc m)
   . rw[if_pos e,e,(tF _ _).2 rfl,Q_,vY,vT,wu o_ o_]
   . have hs:seq (pg R (1 + k)) (ofL (xc m))=false:=by
      cases hh:seq (pg R (1+k)) (ofL (xc m)) with
      |false=>rfl
      |true=>exact absurd ((tF _ _).1 hh) e
     rw[if_neg e,hs,Bool.not_false,wi,yn (by rw[G_];omega) (by rw[G_];omega),vT,vT,wu o_ o_];rfl
theorem IK {t:DTree}{h:Nat}(g:Good t h)(hr:Run (vS t.nodes h t.root)):oN F t=some (zb (vS t.nodes h t.root),0):=by unfold oN;rw[yB (zM g) g,vT];dsimp only;have hl:=hr.len;rw[show ((0:Int) !=0)=false from rfl,vY,FT,vT];unfold ofR;rw[if_neg o_,Em.2 ⟨hr.ok,Cz g⟩]
omit [Big F] in
theorem GF (P:List ByteArray)(W:List DWrite){t t1:DTree}{c:Int}(hc:c≠0):jR F P W t.root t.nodes t1.root t1.nodes c=some (t.root,t.nodes,c):=by unfold jR;rw[wH hc,wi]
theorem JR:Fine newT []:=⟨⟨0,Bg,rfl⟩,Run.nil,by decide⟩
def BI:List ByteArray:=((p6 201 (ofL [])).set 0 (hN 0 (wU newT))).set 1 (ofL (xc ⟨1,[],[],[],[]⟩))
theorem Ls:nu F=some (BI,newT.root,newT.nodes):=by have hc:wr ⟨1,[],[],[],[]⟩=0:=Bg.chk _ (B_.2 rfl);have h4:(wU newT).size=4:=xG newT;unfold nu;rw[show sd 16 (201:Int)=some () by decide,vT,show (qU:Option DTree)=some newT from rfl,vT,HW Bg,vT,show oA F 0 (wU newT)=some (hN 0 (wU newT),0) from HL 0 c_ (wU newT) o_,vT,Lm,vT,show idx newT.nodes 0=some ⟨1,[],[],[],[]⟩ from rfl,vT,Bo _ (xp hc),if_pos hc,vT];dsimp only;have e1:idx ((p6 ((201:Int).toNat) ((R_ #[]):ByteArray)).set ((0:Int).toNat) (hN 0 (wU newT))) 1=some (pg ((p6 ((201:Int).toNat) ((R_ #[]):ByteArray)).set ((0:Int).toNat) (hN 0 (wU newT))) 1):=BC c_ (by rw[N_,Y_];decide);rw[e1,vT];rfl
theorem Fl (j:Nat):pg BI j=if j=1 then ofL (xc ⟨1,[],[],[],[]⟩) else if j=0 then hN 0 (wU newT) else ofL []:=by
 unfold BI;rw[BM _ _ _ _ (by rw[N_,Y_];decide),BM _ _ _ _ (by rw[Y_];decide),LH];by_cases h1:j=1
 . rw[if_pos h1.symm,if_pos h1]
 . rw[if_neg (λc=>h1 c.symm),if_neg h1];by_cases h0:j=0
   . rw[if_pos h0.symm,if_pos h0]
   . rw[if_neg (λc=>h0 c.symm),if_neg h0]
theorem Gg:Kept BI 0 newT:=by
 have hc:wr ⟨1,[],[],[],[]⟩=0:=Bg.chk _ (B_.2 rfl);have h4:(wU newT).size=4:=xG newT;have hl:BI.length=201:=by unfold BI;rw[N_,N_,Y_]
 have hx:=LC 0 (wU newT) c_ o_
 have hs:∀s∈BI,s.size<=3500:=λs hs=>by
  unfold BI at hs;rcases List.mem_or_eq_of_mem_set hs with h1|rfl
  . exact hx.good.pages s h1
  . have:=BL hc;omega
 refine⟨⟨⟨⟨Nat.le_of_eq hl,E_ _,hs,λw hw=>by cases hw⟩,hl,?_⟩,rfl,λi h1 h2=>?_⟩,λi n hi=>?_,λj h1 h2=>?_⟩
 . rw[BP,Fl,if_neg c_,if_pos rfl];exact Fb 0 c_ _ o_
 . dsimp only;rw[Fl,if_neg o_,if_neg o_];intro n p t ho;have hz:Bk (ofL [])=none:=by decide
   rw[hz] at ho;cases ho
 . match i,hi with
   |0,hi=>obtain rfl:(⟨1,[],[],[],[]⟩:DNode)=n:=x_.inj hi;rw[Fl,if_pos rfl]
   |i+1,hi=>exact absurd hi (by simp[newT])
 . rw[Fl];split
   . exact BL hc
   . rw[if_neg o_];decide
end
section
theorem BV {zs:List Int}(hs:zs.Pairwise (·<=·)):∀m,m<=zs.length->(Lib.compactUpTo zs.toArray m).Pairwise (· < ·)/\(∀x∈Lib.compactUpTo zs.toArray m,∀j,m<=j+1->j<zs.length->x<=zs.toArray[j]!)/\∀x,x∈Lib.compactUpTo zs.toArray m↔∃j,j<m/\zs.toArray[j]! = x
 |0,_=>by simp[Lib.compactUpTo]
 |m+1,hm=>by
  obtain⟨h1,h2,h3⟩:=BV hs m o_;have at':∀j (hj:j<zs.length),zs.toArray[j]! = zs[j]:=λj hj=>by simp[hj]
  have le:∀i j,i<=j->j<zs.length->zs.toArray[i]!<=zs.toArray[j]!:=λi j hij hj=>by
   rw[at' i o_,at' j hj];rcases p7 i j with h|h
   . exact p8.1 hs i j o_ hj h
   . obtain rfl:i=j:=o_;exact D_ _
  rw[Lib.compactUpTo_succ]
  cases hk:Lib.keeps zs.toArray m with
  |true =>
   rw[if_pos rfl]
   have hne:m=0\/zs.toArray[m]!≠zs.toArray[m-1]!:=by
    unfold Lib.keeps at hk;by_cases h0:m=0
    . exact .inl h0
    . refine .inr λe=>?_;simp[h0,e] at hk
   refine⟨l9.2 ⟨h1,by simp,λx hx y hy=>?_⟩,λx hx j hj hjl=>?_,λx=>?_⟩
   . obtain rfl:=B_.1 hy;rcases hne with rfl|hne
     . simp[Lib.compactUpTo] at hx
     . by_cases h0:m=0
       . subst h0;simp[Lib.compactUpTo] at hx
       . have:=h2 x hx (m-1) o_ o_;have:=le (m-1) m o_ o_;omega
   . rcases v_.1 hx with hx|hx
     . exact h2 x hx j o_ hjl
     . obtain rfl:=B_.1 hx;exact le m j o_ hjl
   . rw[v_,B_,h3];constructor
     . rintro(⟨j,hj,rfl⟩|rfl)
       . exact⟨j,by omega,rfl⟩
       . exact⟨m,by omega,rfl⟩
     . rintro⟨j,hj,rfl⟩;rcases p7 j m with h|h
       . exact .inl ⟨j,h,rfl⟩
       . obtain rfl:j=m:=o_;exact .inr rfl
  |false =>
   have h4:m≠0/\zs.toArray[m]! = zs.toArray[m-1]!:=(by unfold Lib.keeps at hk;simpa using hk);rw[if_neg s_,List.append_nil];refine⟨h1,λx hx j hj hjl=>h2 x hx j o_ hjl,λx=>?_⟩;rw[h3];constructor
   . rintro⟨j,hj,rfl⟩;exact⟨j,by omega,rfl⟩
   . rintro⟨j,hj,rfl⟩;rcases p7 j m with h|h
     . exact⟨j,h,rfl⟩
     . obtain rfl:j=m:=o_;exact⟨j-1,by omega,h4.2.symm⟩
theorem B9 (l:List Int):(kp l).Pairwise (·<=·):=by unfold kp;have:=List.pairwise_mergeSort (le:=λx y:Int=>decide (x<=y)) (λa b c h1 h2=>by simp only[decide_eq_true_eq] at *;omega) (λa b=>by simp only[t6,decide_eq_true_eq];omega) l;exact this.imp λh=>by simpa using h
def Ak (l:List Int):List Int:=Lib.compact (kp l)
theorem FA (l:List Int):(Ak l).Pairwise (· < ·):=(BV (B9 l) _ (p_ _)).1
theorem Ha {l:List Int}{x:Int}:x∈Ak l↔x∈l:=by
 have h:=(BV (B9 l) _ (p_ _)).2.2 x;unfold Ak Lib.compact;rw[h];have hm:x∈kp l↔x∈l:=by unfold kp;exact List.mem_mergeSort
 rw[<-hm];constructor
 . rintro⟨j,hj,rfl⟩;rw[show (kp l).toArray[j]! = (kp l)[j] by simp[hj]];exact l7 hj
 . intro hx;obtain⟨j,hj,rfl⟩:=Z_ hx;exact⟨j,hj,by simp[hj]⟩
theorem Eg (l:List Int):(Ak l).length<=l.length:=by unfold Ak;rw[<-po l];exact rX _
end
section
def opn (e:DElem):DElem:={ e with gone:=0 }
def cls (q:DElem->Bool)(e:DElem):DElem:=bif q e then e else opn e
def xh (p q:DElem->Bool)(l:List DElem):List DElem:=(l.filter p).map (cls q)
theorem wS {p q:DElem->Bool}{l:List DElem}{x:DElem}:x∈xh p q l↔∃e∈l,p e=true/\x=cls q e:=by
 unfold xh;rw[J_];constructor
 . rintro⟨e,h,rfl⟩;rw[g_] at h;exact⟨e,h.1,h.2,rfl⟩
 . rintro⟨e,h1,h2,rfl⟩;exact⟨e,g_.2 ⟨h1,h2⟩,rfl⟩
theorem yR (q:DElem->Bool)(e:DElem):(cls q e).key=e.key:=by unfold cls opn;cases q e <;> rfl
theorem Dx (q:DElem->Bool)(e:DElem):(cls q e).made=e.made:=by unfold cls opn;cases q e <;> rfl
theorem yS {q:DElem->Bool}{e:DElem}(h:q e=true):cls q e=e:=by unfold cls;rw[h,cond_true]
theorem Cw {q:DElem->Bool}{e:DElem}(h:q e=false):cls q e=opn e:=by unfold cls;rw[h,cond_false]
structure Seen (l:List DElem) (t:Int) (p q:DElem->Bool):Prop where
 made:∀e∈l,p e=true->e.made<=t
 gone:∀e∈l,q e=true->e.gone≠0/\e.gone<=t
 shut:∀a∈l,∀b∈l,a.key=b.key->a.made<b.made->p b=true->p a=true/\q a=true
variable {l:List DElem} {t:Int} {p q:DElem->Bool}
theorem FV {e:DElem}(h:wa e=0):wa (opn e)=0:=by
 have:=Ah (k:=e.key) (v:=e.val) (t:=e.made);revert h;unfold wa opn;simp only;intro h
 (repeat' split at h) <;> (repeat' split) <;> first|omega|contradiction|simp_all
theorem Seen.run (s:Seen l t p q)(h:Run l):Run (xh p q l):=by
 refine⟨?_,λx hx=>?_,?_⟩
 . unfold xh;rw[l_];exact X_ (F_ _ _) h.len
 . obtain⟨e,h1,_,rfl⟩:=wS.1 hx;unfold cls
   cases q e with
   |true=>exact h.ok e h1
   |false=>exact FV (h.ok e h1)
 . unfold xh;rw[S_];have ho:=h.ord.filter p;refine List.Pairwise.imp_of_mem ?_ ho;intro a b ha hb hab;obtain⟨a1,a2⟩:=g_.1 ha;obtain⟨b1,b2⟩:=g_.1 hb;rw[yQ] at hab ⊢;rw[yR,yR,Dx,Dx];refine hab.imp id λ⟨k1,k2,k3,k4⟩=>?_;obtain⟨_,hq⟩:=s.shut a a1 b b1 k1 k2 b2;rw[yS hq];exact⟨k1,k2,k3,k4⟩
theorem Seen.last (s:Seen l t p q)(h0:0<=t):xW (xh p q l)<=t:=by
 refine zj.2 ⟨h0,λx hx=>?_⟩;obtain⟨e,h1,h2,rfl⟩:=wS.1 hx;refine zR.2 ⟨by rw[Dx];exact s.made e h1 h2,?_⟩;unfold cls
 cases hq:q e with
 |true=>exact(s.gone e h1 hq).2
 |false=>exact h0
theorem Run.older (h:Run l){a b:DElem}(ha:a∈l)(hb:b∈l)(hk:a.key=b.key):a=b\/a.made<b.made\/b.made<a.made:=by
 rcases zm h.ord ha hb with e|e|e
 . exact .inl e
 . rcases yQ.1 e with h1|h1
   . rw[hk] at h1;have:=wm.refl b.key;omega
   . exact .inr (.inl h1.2.1)
 . rcases yQ.1 e with h1|h1
   . rw[hk] at h1;have:=wm.refl b.key;omega
   . exact .inr (.inr h1.2.1)
theorem Seen.one (s:Seen l t p q)(h:Run l){a b:DElem}(ha:a∈l)(hb:b∈l)(hk:a.key=b.key)(pa:p a=true)(pb:p b=true)(qa:q a=false)(qb:q b=false):a=b:=by
 rcases h.older ha hb hk with e|e|e
 . exact e
 . have:=(s.shut a ha b hb hk e pb).2;rw[qa] at this;cases this
 . have:=(s.shut b hb a ha hk.symm e pa).2;rw[qb] at this;cases this
def Cv (p:DElem->Bool)(e:DElem):DElem->Bool:=λx=>p x||x==e
theorem wQ {e x:DElem}:Cv p e x=true↔p x=true\/x=e:=by unfold Cv;rw[t6,beq_iff_eq]
theorem Seen.cut (s:Seen l t p q)(h:Run l){e:DElem}(he:e∈l)(pe:p e=true)(qe:q e=false)(hg:e.gone=t)(h1:1<=t) :
 Seen l t p (Cv q e)/\Jt (xh p q l) e.key t=0/\cutR (xh p q l) e.key t=xh p (Cv q e) l:=by
 have hok:=h.ok e he
 have hm:e.made<t/\t<=2147483647/\B4 e.key=0:=by
  have:wa e=0:=hok;unfold wa at this
  (repeat' split at this) <;> first|omega|(refine⟨?_,?_,?_⟩ <;> first|omega|simp_all)
 have s':Seen l t p (Cv q e):=⟨s.made,λx hx hq=>by
  rcases wQ.1 hq with hq|rfl
  . exact s.gone x hx hq
  . exact⟨by omega,by omega⟩,λa ha b hb hk hab pb=>by
  have:=s.shut a ha b hb hk hab pb
  exact⟨this.1,wQ.2 (.inl this.2)⟩⟩
 have r:=s.run h;have r':=s'.run h;have hl:=s.last o_;have hmem:opn e∈xh p q l:=wS.2 ⟨e,he,pe,(Cw qe).symm⟩;have hnow:yc (xh p q l) e.key=some (opn e):=(yY r.ord).2 ⟨hmem,rfl,rfl⟩;refine⟨s',Cx.2 ⟨r,hm.2.2,h1,hm.2.1,hl,by rw[hnow];rfl⟩,?_⟩;refine EQ (Run.cutR r hl h1 hm.2.1 e.key).ord r'.ord λx=>?_;unfold cutR;rw[zy r.ord,Ck];refine Iff.trans ?_ wS.symm;constructor
 . rintro((⟨hx,hgx⟩|⟨y,hy,hgy,hmy,rfl⟩)|⟨hx,hkx⟩)
   . obtain⟨a,a1,a2,rfl⟩:=wS.1 (wE.1 hx).1
     cases hq:q a with
     |true=>exact⟨a,a1,a2,by rw[yS hq,yS (wQ.2 (.inl hq))]⟩
     |false=>rw[Cw hq] at hgx;exact absurd rfl hgx
   . obtain⟨hy1,hyk⟩:=wE.1 hy;obtain⟨a,a1,a2,rfl⟩:=wS.1 hy1;rw[yR] at hyk
     cases hq:q a with
     |true=>rw[yS hq] at hgy;exact absurd hgy (s.gone a a1 hq).1
     |false=>obtain rfl:=s.one h a1 he hyk a2 pe hq qe;refine⟨a,a1,a2,?_⟩;rw[Cw hq,yS (wQ.2 (.inr rfl)),<-hg];rfl
   . obtain⟨a,a1,a2,rfl⟩:=wS.1 hx;rw[yR] at hkx;have hne:a≠e:=λe'=>hkx (by rw[e']);refine⟨a,a1,a2,?_⟩;unfold cls Cv;rw[show (a==e)=false from beq_eq_false_iff_ne.2 hne,Bool.or_false]
 . rintro⟨a,a1,a2,rfl⟩;by_cases hae:a=e
   . subst hae;refine .inl (.inr ⟨opn a,wE.2 ⟨hmem,rfl⟩,rfl,?_,?_⟩)
     . show a.made≠t;omega
     . rw[yS (wQ.2 (.inr rfl)),<-hg];rfl
   . have hc:cls (Cv q e) a=cls q a:=(by unfold cls Cv;rw[show (a==e)=false from beq_eq_false_iff_ne.2 hae,Bool.or_false]);rw[hc];by_cases hk:a.key=e.key
     . refine .inl (.inl ⟨wE.2 ⟨wS.2 ⟨a,a1,a2,rfl⟩,by rw[yR];exact hk⟩,?_⟩)
       cases hq:q a with
       |true=>rw[yS hq];exact(s.gone a a1 hq).1
       |false=>exact absurd (s.one h a1 he hk a2 pe hq qe) hae
     . exact .inr ⟨wS.2 ⟨a,a1,a2,rfl⟩,by rw[yR];exact hk⟩
theorem Seen.put (s:Seen l t p q)(h:Run l){e:DElem}(he:e∈l)(pe:p e=false)(qe:q e=false)(hm:e.made=t)(hs:∀a∈l,a.key=e.key->a.made<e.made->p a=true/\q a=true) :
 Seen l t (Cv p e) q/\IW (xh p q l) e.key e.val t=0/\putR (xh p q l) e.key e.val t=xh (Cv p e) q l:=by
 have hok:=FV (h.ok e he);have hnew:yG e.key e.val t=opn e:=by rw[<-hm];rfl
 have h1:1<=t/\t<=2147483647:=by rw[<-hnew] at hok;exact⟨(Ah hok).2.1,(Ah hok).2.2.1⟩
 have s':Seen l t (Cv p e) q:=⟨λx hx hp=>by
  rcases wQ.1 hp with hp|rfl
  . exact s.made x hx hp
  . omega,s.gone,λa ha b hb hk hab pb=>by
  rcases wQ.1 pb with pb|rfl
  . have:=s.shut a ha b hb hk hab pb;exact⟨wQ.2 (.inl this.1),this.2⟩
  . have:=hs a ha hk hab
    exact⟨wQ.2 (.inl this.1),this.2⟩⟩
 have r:=s.run h;have r':=s'.run h;have hl:=s.last o_
 have hgone:∀x∈hist (xh p q l) e.key,x.gone≠0:=λx hx=>by
  obtain⟨hx1,hxk⟩:=wE.1 hx;obtain⟨a,a1,a2,rfl⟩:=wS.1 hx1;rw[yR] at hxk
  have hlt:a.made<e.made:=by
   rcases h.older a1 he hxk with e'|e'|e'
   . subst e';rw[pe] at a2;cases a2
   . exact e'
   . have:=s.made a a1 a2;omega
  have hq:=(hs a a1 hxk hlt).2;rw[yS hq];exact(s.gone a a1 hq).1
 have hput:putR (xh p q l) e.key e.val t=upd (xh p q l) e.key (hist (xh p q l) e.key++[opn e]):=by unfold putR;rw[Dw hgone,hnew]
 have hlen:(putR (xh p q l) e.key e.val t).length<=400:=by
  have h2:=BU (k:=e.key) (h:=hist (xh p q l) e.key++[opn e]) r.ord;rw[hput];rw[d_,G_] at h2;have h3:(xh p q l).length<l.length:=by unfold xh;rw[l_];exact v6.2 ⟨e,he,by rw[pe];decide⟩
  have:=h.len;omega
 have hE:IW (xh p q l) e.key e.val t=0:=CL.2 ⟨r,by rw[hnew];exact hok,hl,hlen⟩;refine⟨s',hE,?_⟩;refine EQ (r.putR hl (by rw[hnew];exact hok) hlen).ord r'.ord λx=>?_;rw[hput,zy r.ord,v_,B_];refine Iff.trans ?_ wS.symm;constructor
 . rintro((hx|rfl)|⟨hx,_⟩)
   . obtain⟨a,a1,a2,rfl⟩:=wS.1 (wE.1 hx).1;exact⟨a,a1,wQ.2 (.inl a2),rfl⟩
   . exact⟨e,he,wQ.2 (.inr rfl),(Cw qe).symm⟩
   . obtain⟨a,a1,a2,rfl⟩:=wS.1 hx;exact⟨a,a1,wQ.2 (.inl a2),rfl⟩
 . rintro⟨a,a1,a2,rfl⟩;rcases wQ.1 a2 with a2|rfl
   . by_cases hk:a.key=e.key
     . exact .inl (.inl (wE.2 ⟨wS.2 ⟨a,a1,a2,rfl⟩,by rw[yR];exact hk⟩))
     . exact .inr ⟨wS.2 ⟨a,a1,a2,rfl⟩,by rw[yR];exact hk⟩
   . exact .inl (.inr (Cw qe))
end
section
theorem Ic {n h:Nat}(hn:n<=400)(h1:cN n h=1)(h2:∀j,j<h->1<cN n j):sNk n h<=100:=by
 have a0:cN n 0<=50:=by show kOf n<=50;unfold kOf;split <;> omega
 have a1:cN n 1<=7:=by show kOf (cN n 0)<=7;unfold kOf;split <;> omega
 have a2:cN n 2<=1:=by show kOf (cN n 1)<=1;unfold kOf;split <;> omega
 match h with
 |0=>show cN n 0<=100;omega
 |1=>show cN n 0+cN n 1<=100;omega
 |2=>show cN n 0+cN n 1+cN n 2<=100;omega
 |h+3=>have:=h2 2 o_;omega
section
variable {F:Nat} [Big F]
theorem Bu (P:List ByteArray)(W:List DWrite){t t1:DTree}{h:Nat}(g:Good t1 h)(hr:Run (vS t1.nodes h t1.root)) :
 ∃t',jR F P W t.root t.nodes t1.root t1.nodes 0=some (t'.root,t'.nodes,0)/\Fine t' (vS t1.nodes h t1.root):=by
 unfold jR;rw[show ((0:Int) !=0)=false from rfl,vY];by_cases hn:(100:Int)<(t1.nodes.length:Int)
 . obtain⟨h',b1,b2,b3,b4,b5⟩:=FR hr.len hr.ok (Cz g);rw[decide_eq_true hn,wi,show oN F (DTree.mk t1.root t1.nodes)=some (zb (vS t1.nodes h t1.root),0) from IK g hr,vT];dsimp only;have hlen:=Ic hr.len b4 b5;generalize vS t1.nodes h t1.root=m at b1 b2 b3 b4 b5 hr hlen;have hm:¬ (100:Int)<((zb m).nodes.length:Int):=by rw[b3];omega
   rw[decide_eq_false hm,vY,vT];exact⟨zb m,rfl,⟨⟨h',b1,b2⟩,hr,by omega⟩⟩
 . rw[decide_eq_false hn,vY,vT];exact⟨t1,rfl,⟨⟨h,g,rfl⟩,hr,by omega⟩⟩
theorem Kh (P:List ByteArray)(W:List DWrite){t:DTree}{l:List DElem}(f:Fine t l)(k:DKey)(v:ByteArray)(u:Int)(hz:IW l k v u=0) :
 ∃t',j8 F P W t.root t.nodes k v u=some (t'.root,t'.nodes,0)/\Fine t' (putR l k v u):=by
 obtain⟨h,g,rfl⟩:=f.good;unfold j8;obtain⟨t1,h1,a1,a2,a3⟩:=D7 (F:=F) g k v u hz;obtain⟨hr,hc,hl,hn⟩:=CL.1 hz;obtain⟨t',b1,b2⟩:=Bu (F:=F) P W (t:=t) a2 (by rw[a3];exact hr.putR hl hc hn);rw[show pP F (DTree.mk t.root t.nodes) k v u=some (t1,0) from a1,vT];dsimp only;rw[b1,vT];rw[a3] at b2;exact⟨t',rfl,b2⟩
theorem Kb (P:List ByteArray)(W:List DWrite){t:DTree}{l:List DElem}(f:Fine t l)(k:DKey)(u:Int)(hz:Jt l k u=0) :
 ∃t',lD F P W t.root t.nodes k u=some (t'.root,t'.nodes,0)/\Fine t' (cutR l k u):=by
 obtain⟨h,g,rfl⟩:=f.good;unfold lD;obtain⟨t1,h1,a1,a2,a3⟩:=D6 (F:=F) g k u hz;obtain⟨hr,_,u0,u1,hl,_⟩:=Cx.1 hz;obtain⟨t',b1,b2⟩:=Bu (F:=F) P W (t:=t) a2 (by rw[a3];exact hr.cutR hl u0 u1 k);rw[show pO F (DTree.mk t.root t.nodes) k u=some (t1,0) from a1,vT];dsimp only;rw[b1,vT];rw[a3] at b2;exact⟨t',rfl,b2⟩
theorem Iz {σ ρ:Type}{f:σ->Option (σ⊕ρ)}{Q:ρ->Prop}(n:Nat)(I:Nat->σ->Prop)(hn:n<=9223372036854775807){s:σ}(h0:I 0 s)(hs:∀k s,k<n->I k s->∃s',f s=some (.inl s')/\I (k+1) s')(he:∀s,I n s->∃r,f s=some (.inr r)/\Q r) :
 ∃r,iter f F s=some r/\Q r:=by
 have key:∀(m k N:Nat) (s:σ),k+m=n->m<N->I k s->∃r,iter f N s=some r/\Q r:=by
  intro m
  induction m with
  |zero=>intro k N s hk hN hI;obtain⟨N,rfl⟩:∃M,N=M+1:=⟨N-1,by omega⟩;obtain⟨r,h1,h2⟩:=he s (by rw[<-hk];exact hI);exact⟨r,by rw[iter,h1],h2⟩
  |succ m ih=>intro k N s hk hN hI;obtain⟨N,rfl⟩:∃M,N=M+1:=⟨N-1,by omega⟩;obtain⟨s',h1,h2⟩:=hs k s o_ hI;obtain⟨r,h3,h4⟩:=ih (k+1) N s' o_ o_ h2;exact⟨r,by rw[iter,h1];exact h3,h4⟩
 exact key n 0 F s o_ (zG hn) h0
end
theorem Run.apart {l:List DElem}(h:Run l){k:Nat}{e:DElem}(hk:l[k]? = some e):e∉l.take k:=λhm=>by obtain⟨i,hi,he⟩:=Z_ hm;rw[C_] at hi;rw[List.getElem_take] at he;obtain⟨hkl,hke⟩:=ggs.1 hk;have:=p8.1 h.ord i k o_ hkl o_;rw[he,hke] at this;exact this.irrefl
theorem yy {l:List DElem}{k:Nat}{e x:DElem}(hk:l[k]? = some e):x∈l.take (k+1)↔x∈l.take k\/x=e:=by rw[O_,hk,Option.toList_some,v_,B_]
theorem Dz {e:DElem}(h:wa e=0):1<=e.made/\(e.gone=0\/e.made<e.gone):=by
 unfold wa at h
 (repeat' split at h) <;> omega
structure CutAt (l:List DElem) (t:Int) (k:Nat) (p q:DElem->Bool):Prop where
 p:∀x∈l,p x=true↔x.made<t
 q:∀x∈l,q x=true↔x.gone≠0/\(x.gone<t\/x.gone=t/\x∈l.take k)
structure PutAt (l:List DElem) (t:Int) (k:Nat) (p q:DElem->Bool):Prop where
 p:∀x∈l,p x=true↔x.made<t\/x.made=t/\x∈l.take k
 q:∀x∈l,q x=true↔x.gone≠0/\x.gone<=t
theorem Run.behind {l:List DElem}(h:Run l){a b:DElem}(ha:a∈l)(hb:b∈l)(hk:a.key=b.key)(hm:a.made<b.made):a.gone≠0/\a.gone<=b.made:=by
 rcases zm h.ord ha hb with e|e|e
 . subst e;omega
 . rcases yQ.1 e with h1|h1
   . rw[hk] at h1;have:=wm.refl b.key;omega
   . exact⟨h1.2.2.1,h1.2.2.2⟩
 . rcases yQ.1 e with h1|h1
   . rw[hk] at h1;have:=wm.refl b.key;omega
   . omega
theorem CutAt.seen {l:List DElem}{t:Int}{k:Nat}{p q:DElem->Bool}(c:CutAt l t k p q)(h:Run l):Seen l t p q :=
 ⟨λe he hp=>by have:=(c.p e he).1 hp;omega,λe he hq=>by have:=(c.q e he).1 hq;exact⟨this.1,by omega⟩,λa ha b hb hk hab pb=>by
  have h1:=(c.p b hb).1 pb;have h2:=h.behind ha hb hk hab
  exact⟨(c.p a ha).2 o_,(c.q a ha).2 ⟨h2.1,.inl o_⟩⟩⟩
theorem PutAt.seen {l:List DElem}{t:Int}{k:Nat}{p q:DElem->Bool}(c:PutAt l t k p q)(h:Run l):Seen l t p q :=
 ⟨λe he hp=>by have:=(c.p e he).1 hp;omega,λe he hq=>(c.q e he).1 hq,λa ha b hb hk hab pb=>by
  have h1:=(c.p b hb).1 pb;have h2:=h.behind ha hb hk hab
  exact⟨(c.p a ha).2 (.inl o_),(c.q a ha).2 ⟨h2.1,by omega⟩⟩⟩
section
variable {F:Nat} [Big F]
theorem Jv (P:List ByteArray){l:List DElem}(h:Run l){t:Int}{k:Nat}{p q:DElem->Bool}{e:DElem}(he:l[k]? = some e)(c:CutAt l t k p q){tr:DTree}(f:Fine tr (xh p q l)) :
 ∃tr' q',(bif ((e.gone==t)&&(decide ((0:Int)<t))) then (lD F P [] tr.root tr.nodes e.key t).bind λr4=>some (r4.1,r4.2.1) else some (tr.root,tr.nodes):Option (Int×List DNode))=some (tr'.root,tr'.nodes)/\CutAt l t (k+1) p q'/\Fine tr' (xh p q' l):=by
 have hm:e∈l:=y_ he;have ht:=Dz (h.ok e hm);by_cases hc:e.gone=t/\0<t
 . obtain⟨hg,h0⟩:=hc
   have qe:q e=false:=by
    cases hq:q e with
    |false=>rfl
    |true=>have:=(c.q e hm).1 hq;exact absurd (this.2.resolve_left o_).2 (h.apart he)
   obtain⟨s1,s2,s3⟩:=(c.seen h).cut h hm ((c.p e hm).2 o_) qe hg o_;obtain⟨tr',b1,b2⟩:=Kb (F:=F) P [] f e.key t s2;rw[s3] at b2;refine⟨tr',Cv q e,?_,⟨c.p,λx hx=>?_⟩,b2⟩
   . rw[show ((e.gone==t)&&(decide ((0:Int)<t)))=true by rw[beq_iff_eq.2 hg,decide_eq_true h0];rfl,wi,b1,vT]
   . rw[wQ,c.q x hx,yy he];constructor
     . rintro(⟨h1,h2⟩|rfl)
       . exact⟨h1,h2.imp id λh=>⟨h.1,.inl h.2⟩⟩
       . exact⟨by omega,.inr ⟨hg,.inr rfl⟩⟩
     . rintro⟨h1,h2|⟨h2,h3|rfl⟩⟩
       . exact .inl ⟨h1,.inl h2⟩
       . exact .inl ⟨h1,.inr ⟨h2,h3⟩⟩
       . exact .inr rfl
 . refine⟨tr,q,?_,⟨c.p,λx hx=>?_⟩,f⟩
   . rw[show ((e.gone==t)&&(decide ((0:Int)<t)))=false from ?_,vY];rw[Bool.and_eq_false_iff,beq_eq_false_iff_ne,decide_eq_false_iff_not];by_cases h1:e.gone=t
     . exact .inr λh2=>hc ⟨h1,h2⟩
     . exact .inl h1
   . rw[c.q x hx,yy he];constructor
     . rintro⟨h1,h2⟩;exact⟨h1,h2.imp id λh=>⟨h.1,.inl h.2⟩⟩
     . rintro⟨h1,h2|⟨h2,h3|rfl⟩⟩
       . exact⟨h1,.inl h2⟩
       . exact⟨h1,.inr ⟨h2,h3⟩⟩
       . exact absurd ⟨h2,by omega⟩ hc
theorem J8 (P:List ByteArray){l:List DElem}(h:Run l){t:Int}{k:Nat}{p q:DElem->Bool}{e:DElem}(he:l[k]? = some e)(c:PutAt l t k p q){tr:DTree}(f:Fine tr (xh p q l)) :
 ∃tr' p',(bif (e.made==t) then (j8 F P [] tr.root tr.nodes e.key e.val t).bind λr5=>some (r5.1,r5.2.1) else some (tr.root,tr.nodes):Option (Int×List DNode))=some (tr'.root,tr'.nodes)/\PutAt l t (k+1) p' q/\Fine tr' (xh p' q l):=by
 have hm:e∈l:=y_ he;have ht:=Dz (h.ok e hm);by_cases hg:e.made=t
 . have pe:p e=false:=by
    cases hp:p e with
    |false=>rfl
    |true=>have:=(c.p e hm).1 hp;exact absurd (this.resolve_left o_).2 (h.apart he)
   have qe:q e=false:=by
    cases hq:q e with
    |false=>rfl
    |true=>have:=(c.q e hm).1 hq;omega
   obtain⟨s1,s2,s3⟩:=(c.seen h).put h hm pe qe hg (λa ha hk hab=>by
    have h2:=h.behind ha hm hk hab
    exact⟨(c.p a ha).2 (.inl o_),(c.q a ha).2 ⟨h2.1,by omega⟩⟩)
   obtain⟨tr',b1,b2⟩:=Kh (F:=F) P [] f e.key e.val t s2;rw[s3] at b2;refine⟨tr',Cv p e,?_,⟨λx hx=>?_,c.q⟩,b2⟩
   . rw[beq_iff_eq.2 hg,wi,b1,vT]
   . rw[wQ,c.p x hx,yy he];constructor
     . rintro(h2|rfl)
       . exact h2.imp id λh=>⟨h.1,.inl h.2⟩
       . exact .inr ⟨hg,.inr rfl⟩
     . rintro(h2|⟨h2,h3|rfl⟩)
       . exact .inl (.inl h2)
       . exact .inl (.inr ⟨h2,h3⟩)
       . exact .inr rfl
 . refine⟨tr,p,?_,⟨λx hx=>?_,c.q⟩,f⟩
   . rw[beq_eq_false_iff_ne.2 hg,vY]
   . rw[c.p x hx,yy he];constructor
     . exact λh2=>h2.imp id λh=>⟨h.1,.inl h.2⟩
     . rintro(h2|⟨h2,h3|rfl⟩)
       . exact .inl h2
       . exact .inr ⟨h2,h3⟩
       . exact absurd h2 hg
theorem Dj {σ ρ β γ:Type}{f:σ->Option (σ⊕ρ)}{K:ρ->Option γ}(g:β->γ)(S:β->Prop)(Q:ρ->Prop)(n:Nat)(I:Nat->σ->Prop)(hn:n<=9223372036854775807){s:σ}(h0:I 0 s)(hs:∀k s,k<n->I k s->∃s',f s=some (.inl s')/\I (k+1) s')(he:∀s,I n s->∃r,f s=some (.inr r)/\Q r)
 (hk:∀r,Q r->∃y,K r=some (g y)/\S y):∃y,(iter f F s).bind K=some (g y)/\S y:=by
 obtain⟨r,h1,h2⟩:=Iz (F:=F) n I hn h0 hs he;rw[h1,vT];exact hk r h2
theorem Dn {ts:List Int}(hs:ts.Pairwise (· < ·)){m:Nat}{t y:Int}(ht:ts[m]? = some t)(hy:y∈ts):(y∈ts.take m↔y<t)/\(y∈ts.take (m+1)↔y<=t):=by
 obtain⟨hm,hmt⟩:=ggs.1 ht;obtain⟨j,hj,rfl⟩:=Z_ hy;have lt:∀i j (hi:i<ts.length) (hj:j<ts.length),i<j->ts[i]<ts[j]:=λi j hi hj h=>p8.1 hs i j hi hj h
 have mt:∀n,ts[j]∈ts.take n↔j<n:=λn=>by
  constructor
  . intro h;obtain⟨i,hi,he⟩:=Z_ h;rw[C_] at hi;rw[List.getElem_take] at he;rcases Nat.lt_trichotomy i j with h1|h1|h1
    . have:=lt i j o_ hj h1;omega
    . omega
    . have:=lt j i hj o_ h1;omega
  . intro h;exact w6.2 ⟨j,by omega,rfl⟩
 rw[mt,mt,<-hmt];rcases Nat.lt_trichotomy j m with h1|h1|h1
 . have:=lt j m hj hm h1;exact⟨⟨λ_=>this,λ_=>h1⟩,⟨λ_=>by omega,λ_=>by omega⟩⟩
 . subst h1;exact⟨⟨λh=>absurd h (Nat.lt_irrefl _),λh=>absurd h (Int.lt_irrefl _)⟩,⟨λ_=>D_ _,λ_=>by omega⟩⟩
 . have:=lt m j hm hj h1;exact⟨⟨λh=>by omega,λh=>by omega⟩,⟨λh=>by omega,λh=>by omega⟩⟩
theorem JW {l:List DElem}{p q:DElem->Bool}(hp:∀x∈l,p x=true)(hq:∀x∈l,q x=false->x.gone=0):xh p q l=l:=by
 unfold xh;rw[B1.2 hp];refine(List.map_congr_left λx hx=>?_).trans (List.map_id l)
 cases h:q x with
 |true=>exact yS h
 |false=>rw[Cw h];have:=hq x hx h;unfold opn;rw[<-this];rfl
theorem CT {l:List DElem}(h:Run l):∃t:DTree,jh F l=some (BI,t.root,t.nodes)/\Fine t l:=by
 have hl:=h.len;unfold jh;rw[Ls,vT];dsimp only;refine Dj (F:=F) (λt:DTree=>(BI,t.root,t.nodes)) (λt=>Fine t l) (λz=>z.length<=800/\∀x,x∈z↔∃e∈l,x=e.made\/x=e.gone) l.length (λk s=>s.2=(k:Int)/\s.1.length=2*k/\∀x,x∈s.1↔∃e∈l.take k,x=e.made\/x=e.gone) o_ ⟨rfl,rfl,by simp⟩ ?_ ?_ ?_
 . rintro k ⟨a,i⟩ hk ⟨h1,ha,hm⟩;dsimp only at h1 ha hm;subst h1;obtain⟨e,he⟩:∃e,l[k]? = some e:=⟨_,gge hk⟩;dsimp only;rw[decide_eq_true (show (k:Int)<(l.length:Int) by omega),wi,vX,he,vT,wq (by simp only[H_,I_];omega) (by simp only[H_,I_];omega),vT,w64 o_ o_];refine⟨_,rfl,by simp,by simp[ha];omega,λx=>?_⟩;dsimp only;rw[v_,hm];constructor
   . rintro(⟨e',h1,h2⟩|h1)
     . exact⟨e',(yy he).2 (.inl h1),h2⟩
     . exact⟨e,(yy he).2 (.inr rfl),by simpa using h1⟩
   . rintro⟨e',h1,h2⟩;rcases(yy he).1 h1 with h1|rfl
     . exact .inl ⟨e',h1,h2⟩
     . exact .inr (by simpa using h2)
 . rintro⟨a,i⟩ ⟨h1,ha,hm⟩;dsimp only at h1 ha hm;subst h1;dsimp only;rw[decide_eq_false o_,vY];refine⟨a,rfl,by omega,λx=>?_⟩;rw[hm,t_]
 . intro z ⟨hz,hmz⟩;rw[show uA z=some (kp z) by unfold uA;rw[if_pos o_],vT];rw[show Lib.compact (kp z)=Ak z from rfl];have hts:=FA z;have hmt:∀x,x∈Ak z↔∃e∈l,x=e.made\/x=e.gone:=λx=>(Ha).trans (hmz x);have htl:(Ak z).length<=800:=X_ (Eg z) hz;generalize Ak z=ts at hts hmt htl;have hmade:∀x∈l,x.made∈ts:=λx hx=>(hmt _).2 ⟨x,hx,.inl rfl⟩;have hgone:∀x∈l,x.gone∈ts:=λx hx=>(hmt _).2 ⟨x,hx,.inr rfl⟩;refine Dj (F:=F) (λt:DTree=>(BI,t.root,t.nodes)) (λt=>Fine t l) (λr=>∃t:DTree,r=(t.root,t.nodes)/\Fine t l) ts.length (λm s=>∃(tr:DTree) (p q:DElem->Bool),s=(tr.root,tr.nodes,(m:Int))/\Fine tr (xh p q l)/\(∀x∈l,p x=true↔x.made∈ts.take m)/\∀x∈l,q x=true↔x.gone≠0/\x.gone∈ts.take m) o_ ⟨newT,λ_=>false,λ_=>false,rfl,?_,by simp,by simp⟩ ?_ ?_ ?_
   . have:xh (λ_=>false) (λ_=>false) l=[]:=(by unfold xh;simp);rw[this];exact JR
   . rintro m s hm ⟨tr,p,q,rfl,f,hp,hq⟩;obtain⟨t,ht⟩:∃t,ts[m]? = some t:=⟨_,gge hm⟩
     have c:CutAt l t 0 p q:=⟨λx hx=>(hp x hx).trans (Dn hts ht (hmade x hx)).1,λx hx=>by
      rw[hq x hx,(Dn hts ht (hgone x hx)).1]
      simp⟩
     dsimp only;rw[decide_eq_true (show (m:Int)<(ts.length:Int) by omega),wi,vX,ht,vT,w64 o_ o_];refine Dj (F:=F) z_ _ (λr=>∃(tr:DTree) (q:DElem->Bool),r=(tr.root,tr.nodes)/\Fine tr (xh p q l)/\CutAt l t l.length p q) l.length (λk s=>∃(tr:DTree) (q:DElem->Bool),s=(tr.root,tr.nodes,(k:Int))/\Fine tr (xh p q l)/\CutAt l t k p q) o_ ⟨tr,q,rfl,f,c⟩ ?_ ?_ ?_
     . rintro k s hk ⟨tr,q,rfl,f,c⟩;obtain⟨e,he⟩:∃e,l[k]? = some e:=⟨_,gge hk⟩;obtain⟨tr',q',b1,b2,b3⟩:=Jv (F:=F) BI h he c f;dsimp only;rw[decide_eq_true (show (k:Int)<(l.length:Int) by omega),wi,vX,he,vT,b1,vT,w64 o_ o_];exact⟨_,rfl,tr',q',by simp,b3,b2⟩
     . rintro s ⟨tr,q,rfl,f,c⟩;dsimp only;rw[decide_eq_false o_,vY];exact⟨_,rfl,tr,q,rfl,f,c⟩
     . rintro r ⟨tr,q,rfl,f,c⟩
       have c2:PutAt l t 0 p q:=⟨λx hx=>by rw[c.p x hx];simp,λx hx=>by
        rw[c.q x hx,t_];constructor
        . rintro⟨h1,h2⟩;exact⟨h1,by omega⟩
        . rintro⟨h1,h2⟩;rcases Int.lt_or_eq_of_le h2 with h2|h2
          . exact⟨h1,.inl h2⟩
          . exact⟨h1,.inr ⟨h2,hx⟩⟩⟩
       dsimp only;refine Dj (F:=F) z_ _ (λr=>∃(tr:DTree) (p:DElem->Bool),r=(tr.root,tr.nodes)/\Fine tr (xh p q l)/\PutAt l t l.length p q) l.length (λk s=>∃(tr:DTree) (p:DElem->Bool),s=(tr.root,tr.nodes,(k:Int))/\Fine tr (xh p q l)/\PutAt l t k p q) o_ ⟨tr,p,rfl,f,c2⟩ ?_ ?_ ?_
       . rintro k s hk ⟨tr,p,rfl,f,c⟩;obtain⟨e,he⟩:∃e,l[k]? = some e:=⟨_,gge hk⟩;obtain⟨tr',p',b1,b2,b3⟩:=J8 (F:=F) BI h he c f;dsimp only;rw[decide_eq_true (show (k:Int)<(l.length:Int) by omega),wi,vX,he,vT,b1,vT,w64 o_ o_];exact⟨_,rfl,tr',p',by simp,b3,b2⟩
       . rintro s ⟨tr,p,rfl,f,c⟩;dsimp only;rw[decide_eq_false o_,vY];exact⟨_,rfl,tr,p,rfl,f,c⟩
       . rintro r ⟨tr,p,rfl,f,c⟩;refine⟨_,rfl,tr,p,q,by simp,f,λx hx=>?_,λx hx=>?_⟩
         . rw[c.p x hx,(Dn hts ht (hmade x hx)).2,t_];constructor
           . rintro(h1|h1) <;> omega
           . intro h1;rcases Int.lt_or_eq_of_le h1 with h1|h1
             . exact .inl h1
             . exact .inr ⟨h1,hx⟩
         . rw[c.q x hx,(Dn hts ht (hgone x hx)).2]
   . rintro s ⟨tr,p,q,rfl,f,hp,hq⟩;dsimp only;rw[decide_eq_false o_,vY];refine⟨_,rfl,tr,rfl,?_⟩
     rw[JW (λx hx=>(hp x hx).2 (by rw[t_];exact hmade x hx)) (λx hx hqx=>by
      by_cases h0:x.gone=0
      . exact h0
      . have:=(hq x hx).2 ⟨h0,by rw[t_];exact hgone x hx⟩
        rw[hqx] at this;cases this)] at f
     exact f
   . rintro r ⟨tr,rfl,f⟩;exact⟨tr,rfl,f⟩
end
end
section
variable {F:Nat} [Big F]
theorem KW:Run [⟨⟨0,0,1⟩,1,0,R_ #[97]⟩]:=xn.1 c_
omit [Big F] in
theorem EW {R:List ByteArray}(h:R.length=201):(((grow 16 ([]:List ByteArray) R).bind λ_=>(grow 24 ([]:List DWrite) ([]:List DWrite)).bind λ_=>some ():Option Unit).bind λ_=>some ():Option Unit)=some ():=by rw[yn (by rw[I_];omega) (by rw[I_];omega),vT,yn c_ c_,vT,vT]
theorem BJ {R:List ByteArray}{q:Nat}{t:DTree}{l:List DElem}(K:Kept R q t)(f:Fine t l):j9 F R []=some (R,[],t.root,t.nodes):=IH (Fo K.done) K f
theorem Kept.len {R:List ByteArray}{q:Nat}{t:DTree}(K:Kept R q t):R.length=201:=K.done.ok.len
end
section
variable {F:Nat} [Big F]
def xl (l:List Int):Int:=if 20<l.length then 2 else if l.all λt=>decide (0<=t)&&decide (t<=2147483647) then 0 else 9
theorem C8 {l:List Int}:xl l=0↔l.length<=20/\∀t∈l,0<=t/\t<=2147483647:=by
 unfold xl;split
 . constructor
   . intro h;cases h
   . intro h;omega
 . split
   . rename_i h1 h2;rw[g6] at h2;refine⟨λ_=>⟨by omega,λt ht=>by simpa using h2 t ht⟩,λ_=>rfl⟩
   . rename_i h1 h2;constructor
     . intro h;cases h
     . intro h;exfalso;apply h2;rw[g6];intro t ht;simpa using h.2 t ht
theorem zo (l:List Int):mU F l=some (xl l):=by
 unfold mU xl;by_cases h:20<l.length
 . rw[if_pos h,decide_eq_true o_,cond_true]
 . rw[if_neg h,decide_eq_false o_,cond_false];rw[Ag l (λt=>if (decide (0<=t)&&decide (t<=2147483647))=true then none else some (f_ 9)) (z_ ()) o_ rfl (λk e hk=>?_) s_]
   . cases hf:l.findSome? λt=>if (decide (0<=t)&&decide (t<=2147483647))=true then none else some (f_ 9:Unit⊕Int) with
     |none =>
      rw[B2] at hf
      rw[if_pos (g6.2 λt ht=>by
       have:=hf t ht;split at this
       . assumption
       . cases this)];rfl
     |some r =>
      obtain⟨t,ht,hr⟩:=B3 hf;split at hr
      . cases hr
      . rename_i h1;obtain rfl:=x_.inj hr;rw[if_neg (λh2=>h1 (g6.1 h2 t ht))];rfl
   . have hkl:=(ggs.1 hk).1;rw[decide_eq_true o_,cond_true,vX,hk,obs,w64 o_ o_];by_cases h1:0<=e/\e<=2147483647
     . rw[show (decide (e<0)||decide ((2147483647:Int)<e))=false by rw[Bool.or_eq_false_iff];simp;omega,cond_false,if_pos (by simpa using h1)]
     . rw[show (decide (e<0)||decide ((2147483647:Int)<e))=true by rw[t6];simp;omega,cond_true,if_neg (by simpa using h1)]
def xL (e:DElem)(ts:List Int):Bool:=(e.gone==0)||ts.any λt=>yN e t
theorem AR (e:DElem)(ts:List Int)(hl:ts.length<=9223372036854775807):mT F e ts=some (xL e ts):=by
 unfold mT xL;by_cases h:e.gone=0
 . rw[beq_iff_eq.2 h];rfl
 . rw[beq_eq_false_iff_ne.2 h,cond_false,Bool.false_or];rw[Ag ts (λt=>if yN e t=true then some (f_ true) else none) (z_ ()) hl rfl (λk x hk=>?_) s_]
   . cases hf:ts.findSome? λt=>if yN e t=true then some (f_ true:Unit⊕Bool) else none with
     |none =>
      rw[B2] at hf
      rw[show (ts.any λt=>yN e t)=false by
       rw[List.any_eq_false];intro t ht hv;have:=hf t ht;rw[if_pos hv] at this;cases this];rfl
     |some r =>
      obtain⟨t,ht,hr⟩:=B3 hf;split at hr
      . rename_i hv;obtain rfl:=x_.inj hr;rw[List.any_eq_true.2 ⟨t,ht,hv⟩];rfl
      . cases hr
   . have hkl:=(ggs.1 hk).1;rw[decide_eq_true o_,cond_true,vX,hk,obs,w64 o_ o_,EZ,obs];cases yN e x <;> rfl
def AG (l:List DElem)(ts:List Int):Int:=if AA l≠0 then AA l else xl ts
def DJ (l:List DElem)(ts:List Int):List DElem:=if AG l ts=0 then l.filter λe=>xL e ts else []
theorem BE {l:List DElem}{ts:List Int}:AG l ts=0↔Run l/\xl ts=0:=by unfold AG;rw[<-xn];split <;> simp_all
theorem Ee (l:List DElem)(ts:List Int):oV F l ts=some (DJ l ts,AG l ts):=by
 unfold oV DJ;rw[yU,obs,zo,obs];by_cases h:AA l=0
 . have hE:AG l ts=xl ts:=by unfold AG;rw[if_neg (by simpa using h)]
   have hlen:=(xn.1 h).len;rw[wv h,cond_false,hE];by_cases h2:xl ts=0
   . have ht:=(C8.1 h2).1;rw[wv h2,cond_false,if_pos h2];rw[xo l (λx e=>if xL e ts then x++[e] else x) [] (r:=l.filter λe=>xL e ts) o_ rfl (λk e hk=>?_) (by rw[B7,i_];simp),obs,h2];have hkl:=(ggs.1 hk).1;have hfl:((l.take k).foldl (λx e=>if xL e ts then x++[e] else x) []).length<=400:=(by rw[B7,i_];have:=F_ (λe=>xL e ts) (l.take k);rw[C_] at this;omega);generalize (l.take k).foldl (λx e=>if xL e ts then x++[e] else x) []=acc at hfl;dsimp only;rw[decide_eq_true o_,cond_true,vX,hk,obs,AR e ts o_,obs,w64 o_ o_];cases hv:xL e ts
     . rfl
     . rw[cond_true,wq (by simp;omega) (by simp;omega)];rfl
   . rw[wH h2,cond_true,if_neg h2]
 . have hE:AG l ts=AA l:=by unfold AG;rw[if_pos h]
   rw[wH h,cond_true,hE,if_neg h]
theorem Iw {l:List DElem}{ts:List Int}(h:AG l ts=0):Run (DJ l ts):=by unfold DJ;rw[if_pos h];exact(BE.1 h).1.sub v7
end
section
def JC (F:Nat)(t:DTree)(keep:List Int)(n:Int):Option (List DSpot):=(((qc (σ:=(List DSpot)×Int) (ρ:=(List DSpot)×Nat) (λrf2 x=>match x with
    |(x1,x2)=>(idx t.nodes x2).bind λe1=>(iter (σ:=(List DSpot)×Int) (ρ:=((List DSpot))⊕((List DSpot)×Nat)) (λx=>match x with
       |(x3,x4)=>bif decide (x4<(e1.elems.length:Int)) then (idx e1.elems x4).bind λe2=>((bif ((x3.length:Int)==n) then some (x3,(0+1)) else (mT F e2 keep).bind λr4=>bif (!r4) then (jp e2).bind λr5=>(grow 32 x3 [r5]).bind λ_=>some ((x3++[r5]),0) else some (x3,0):Option ((List DSpot)×Nat)).bind λz=>match z with
           |(z6,k4)=>j5 k4 (some (z6,0)) λk5=>some (z6,(k5+1)):Option ((List DSpot)×Nat)).bind λz=>match z with
          |(z5,k3)=>j5 k3 (some (.inl (z5,IntKind.i64.wrap (x4+1)))) λk6=>some (.inr (.inr (z5,(k6+1)))) else some (.inr (.inl x3))) F (x1,0)).bind λz=>match z with
       |.inl z4=>(iter (σ:=(List DSpot)×Int) (ρ:=((List DSpot))⊕((List DSpot)×Nat)) (λx=>match x with
         |(x5,x6)=>bif decide (x6<(e1.kids.length:Int)) then (idx e1.kids x6).bind λe3=>((rf2 (x5,e3)).bind λz=>match z with
             |(z9,z10)=>j5 z10 (some (z9,0)) λk8=>some (z9,(k8+1)):Option ((List DSpot)×Nat)).bind λz=>match z with
            |(z8,k7)=>j5 k7 (some (.inl (z8,IntKind.i64.wrap (x6+1)))) λk9=>some (.inr (.inr (z8,(k9+1)))) else some (.inr (.inl x5))) F (z4,0)).bind λz=>match z with
         |.inl z7=>some (z7,0)
         |.inr q=>some q
       |.inr q=>some q) F ([],t.root)).bind λz=>match z with
    |(z11,z12)=>j5 z12 (some (z11,0)) λk10=>some (z11,(k10+1)):Option ((List DSpot)×Nat)).bind λz=>match z with
   |(z2,k1)=>j5 k1 (some z2) λk11=>some z2:Option ((List DSpot)))
def JT (F:Nat)(gone:List DSpot)(t:DTree):Option (Int×NL):=(iter (σ:=Int×(List (Int⊕DNode))×Int) (ρ:=Int×(List (Int⊕DNode))) (λx=>match x with
  |(x7,x8,x9)=>bif decide (x9<(gone.length:Int)) then (idx gone x9).bind λe4=>(Gl F e4 x8 x7).bind λz=>match z with
     |(z15,z16)=>some (.inl (z16,z15,IntKind.i64.wrap (x9+1))) else some (.inr (x7,x8))) F (t.root,(t.nodes.map f_),0))
variable {F:Nat} [Big F]
def Fh (keep:List Int)(e:DElem):Bool:=!xL e keep
def yK (keep:List Int)(n:Int)(st:List DSpot)(e:DElem):List DSpot×Nat:=if (st.length:Int)=n then (st,1) else if xL e keep then (st,0) else (st++[vU e],0)
def zg (l:List DElem)(keep:List Int)(n:Nat):List DSpot:=((l.filter (Fh keep)).take n).map vU
theorem I4 (keep:List Int)(n:Nat):∀(l:List DElem) (a:List DSpot),a.length<=n->(wF (yK keep n) l a).1=a++zg l keep (n-a.length):=by
 intro l
 induction l with
 |nil=>intro a _;simp[wF,zg]
 |cons e l ih =>
  intro a ha;rw[wF];by_cases h1:a.length=n
  . have e1:yK keep n a e=(a,1):=by unfold yK;rw[if_pos o_]
    rw[e1,if_neg (show ¬ (1:Nat)=0 by decide),h1,Nat.sub_self];simp[zg]
  . by_cases h2:xL e keep=true
    . have e1:yK keep n a e=(a,0):=(by unfold yK;rw[if_neg o_,if_pos h2]);rw[e1,if_pos rfl,ih a ha];unfold zg;rw[m9 (by unfold Fh;simp[h2])]
    . have e1:yK keep n a e=(a++[vU e],0):=(by unfold yK;rw[if_neg o_,if_neg h2]);rw[e1,if_pos rfl,ih _ (by simp;omega)];unfold zg;rw[m4 (by unfold Fh;simp[h2]),d_,G_,show n-a.length=(n-(a.length+1))+1 by omega,List.take_succ_cons,P_,List.append_assoc];rfl
theorem JD {t:DTree}{h:Nat}(hg:Good t h)(keep:List Int)(hk:keep.length<=9223372036854775807)(n:Nat):JC F t keep (n:Int)=some (zg (vS t.nodes h t.root) keep n):=by
 have hlen:∀(a:List DSpot) (e:DElem),g8 (yK keep n a e).1<=g8 a+1:=λa e=>by
  unfold yK;split
  . show a.length<=_;omega
  . split
    . show a.length<=_;omega
    . simp
 unfold JC;rw[zQ (σ:=List DSpot×Int) (λm x=>J1 t.nodes g8 m x) (λm x=>wF (yK keep n) (wj t.nodes m x.2) x.1) ?h0 ?hstep F _ (IQ hg g8 [] rfl)]
 case h0 =>
  rintro⟨x1,x2⟩ ⟨⟨h,d,s,hm,_⟩,_⟩;omega
 case hstep =>
  rintro m self ih ⟨x1,x2⟩ hpre;obtain⟨⟨h0,h1⟩,hkids⟩:=hpre.1.kids hg.chk;dsimp only at h0 h1 hkids ⊢;have hmem:=xK h0 h1;obtain⟨h8,h8'⟩:=yk (hg.chk _ hmem);rw[AL h0 h1,obs];rw[Bd (yK keep n) (nd t.nodes x2).elems (λ(st:List DSpot) k=>(st,k)) z_ (λst n=>f_ (st,n+1)) x1 o_ rfl ?hs ?he]
  case hs =>
   intro k e y hk' hr;have hkl:=(ggs.1 hk').1;have hyl:=Hn hpre hlen hk' hr;dsimp only;rw[decide_eq_true o_,cond_true,vX,hk',obs,w64 o_ o_];unfold yK;by_cases hn:(y.length:Int)=n
   . rw[if_pos hn,show ((y.length:Int)==(n:Int))=true by rw[beq_iff_eq];exact hn,cond_true];rfl
   . rw[if_neg hn,show ((y.length:Int)==(n:Int))=false by rw[beq_eq_false_iff_ne];exact hn,cond_false,AR e keep hk,obs]
     cases xL e keep with
     |true=>rfl
     |false=>rw[Bool.not_false,cond_true,wg,obs,wq (by simp;omega) (by simp;omega),obs];rfl
  case he =>
   intro y hr;dsimp only;rw[decide_eq_false o_];rfl
  rw[obs,wj]
  cases hb:wF (yK keep n) (nd t.nodes x2).elems x1 with
  |mk b c =>
   rw[xZ,hb]
   cases c with
   |succ c=>rfl
   |zero =>
    dsimp only[j5];rw[if_pos rfl];rw[Bd (λst k=>wF (yK keep n) (wj t.nodes m k) st) (nd t.nodes x2).kids (λ(st:List DSpot) k=>(st,k)) z_ (λst n=>f_ (st,n+1)) b o_ rfl ?hs2 ?he2]
    case hs2 =>
     intro k e y hk2 hr;have hkl:=(ggs.1 hk2).1;dsimp only;rw[decide_eq_true o_,cond_true,vX,hk2,obs,ih (y,e) (J2 hg.chk hpre hlen hb hk2 hr),obs,w64 o_ o_];dsimp only
     cases hc:wF (yK keep n) (wj t.nodes m e) y with
     |mk y c=>cases c <;> rfl
    case he2 =>
     intro y hr;dsimp only;rw[decide_eq_false o_];rfl
    rw[obs,yi]
    cases hc:wF (yK keep n) ((nd t.nodes x2).kids.flatMap (wj t.nodes m)) b with
    |mk y c=>cases c <;> rfl
 rw[obs];dsimp only;rw[Cy hg];have hrun:=I4 keep n (vS t.nodes h t.root) [] (E_ _);rw[i_,I_,Nat.sub_zero] at hrun
 cases hc:wF (yK keep n) (vS t.nodes h t.root) [] with
 |mk y c=>rw[hc] at hrun;rw[<-hrun];cases c <;> rfl
def Bn (g:List DSpot)(e:DElem):Bool:=!(decide (vU e∈g))
theorem G5 (A:List DSpot)(b:DSpot)(x:DElem):Bn (A++[b]) x=(yx b x&&Bn A x):=by unfold Bn yx;rw[W_];simp[not_or,and_comm]
theorem Hj {t:DTree}{h:Nat}(hg:Good t h)(g:List DSpot)(hl:g.length<=100000):∃(root:Int) (N:NL),JT F g t=some (root,N)/\qY N=some (fN N)/\∃h',Good ⟨root,fN N⟩ h'/\vS (fN N) h' root=(vS t.nodes h t.root).filter (Bn g):=by
 have hF:=(inferInstance:Big F).le;unfold JT
 generalize hf:(λx:Int×(List (Int⊕DNode))×Int=>match x with
  |(x7,x8,x9) =>
   bif decide (x9<(g.length:Int)) then
    (idx g x9).bind λe4 =>
    (Gl F e4 x8 x7).bind λz=>match z with
     |(z15,z16) =>
      (some (.inl (z16,z15,IntKind.i64.wrap (x9+1))):Option ((Int×(List (Int⊕DNode))×Int)⊕(Int×(List (Int⊕DNode)))))
    else
     some (.inr (x7,x8)))=f
 have key:∀(k:Nat),k<=g.length->∃(t':DTree) (h':Nat),(∀n:Nat,iter f (n+k) (t.root,nlT t,0)=iter f n (t'.root,nlT t',(k:Int)))/\Good t' h'/\vS t'.nodes h' t'.root=(vS t.nodes h t.root).filter (Bn (g.take k)):=by
  intro k
  induction k with
  |zero=>intro _;refine⟨t,h,λn=>rfl,hg,?_⟩;exact(B1.2 λx _=>by unfold Bn;simp).symm
  |succ k ih =>
   intro hk;obtain⟨t1,h1,i1,i2,i3⟩:=ih o_;obtain⟨root,N,o1,o2,h2,o3,o4⟩:=EF (F:=F) (sp:=g[k]'o_) i2;have hgk:g[k]? = some (g[k]'o_):=gge o_;have hN:nlT ⟨root,fN N⟩=N:=(by have:=lE o2;unfold nlT;exact this.symm);refine⟨⟨root,fN N⟩,h2,λn=>?_,o3,?_⟩
   . rw[show n+(k+1)=(n+1)+k by omega,i1,iter];have hstep:f (t1.root,nlT t1,(k:Int))=some (.inl (root,N,((k+1:Nat):Int))):=(by rw[<-hf];dsimp only;rw[decide_eq_true o_,cond_true,vX,hgk,obs,o1,obs];dsimp only;rw[w64 o_ o_];rfl);rw[hstep,hN]
   . show vS (fN N) h2 root=_;rw[o4,i3,List.filter_filter,O_,hgk];congr 1;funext x;rw[Option.toList_some,G5]
 obtain⟨t',h',i1,i2,i3⟩:=key g.length (p_ _);rw[t_] at i3;refine⟨t'.root,nlT t',?_,?_,h',?_,?_⟩
 . show iter f F (t.root,nlT t,0)=_;rw[show F=((F-g.length-1)+1)+g.length by omega,i1,iter];have hend:f (t'.root,nlT t',(g.length:Int))=some (.inr (t'.root,nlT t')):=by rw[<-hf];dsimp only;rw[decide_eq_false o_,cond_false]
   rw[hend]
 . rw[wT];exact vo _
 . rw[wT];exact i2
 . rw[wT];exact i3
omit [Big F] in
theorem Bp (t:DTree)(keep:List Int)(n:Int):nt F t keep n=(lz F t).bind λr1=>bif (r1 !=0) then some ((DTree.mk 0 []),0,r1) else (mU F keep).bind λr2=>bif (r2 !=0) then some ((DTree.mk 0 []),0,r2) else
 bif decide (n<0) then some ((DTree.mk 0 []),0,1) else (JC F t keep n).bind λz1=>(mz F t).bind λr6=>(JT F z1 r6).bind λz=>match z with|(z13,z14)=>(qY z14).bind λl2=>some ((DTree.mk z13 l2),(z1.length:Int),0)
:=by
 unfold nt;simp only[Jd];rfl
theorem Hl {t:DTree}{h:Nat}(hg:Good t h):lz F t=some (AA (vS t.nodes h t.root)):=by unfold lz;rw[yB (zM hg) hg,obs];dsimp only;rw[show ((0:Int) !=0)=false from rfl,cond_false,yU];rfl
theorem Dc {t:DTree}{h:Nat}(hg:Good t h)(hr:AA (vS t.nodes h t.root)=0){keep:List Int}(hk:xl keep=0)(n:Nat) :
 ∃t' h',nt F t keep (n:Int)=some (t',((zg (vS t.nodes h t.root) keep n).length:Int),0)/\Good t' h'/\vS t'.nodes h' t'.root=(vS t.nodes h t.root).filter (Bn (zg (vS t.nodes h t.root) keep n)):=by
 have hkl:=(C8.1 hk).1;have hsm:=zh hg;have hgl:(zg (vS t.nodes h t.root) keep n).length<=100000:=by unfold zg;rw[l_,C_];have:=F_ (Fh keep) (vS t.nodes h t.root);omega
 obtain⟨root,N,o1,o2,h',o3,o4⟩:=Hj (F:=F) hg _ hgl;refine⟨⟨root,fN N⟩,h',?_,o3,o4⟩;rw[Bp,Hl hg,obs,hr,wv rfl,cond_false,zo,obs,hk,wv rfl,cond_false,decide_eq_false o_,cond_false,JD hg keep o_,obs,yV hg.len hg.chk,obs,o1,obs];dsimp only;rw[o2,obs]
end
section
theorem IC {l:List DElem}(ho:l.Pairwise SpO){keep:List Int}{n:Nat}{e:DElem}(he:e∈l):vU e∈zg l keep n↔e∈(l.filter (Fh keep)).take n:=by
 unfold zg;rw[J_];constructor
 . rintro⟨y,hy,hs⟩;have hyl:y∈l:=(g_.1 (List.mem_of_mem_take hy)).1;rw[<-Kg ho hyl he hs];exact hy
 . intro h;exact⟨e,h,rfl⟩
theorem JE {l:List DElem}(ho:l.Pairwise SpO){keep:List Int}{n:Nat}(hn:l.length<=n):l.filter (Bn (zg l keep n))=l.filter (λe=>xL e keep):=by
 refine List.filter_congr λe he=>?_;have ht:(l.filter (Fh keep)).take n=l.filter (Fh keep):=n9 (X_ (F_ _ _) hn);have h1:Bn (zg l keep n) e=true↔vU e∉zg l keep n:=by unfold Bn;simp
 have h2:Fh keep e=true↔xL e keep=false:=by unfold Fh;simp
 rw[W_,h1,IC ho he,ht,g_,h2];cases xL e keep <;> simp[he]
variable {F:Nat} [Big F]
theorem Gw {t:DTree}{l:List DElem}(f:Fine t l){keep:List Int}(hk:xl keep=0):∃t1 h1 m,nt F (DTree.mk t.root t.nodes) keep 400=some (t1,m,0)/\Good t1 h1/\vS t1.nodes h1 t1.root=DJ l keep:=by obtain⟨h,g,rfl⟩:=f.good;obtain⟨t1,h1,a1,a2,a3⟩:=Dc (F:=F) g (xn.2 f.run) hk 400;rw[JE (Cz g) f.run.len] at a3;refine⟨t1,h1,_,a1,a2,?_⟩;rw[a3,DJ,if_pos (BE.2 ⟨f.run,hk⟩)]
theorem I0 {t:DTree}{l:List DElem}(f:Fine t l){keep:List Int}(hk:xl keep≠0):nt F (DTree.mk t.root t.nodes) keep 400=some (DTree.mk 0 [],0,xl keep):=by rw[Bp,show lz F (DTree.mk t.root t.nodes)=some 0 from f.check,vT,show ((0:Int) !=0)=false from rfl,vY,zo,vT,wH hk,wi]
theorem Ht (P:List ByteArray)(W:List DWrite){t:DTree}{l:List DElem}(f:Fine t l){keep:List Int}(hk:xl keep=0):∃t',kY F P W t.root t.nodes keep=some (t'.root,t'.nodes,0)/\Fine t' (DJ l keep):=by obtain⟨t1,h1,m,a1,a2,a3⟩:=Gw (F:=F) f hk;obtain⟨t',b1,b2⟩:=Bu (F:=F) P W (t:=t) a2 (by rw[a3];exact Iw (BE.2 ⟨f.run,hk⟩));unfold kY;rw[a1,vT];dsimp only;rw[b1,vT];rw[a3] at b2;exact⟨t',rfl,b2⟩
theorem Hs (P:List ByteArray)(W:List DWrite){t:DTree}{l:List DElem}(f:Fine t l){keep:List Int}(hk:xl keep≠0):kY F P W t.root t.nodes keep=some (t.root,t.nodes,xl keep):=by unfold kY;rw[I0 f hk,vT];dsimp only;rw[GF (t1:=DTree.mk 0 []) P W hk,vT]
end
section
open Go.ChangeShapes
theorem zr (F:Nat)[Big F](l:List DElem)(keep:List Int)(k0:DS 56 okElem l)(k1:DS 8 (zX .i64) keep):ma F l keep=some true:=by
 unfold ma;rw[Lb,vT];obtain⟨t1,a1,f1⟩:=CT (F:=F) KW;rw[a1,vT];dsimp only;rw[show j6 F (DTree.mk t1.root t1.nodes)=_ from f1.all,vT,vT];dsimp only;rw[show ((([⟨⟨0,0,1⟩,1,0,R_ #[97]⟩]:List DElem).length:Int) !=1)=false from rfl,vY,yU,vT];by_cases hr:AA l=0
 . have hR:=xn.1 hr;have hlen:=hR.len;obtain⟨t,c1,f⟩:=CT (F:=F) hR;have fl:=Bw (F:=F) Gg f o_;have kn:=Gg.next f o_;have fl2:=Bw (F:=F) kn f o_;have kn2:=kn.next f o_;generalize P4 0 BI (wU t) (Aw BI t.nodes)=R1 at fl kn fl2 kn2;generalize P4 (0+1) R1 (wU t) (Aw R1 t.nodes)=R2 at fl2 kn2;rw[wv hr,vY,c1,vT];dsimp only;rw[fl,vT];dsimp only;rw[fl2,vT];dsimp only;rw[show (((0:Int) !=0)||((0:Int) !=0))=false from rfl,vY,EW kn2.len,vT,i_,i_,BJ kn2 f,vT];dsimp only;rw[EW kn2.len,vT,i_,i_,BJ kn2 f,vT];dsimp only;rw[show j6 F (DTree.mk t.root t.nodes)=_ from f.all,vT,vT];dsimp only;rw[zv l o_,vT,Q_,vY,vT];rw[zv l o_,vT,vT,Q_,vY,Ee,vT];dsimp only;have hke:AG l keep=xl keep:=by unfold AG;rw[if_neg (λh=>h hr)]
   rw[hke];by_cases hk:xl keep=0
   . obtain⟨t',d1,f'⟩:=Ht (F:=F) R2 [] f hk;have fl3:=Bw (F:=F) kn2 f' o_;have kn3:=kn2.next f' o_;have hkl:=f'.run.len;rw[d1,vT];dsimp only;rw[hk,show ((0:Int) !=0)=false from rfl,vY,vY,fl3,vT];dsimp only;rw[show ((0:Int) !=0)=false from rfl,vY,EW kn3.len,vT,i_,i_,BJ kn3 f',vT];dsimp only;rw[show j6 F (DTree.mk t'.root t'.nodes)=_ from f'.all,vT,vT];dsimp only;rw[zv _ o_,vT]
   . rw[Hs R2 [] f hk,vT];dsimp only;rw[show (xl keep !=xl keep)=false by rw[bne,beq_self_eq_true];rfl,vY,wH hk,wi,show j6 F (DTree.mk t.root t.nodes)=_ from f.all,vT,vT];dsimp only;rw[zv l o_,vT]
 . rw[wH hr,wi]
end
section
open Go.RowKit
theorem J4:ownKnob Tryz.prog.godebug=none:=by kernel_rfl
theorem IU:laidOutB Tryz.prog=true:=by kernel_rfl
theorem LM:ym Tryz.prog 24 vR okKey:=II Tryz.underlying24 (by kernel_rfl) rfl (by kernel_rfl) (yZ Tryz.underlying3) rfl (by kernel_rfl) (yZ Tryz.underlying3) rfl (by kernel_rfl) (yZ Tryz.underlying3)
theorem LO:ym Tryz.prog 28 eElem okElem:=Hh Tryz.underlying28 (by kernel_rfl) rfl (by kernel_rfl) LM rfl (by kernel_rfl) (yZ Tryz.underlying3) rfl (by kernel_rfl) (yZ Tryz.underlying3) rfl (by kernel_rfl) (IJ Tryz.underlying9)
theorem LL:ym Tryz.prog 22 (ku eElem) (DS 56 okElem):=DT Tryz.underlying22 (by kernel_rfl) (by kernel_rfl) LO
theorem LP:ym Tryz.prog 66 (ku hO) (DS 8 (zX .i64)):=DT Tryz.underlying66 (by kernel_rfl) (by kernel_rfl) (yZ Tryz.underlying3)
set_option maxRecDepth 100000
def orderSigns:List Char:=[.ofNat 104,.ofNat 97,.ofNat 114,.ofNat 110,.ofNat 101,.ofNat 115,.ofNat 115,.ofNat 32,.ofNat 56,.ofNat 55,.ofNat 52,.ofNat 53,.ofNat 49,.ofNat 51,.ofNat 54,.ofNat 50,.ofNat 97,.ofNat 100,.ofNat 55,.ofNat 101,.ofNat 102,.ofNat 56,.ofNat 99,.ofNat 51,.ofNat 57,.ofNat 50,.ofNat 101,.ofNat 100,.ofNat 53,.ofNat 57,.ofNat 100,.ofNat 54,.ofNat 50,.ofNat 56,.ofNat 55,.ofNat 102,.ofNat 97,.ofNat 48,.ofNat 49,.ofNat 55,.ofNat 100,.ofNat 102,.ofNat 53,.ofNat 50,.ofNat 56,.ofNat 56,.ofNat 54,.ofNat 101,.ofNat 50,.ofNat 56,.ofNat 52,.ofNat 100,.ofNat 51,.ofNat 48,.ofNat 101,.ofNat 53,.ofNat 49,.ofNat 53,.ofNat 50,.ofNat 99,.ofNat 98,.ofNat 54,.ofNat 97,.ofNat 57,.ofNat 100,.ofNat 51,.ofNat 50,.ofNat 100,.ofNat 48,.ofNat 99,.ofNat 97,.ofNat 53,.ofNat 32,.ofNat 99,.ofNat 117,.ofNat 116,.ofNat 32,.ofNat 97,.ofNat 116,.ofNat 32,.ofNat 97,.ofNat 110,.ofNat 110,.ofNat 97,.ofNat 108,.ofNat 105,.ofNat 115,.ofNat 116,.ofNat 47,.ofNat 97,.ofNat 110,.ofNat 110,.ofNat 97,.ofNat 108,.ofNat 107,.ofNat 101,.ofNat 101,.ofNat 112,.ofNat 46,.ofNat 83,.ofNat 116,.ofNat 111,.ofNat 114,.ofNat 101,.ofNat 79,.ofNat 119,.ofNat 110,.ofNat 32,.ofNat 97,.ofNat 110,.ofNat 110,.ofNat 97,.ofNat 108,.ofNat 105,.ofNat 115,.ofNat 116,.ofNat 47,.ofNat 97,.ofNat 110,.ofNat 110,.ofNat 97,.ofNat 108,.ofNat 107,.ofNat 101,.ofNat 101,.ofNat 112,.ofNat 46,.ofNat 83,.ofNat 116,.ofNat 111,.ofNat 114,.ofNat 101,.ofNat 83,.ofNat 116,.ofNat 101,.ofNat 112,.ofNat 115,.ofNat 32,.ofNat 97,.ofNat 110,.ofNat 110,.ofNat 97,.ofNat 108,.ofNat 105,.ofNat 115,.ofNat 116,.ofNat 47,.ofNat 97,.ofNat 110,.ofNat 110,.ofNat 97,.ofNat 108,.ofNat 107,.ofNat 101,.ofNat 101,.ofNat 112,.ofNat 46,.ofNat 83,.ofNat 116,.ofNat 111,.ofNat 114,.ofNat 101,.ofNat 72,.ofNat 111,.ofNat 108,.ofNat 100,.ofNat 115,.ofNat 32,.ofNat 97,.ofNat 110,.ofNat 110,.ofNat 97,.ofNat 108,.ofNat 105,.ofNat 115,.ofNat 116,.ofNat 47,.ofNat 97,.ofNat 110,.ofNat 110,.ofNat 97,.ofNat 108,.ofNat 107,.ofNat 101,.ofNat 101,.ofNat 112,.ofNat 46,.ofNat 83,.ofNat 116,.ofNat 111,.ofNat 114,.ofNat 101,.ofNat 76,.ofNat 97,.ofNat 122,.ofNat 121,.ofNat 32,.ofNat 97,.ofNat 110,.ofNat 110,.ofNat 97,.ofNat 108,.ofNat 105,.ofNat 115,.ofNat 116,.ofNat 47,.ofNat 97,.ofNat 110,.ofNat 110,.ofNat 97,.ofNat 108,.ofNat 107,.ofNat 101,.ofNat 101,.ofNat 112,.ofNat 46,.ofNat 83,.ofNat 116,.ofNat 111,.ofNat 114,.ofNat 101,.ofNat 65,.ofNat 103,.ofNat 97,.ofNat 105,.ofNat 110]
theorem Hi:Tryz.prog.initOrder = "harness 87451362ad7ef8c392ed59d6287fa017df52886e284d30e5152cb6a9d32d0ca5 cut at annalist/annalkeep.StoreOwn annalist/annalkeep.StoreSteps annalist/annalkeep.StoreHolds annalist/annalkeep.StoreLazy annalist/annalkeep.StoreAgain":=by kernel_rfl
theorem Gk:("harness 87451362ad7ef8c392ed59d6287fa017df52886e284d30e5152cb6a9d32d0ca5 cut at annalist/annalkeep.StoreOwn annalist/annalkeep.StoreSteps annalist/annalkeep.StoreHolds annalist/annalkeep.StoreLazy annalist/annalkeep.StoreAgain" : String)=String.ofList orderSigns:=by kernel_rfl
theorem BN:Tryz.prog.initOrder.toList=orderSigns:=by rw[Hi,Gk];exact String.toList_ofList
theorem KK (P:Program)(h:P.initOrder.toList=orderSigns):P.make=some .cut:=by unfold Program.make Program.headLifts;rw[h];kernel_rfl
theorem JO (P:Program)(h:P.initOrder.toList=orderSigns):P.liftsFinal=false:=by unfold Program.liftsFinal Program.headLifts;rw[h];kernel_rfl
theorem Jw (P:Program)(h:P.initOrder.toList=orderSigns)(h1:P.laysLater=false)(h2:P.bearsReflect=false)(h3:P.doorFits []=true):P.mayEnter=true:=by
 unfold Program.mayEnter
 rw[h,h1,h2]
 have e:(stripLifts liftWords (behindMainWord (wordsSigns orderSigns))).1=[]:=by kernel_rfl
 have e0:behindMainWord (wordsSigns orderSigns) = "cut".toList::(behindMainWord (wordsSigns orderSigns)).tail:=by kernel_rfl
 rw[e0] at e ⊢
 dsimp only
 rw[e,h3]
 clear h h1 h2 h3
 change _=true
 kernel_rfl
theorem IV:Tryz.prog.make=some .cut:=KK _ BN
theorem Hq:Tryz.prog.liftsFinal=false:=JO _ BN
theorem Ho:Tryz.prog.mayEnter=true:=Jw _ BN (by kernel_rfl) (by kernel_rfl) (by kernel_rfl)
end
end
end Go.Proofs.YtnofgfobljadbaaGreat
