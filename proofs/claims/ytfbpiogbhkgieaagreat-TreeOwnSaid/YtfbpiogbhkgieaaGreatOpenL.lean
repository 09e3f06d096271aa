/- Plain Lean: what the editors' contracts compute is what the plain laws speak of. Its conditions: none. -/
import Derived.Test.YtfbpiogbhkgieaaGreatFrFL
import Derived.Test.YtfbpiogbhkgieaaGreatPRemL
import Derived.Test.YtfbpiogbhkgieaaGreatCpFL
import Derived.Test.YtfbpiogbhkgieaaGreatLookFL
import Derived.Test.YtfbpiogbhkgieaaGreatGrowILL
import Derived.Test.YtfbpiogbhkgieaaGreatRangeL
import Derived.Test.YtfbpiogbhkgieaaGreatFindSFL
import Derived.Test.YtfbpiogbhkgieaaGreatRunFL
import Derived.Test.YtfbpiogbhkgieaaGreatMTreeL
import Derived.Test.YtfbpiogbhkgieaaGreatStepFL
import Derived.Test.YtfbpiogbhkgieaaGreatWrHFL
import Derived.Test.YtfbpiogbhkgieaaGreatWrPFL
import Derived.Test.YtfbpiogbhkgieaaGreatWrCFL
import Derived.Test.YtfbpiogbhkgieaaGreatEqLL
import Derived.Test.YtfbpiogbhkgieaaGreatPruneFL
import Derived.Test.YtfbpiogbhkgieaaGreatTrFL
import Derived.Test.YtfbpiogbhkgieaaGreatWTreeOwnFL
import Derived.Test.YtfbpiogbhkgieaaGreatRows
namespace Go.Proofs.YtfbpiogbhkgieaaGreat
set_option linter.unusedSimpArgs false
set_option linter.unusedVariables false
section
variable {F:Nat}
theorem AJ {α:Type}(x:Option α):(x.bind fun z=>some z)=x:=by cases x <;> rfl
theorem yI (root:Int)(N:NL)(i:Int)(e:DElem):jC F root N i e=nS (xf F e) F (N,i):=AJ _
theorem Di (root:Int)(N:NL)(i:Int)(e:DElem):kr F root N i e=nS (xW F e) F (N,i):=by
 refine Eq.trans ?_ (AJ (nS (xW F e) F (N,i)))
 refine congrArg (fun g=>(nS g F (N,i)).bind fun z=>some z) (funext fun rf=>funext fun x=>?_)
 rfl
theorem DI (root:Int)(N:NL)(e:DElem):km F root N e=Bk F e N root:=by
 unfold km Bk
 rw [Di]
 rfl
theorem ya (N:NL)(i:Int):(iZ N i).length=N.length:=List.length_set
theorem ET {N:NL}{a b:Int}{x y:DNode}(h:a.toNat≠b.toNat):jq (jq (iZ (iZ N a) b) a x) b y=jq (jq (iZ N a) a x) b y:=by
 unfold jq
 rw [show iZ (iZ N a) b=(iZ N a).set b.toNat (.inl ((((iZ N a)[b.toNat]?).map qZ).getD 0)) from rfl,List.set_comm _ _ (Ne.symm h),List.set_set]
theorem CT {N M:NL}{i:Int}(h:N.length=M.length):kH N i=kH M i:=by unfold kH;rw [h]
theorem Fp {N:NL}{a b:Int}{n:DNode}(h:j6 (iZ N a) b=some n):a.toNat≠b.toNat:=fun e=>by
 obtain⟨_,h2⟩:=mF h
 rw [← e] at h2
 have hl:a.toNat<N.length:=by
  have:=(ggs.1 h2).1
  rwa [ya] at this
 unfold iZ at h2
 rw [List.getElem?_set_self hl] at h2
 cases h2
theorem EL (n m:DNode)(s:DSpot):lI n.kind n.elems n.kids n.seps n.tids m.kind m.elems m.kids m.seps m.tids s=Bx n m s:=rfl
theorem EE (root:Int)(n:DNode)(r10 r11:Int)(N:NL):ku F root N n.kind n.elems n.kids n.seps (n.tids.set r10.toNat r11) r10=(zy F n r10 r11 N).bind fun z=>some (z.2.2.2,z.1,z.2.1,z.2.2.1):=by
 unfold ku zy
 rw [Option.bind_assoc]
 refine congrArg (Option.bind _) (funext fun z=>?_)
 rw [Option.bind_assoc]
 refine congrArg (Option.bind _) (funext fun a=>?_)
 rw [Option.bind_assoc]
 refine congrArg (Option.bind _) (funext fun b=>?_)
 rw [Option.bind_assoc]
 cases h1:j6 N a with
 | none=>rfl
 | some n1 =>
 rw [obs,obs,Option.bind_assoc]
 cases h2:j6 (iZ N a) b with
 | none=>rfl
 | some n2 =>
 have hne:=Fp h2
 rw [obs,obs,Option.bind_assoc]
 refine congrArg (Option.bind _) (funext fun x=>?_)
 rw [Option.bind_assoc,EL]
 refine congrArg (Option.bind _) (funext fun X=>?_)
 rw [Option.bind_assoc]
 have hh : ∀ q,kH (iZ (iZ N a) b) q=kH (iZ N a) q:=fun q=>CT (ya _ _)
 have hp : ∀ q y,kH (jq (iZ (iZ N a) b) a y) q=kH (jq (iZ N a) a y) q:=fun q y=>CT (by rw [t8,t8,ya])
 simp only [hh,hp,ET hne]
 refine Eq.trans (b:=(Eg F n r10 r11 N z a b n1 n2 X).bind fun z'=>(j6 z'.2.2.2 a).bind fun n7=>(jm F n7).bind fun r24=>(idx z'.2.2.1 z).bind fun _=>some (z'.2.2.2,z'.1,z'.2.1,z'.2.2.1.set z.toNat r24)) rfl ?_
 refine congrArg (Option.bind _) (funext fun q=>?_)
 obtain⟨q1,q2,q3,q4⟩:=q
 dsimp only
 rw [Option.bind_assoc]
 refine congrArg (Option.bind _) (funext fun n7=>?_)
 rw [Option.bind_assoc]
 refine congrArg (Option.bind _) (funext fun g=>?_)
 rw [Option.bind_assoc]
 rfl
set_option maxHeartbeats 4000000 in
theorem Dx (root:Int)(N:NL)(i:Int)(s:DSpot):kg F root N i s=nS (zn F s) F (N,i):=by
 refine Eq.trans ?_ (AJ (nS (zn F s) F (N,i)))
 refine congrArg (fun g=>(nS g F (N,i)).bind fun z=>some z) (funext fun rf=>funext fun x=>?_)
 obtain⟨x1,x2⟩:=x
 show Option.bind (j6 x1 x2) _=Option.bind (j6 x1 x2) _
 cases j6 x1 x2 with
 | none=>rfl
 | some n =>
 rw [obs,obs]
 refine congr (congrArg (fun a b=>bif n.kind == 1 then a else b) ?_) ?_
 · exact congrArg (fun q=>Option.bind q _) (show _=EB F n.elems s from rfl)
 · refine congrArg (Option.bind _) (funext fun w=>?_)
   refine congrArg (Option.bind _) (funext fun k=>?_)
   refine congrArg (Option.bind _) (funext fun N2=>?_)
   refine congrArg (Option.bind _) (funext fun k2=>?_)
   refine congrArg (Option.bind _) (funext fun n4=>?_)
   refine congrArg (Option.bind _) (funext fun g=>?_)
   refine congrArg (Option.bind _) (funext fun t=>?_)
   refine congrFun (congrArg Option.bind ?_) _
   unfold EU
   cases decide ((IntKind.i64.wrap ((n4.elems.length:Int)+(n4.kids.length:Int)))<4) with
   | false=>rfl
   | true =>
    rw [cond_true,cond_true,EE,Option.bind_assoc]
    refine congrArg (Option.bind _) (funext fun q=>?_)
    obtain⟨q1,q2,q3,q4⟩:=q
    rfl
theorem B4 (root:Int)(N:NL)(s:DSpot):kM F root N s=AX F s N root:=by
 unfold kM AX
 rw [Dx]
end
section
variable {F:Nat} [Big F]
theorem AU {n:DNode}(h:uv n=0):nU n=some n:=by
 obtain⟨h1,h2⟩:=vh h
 have h3:n.seps.length≤8∧n.tids.length≤8:=by
  rcases uy.1 h with h | h | h
  · rw [h.2.2.2.1,h.2.2.2.2];simp
  · rw [h.2.seps,h.2.tids];simp
  · have:=h.2.seps;have:=h.2.tids;omega
 unfold nU
 rw [tJ (by simp;omega) (by simp;omega),obs,tJ (by simp;omega) (by simp;omega),obs,tJ (by simp;omega) (by simp;omega),obs,tJ (by simp;omega) (by simp;omega),obs]
 rfl
theorem zo {N:NL}(h : ∀(j:Nat) (k:Int),N[j]?≠some (.inl k)):mW N=some (fN N):=by
 have e:N=(fN N).map Sum.inr:=List.ext_getElem? fun j=>by
  rw [List.getElem?_map,xi]
  cases hj:N[j]? with
  | none=>rfl
  | some x =>
   cases x with
   | inl k=>exact absurd hj (h j k)
   | inr n=>rfl
 conv=>lhs;rw [e]
 exact tx _
theorem uO {t:DTree}(hl:t.nodes.length≤400)(hc : ∀ n∈t.nodes,uv n=0):kG F t=some t:=by
 unfold kG
 rw [rQ (fun k=>((t.nodes.take k).map (Sum.inr:DNode→Int ⊕ DNode),(k:Int))) t.nodes.length (by simp) (by omega) (fun k hk=>?_) (r:=t.nodes.map Sum.inr) ?_,obs,tx,obs]
 · dsimp only
   rw [decide_eq_false (by omega),cond_false,List.take_length]
 · have hg:t.nodes[k]? = some t.nodes[k]:=gge hk
   have hr:pG 104 (((t.nodes.take k).map (Sum.inr:DNode→Int ⊕ DNode)).length+1)=some ():=by
    unfold pG;rw [List.length_map,List.length_take,if_pos ⟨by omega,by unfold maxLen;omega⟩]
   dsimp only
   rw [decide_eq_true (by omega),cond_true,tz,hg,obs,AU (hc _ (List.getElem_mem _)),obs,hr,obs,w64 (by omega) (by omega),List.take_add_one,hg,List.map_append]
   rfl
def nlT (t:DTree):NL:=t.nodes.map Sum.inr
theorem uL (t:DTree):fN (nlT t)=t.nodes:=Fe _
theorem yU {t:DTree}{j:Nat}{x:Int ⊕ DNode}(h:(nlT t)[j]? = some x):∃ n,t.nodes[j]? = some n∧x = .inr n:=by
 unfold nlT at h
 rw [List.getElem?_map] at h
 obtain⟨n,hn,rfl⟩:=Option.map_eq_some_iff.1 h
 exact⟨n,hn,rfl⟩
theorem zz {t:DTree}{h:Nat}(g:Good t h):va (nlT t):=fun n hn=>by rw [uL] at hn;exact g.chk n hn
theorem xl {t:DTree}{h:Nat}(g:Good t h):uk (fN (nlT t)) h t.root (mOf 0 h) topS:=by
 rw [uL];exact(zv g.chk h t.root 0 topS (Int.le_refl _)).1 g.ok
theorem Bp {α:Type}{p:α→Bool}:∀ {N:List α} {K:List Nat},K.Nodup→(∀(j:Nat) (x:α),N[j]? = some x→p x=true→j∈K)→N.countP p≤K.length
 | [],K,_,_=>Nat.zero_le _
 | a::N,K,hn,h=>by
  have hK : ∀(j:Nat) (x:α),N[j]? = some x→p x=true→j∈(K.filter (fun j=>j != 0)).map (· - 1):=fun j x hx hp =>
   List.mem_map.2 ⟨j+1,List.mem_filter.2 ⟨h (j+1) x (by simpa using hx) hp,by simp⟩,by simp⟩
  have hnd:((K.filter (fun j=>j != 0)).map (· - 1)).Nodup:=by
   unfold List.Nodup
   rw [List.pairwise_map]
   refine((hn.filter _).imp_of_mem fun {a b} ha hb hab e=>hab ?_)
   have h1:=(List.mem_filter.1 ha).2
   have h2:=(List.mem_filter.1 hb).2
   simp only [bne_iff_ne,ne_eq] at h1 h2
   omega
  have ih:=Bp hnd hK
  rw [List.length_map] at ih
  rw [List.countP_cons]
  by_cases hp:p a=true
  · have h0:0∈K:=h 0 a rfl hp
    have hlt:(K.filter (fun j=>j != 0)).length<K.length:=List.length_filter_lt_length_iff_exists.2 ⟨0,h0,by simp⟩
    rw [if_pos hp];omega
  · have:=List.length_filter_le (fun j=>j != 0) K
    rw [if_neg hp];omega
theorem Dg {t:DTree}{h:Nat}(g:Good t h):used (nlT t)≤(ids t.nodes h t.root).length:=by
 refine Bp g.nodup fun j x hx hp=>?_
 obtain⟨n,hn,rfl⟩:=yU hx
 have hlt:=(ggs.1 hn).1
 exact g.all j hlt (by rw [yw hn];exact vW.1 hp)
theorem EG {ns:List DNode}(hns : ∀ n∈ns,uv n=0):∀ {h:Nat} {i:Int} {s:Span},uk ns h i 4 s→3*(ids ns h i).length+1≤(tX ns h i).length:=by
 intro h
 induction h with
 | zero =>
  intro i s c
  have:=c.2.2.1
  simp only [ids,tX,List.length_singleton];omega
 | succ h ih =>
  intro i s c
  rw [ids,tX,List.length_cons,List.length_flatMap,List.length_flatMap]
  have key : ∀ l:List Int,(∀ k∈l,3*(ids ns h k).length+1≤(tX ns h k).length)→3*(l.map fun a=>(ids ns h a).length).sum+l.length≤(l.map fun a=>(tX ns h a).length).sum:=by
   intro l
   induction l with
   | nil=>intro _;simp
   | cons a l ihl =>
    intro hk
    have:=ihl fun k h=>hk k (List.mem_cons_of_mem _ h)
    have:=hk a List.mem_cons_self
    simp only [List.map_cons,List.sum_cons,List.length_cons];omega
  have:=key (nd ns i).kids fun k hk=>by obtain ⟨t,s',x,_⟩:=c.2.2.2.mem k hk;exact ih x.1
  have:=c.2.2.1
  omega
theorem D5 {t:DTree}{h:Nat}(g:Good t h)(hl:(tX t.nodes h t.root).length≤400):(ids t.nodes h t.root).length≤134∧h<134:=by
 have hh:=xU g.chk h t.root 0 topS g.ok
 have c:=xl g
 rw [uL] at c
 have:(ids t.nodes h t.root).length≤134:=by
  cases h with
  | zero=>simp [ids]
  | succ h =>
   have key : ∀ l:List Int,(∀ k∈l,3*(ids t.nodes h k).length+1≤(tX t.nodes h k).length)→3*(l.map fun a=>(ids t.nodes h a).length).sum+l.length≤(l.map fun a=>(tX t.nodes h a).length).sum:=by
    intro l
    induction l with
    | nil=>intro _;simp
    | cons a l ihl =>
     intro hk
     have:=ihl fun k h=>hk k (List.mem_cons_of_mem _ h)
     have:=hk a List.mem_cons_self
     simp only [List.map_cons,List.sum_cons,List.length_cons];omega
   have h1:=key (nd t.nodes t.root).kids fun k hk=>by obtain ⟨t',s',x,_⟩:=c.2.2.2.mem k hk;exact EG g.chk x.1
   have h2:2≤(nd t.nodes t.root).kids.length:=by have:=c.2.2.1;unfold mOf at this;simpa using this
   rw [tX,List.length_flatMap] at hl
   rw [ids,List.length_cons,List.length_flatMap]
   omega
 omega
theorem zt {N:NL}{h:Nat}{root:Int}(hc:va N)(hl:N.length≤400)(c:uk (fN N) h root (mOf 0 h) topS)(hn:(ids (fN N) h root).Nodup)(hall : ∀(j:Nat) (x:Int ⊕ DNode),N[j]? = some x→qZ x≠0→j∈ids (fN N) h root):Good ⟨root,fN N⟩ h:=by
 refine⟨by show (fN N).length≤400;rw [uf];exact hl,hc,(zv hc h root 0 topS (Int.le_refl _)).2 c,hn,fun i hi hk=>?_⟩
 have hi' : i<(fN N).length:=hi
 rw [uf] at hi'
 have hg:N[i]? = some N[i]:=gge hi'
 refine hall i _ hg fun h0=>hk ?_
 have:nd (fN N) (i:Int)=fN1 N[i]:=by unfold nd;rw [Int.toNat_natCast,xi,hg];rfl
 rw [this]
 cases hx:N[i] with
 | inl k=>rfl
 | inr n=>rw [hx] at h0;exact h0
theorem Fk (d:Int)(h:Nat):mOf d h≤4:=by
 unfold mOf
 split
 · exact Nat.le_refl _
 · split <;> omega
theorem BG {t:DTree}{h:Nat}(g:Good t h){N' : NL}{K:List Nat}{c:Nat}(f:Fr2 (nlT t) N' (ids (fN (nlT t)) h t.root) K c)(hK : ∀ j∈K,∃ n:DNode,N'[j]? = some (.inr n)∧n.kind≠0):∀(j:Nat) (k:Int),N'[j]?≠some (.inl k):=fun j k hj=>by
 have hold : ∀(j:Nat) (x:Int ⊕ DNode),(nlT t)[j]? = some x→qZ x≠0→j∈ids (fN (nlT t)) h t.root:=fun j x hx hk=>by
  obtain⟨n,hn,rfl⟩:=yU hx
  rw [uL]
  exact g.all j (ggs.1 hn).1 (by rw [yw hn];exact hk)
 by_cases hk:k=0
 · subst hk
   obtain⟨n,_,h⟩:=yU (f.zero j hj)
   cases h
 · rcases f.all j _ hj hk with h | ⟨h,y,hy,hyk⟩
   · obtain⟨n,hn,_⟩:=hK j h
     rw [hn] at hj;cases hj
   · exact h (hold j y hy hyk)
theorem CO {t:DTree}{h:Nat}(g:Good t h){N' : NL}{K:List Nat}{c:Nat}(f:Fr2 (nlT t) N' (ids (fN (nlT t)) h t.root) K c):∀(j:Nat) (x:Int ⊕ DNode),N'[j]? = some x→qZ x≠0→j∈K:=fun j x hx hk=>by
 rcases f.all j x hx hk with h | ⟨h,y,hy,hyk⟩
 · exact h
 · obtain⟨n,hn,rfl⟩:=yU hy
   exact absurd (by rw [uL];exact g.all j (ggs.1 hn).1 (by rw [yw hn];exact hyk)) h
theorem Ao {t:DTree}{h:Nat}{e:DElem}(g:Good t h)(he:ui e=0)(hne : ∀ x∈tX t.nodes h t.root,tY x≠tY e)(hl:(tX t.nodes h t.root).length≤400) :
 ∃(root:Int) (N:NL),Bk F e (nlT t) t.root=some (root,N)∧mW N=some (fN N)∧∃ h',Good ⟨root,fN N⟩ h'∧tX (fN N) h' root=AQ (tX t.nodes h t.root) e:=by
 obtain⟨f1,f2⟩:=D5 g hl
 have hu:=Dg g
 have hF:=(inferInstance:Big F).le
 have c:=xl g
 have hsort:=(uX g.chk h t.root 0 topS g.ok).1
 have hlen:(nlT t).length≤400:=by unfold nlT;rw [List.length_map];exact g.len
 obtain⟨N',sp,r,b,hrun,hpost⟩:=D6 (F:=F) he h F (nlT t) t.root (mOf 0 h) topS (by omega) (zz g) hlen (by omega) c (by rw [uL];exact g.nodup) rfl (by rw [uL];exact hne)
 have sorted : ∀ {ns:List DNode} {h' : Nat} {root:Int},Good ⟨root,ns⟩ h'→(∀ x,x∈tX ns h' root↔x=e∨x∈tX t.nodes h t.root)→tX ns h' root=AQ (tX t.nodes h t.root) e:=fun {ns h' root} gg hm=>by
  refine Bc (uX gg.chk h' root 0 topS gg.ok).1 (ze hsort e) fun x=>?_
  rw [hm x,BF]
  constructor
  · rintro(h | h)
    · exact .inl h
    · exact .inr ⟨h,hne x h⟩
  · rintro(h | h)
    · exact .inl h
    · exact .inr h.1
 unfold Bk
 rw [hrun,obs]
 dsimp only
 rcases hpost with ⟨rfl,P⟩ | ⟨rfl,hsp,P⟩
 · obtain⟨k,t',e1,e2,x⟩:=P.ch
   obtain rfl:t.root=k:=by simpa using e1
   have hK : [t.root].flatMap (ids (fN N') h)=ids (fN N') h t.root:=List.flatMap_singleton ..
   have fr:=P.fr
   rw [hK] at fr
   have hcap:N'.length≤400:=by have:=fr.cap;have:=fr.use;omega
   have gg:=zt fr.chk hcap x.1 fr.nodup (CO g fr)
   refine⟨t.root,N',rfl,zo (BG g fr x.1.used),h,gg,sorted gg fun y=>?_⟩
   have:=P.elems y
   rw [List.flatMap_singleton,uL] at this
   exact this
 · obtain⟨k,ks',t',ts',e1,e2,i1,x,k2,t2,e3,e4,y⟩:=P.ch
   obtain⟨rfl,rfl⟩ : t.root=k∧[r]=ks':=by simpa using e1
   obtain rfl:r=k2:=by simpa using e3
   have hK : [t.root,r].flatMap (ids (fN N') h)=ids (fN N') h t.root++ids (fN N') h r:=by simp
   have fr:=P.fr
   rw [hK] at fr
   have hcap:N'.length≤400:=by have:=fr.cap;have:=fr.use;omega
   have hKu : ∀ q∈ids (fN N') h t.root++ids (fN N') h r,∃ n:DNode,N'[q]? = some (.inr n)∧n.kind≠0:=fun q hq=>by
    rcases List.mem_append.1 hq with hq | hq
    · exact x.1.used q hq
    · exact y.1.used q hq
   obtain⟨N2,j,hT,tk⟩:=BW (F:=F) (N:=N') ⟨2,[],[t.root,r],[sp],[uh (nd (fN N') t.root),uh (nd (fN N') r)]⟩ (by omega)
   have cc:Ch (yj (fN N') h) [sp] topS [t.root,r] [uh (nd (fN N') t.root),uh (nd (fN N') r)]:=⟨t.root,[r],_,_,rfl,rfl,i1,⟨x.1,rfl⟩,r,_,rfl,rfl,⟨y.1,rfl⟩⟩
   have hck:=uH (n:=⟨2,[],[t.root,r],[sp],[uh (nd (fN N') t.root),uh (nd (fN N') r)]⟩) rfl (vG fr.chk hcap cc (by simp) (by simp) (List.pairwise_singleton _ _) (by simpa using hsp))
   have fr2:=fr.take tk (yZ _ _ _ _) hck fun q hq=>by obtain ⟨n,hn,hk⟩:=hKu q hq;exact⟨_,hn,hk⟩
   have hlen2:N'.length≤N2.length:=by rcases tk.len with h | ⟨h,_⟩ <;> omega
   have hjK : ∀ q∈ids (fN N') h t.root++ids (fN N') h r,N2[q]? = N'[q]?:=fun q hq=>tk.same q fun e=>by
    subst e
    obtain⟨n,hn,hk⟩:=hKu q hq
    exact absurd (tk.free _ hn) hk
   obtain⟨a1,a2,a3⟩:=vc hlen2 cc fun q hq=>hjK q (by rw [hK] at hq;exact hq)
   have hnd:nd (fN N2) (j:Int)=⟨2,[],[t.root,r],[sp],[uh (nd (fN N') t.root),uh (nd (fN N') r)]⟩:=xc (by rw [Int.toNat_natCast];exact tk.at_)
   have hjl:j<N2.length:=(ggs.1 tk.at_).1
   have hids:ids (fN N2) (h+1) (j:Int)=j::(ids (fN N') h t.root++ids (fN N') h r):=by
    rw [ids,hnd,Int.toNat_natCast]
    show j::[t.root,r].flatMap _=_
    rw [a2,hK]
   have sub:uk (fN N2) (h+1) (j:Int) (mOf 0 (h+1)) topS:=⟨by rw [uf];omega,by rw [hnd],by rw [hnd];unfold mOf;simp,by rw [hnd];exact a1⟩
   rw [← hids] at fr2
   have hcap2:N2.length≤400:=by have:=fr2.cap;have:=fr2.use;omega
   have gg:=zt fr2.chk hcap2 sub fr2.nodup (CO g fr2)
   refine⟨(j:Int),N2,?_,zo (BG g fr2 sub.used),h+1,gg,sorted gg fun z=>?_⟩
   · rw [Bool.not_true,cond_false,x.1.node.1,obs,y.1.node.1,obs,uP fr.chk x.1.range,obs,uP fr.chk y.1.range,obs,Bd,hT,obs]
   · have:=P.elems z
     rw [uL] at this
     rw [← this,tX,hnd]
     show z∈[t.root,r].flatMap _↔_
     rw [a3]
theorem yk {t:DTree}{h:Nat}{e:DElem}(g:Good t h)(he:ui e=0) :
 ∃ N:NL,nS (xf F e) F (nlT t,t.root)=some N∧mW N=some (fN N)∧Good ⟨t.root,fN N⟩ h∧tX (fN N) h t.root=(tX t.nodes h t.root).map (vu e):=by
 have hF:=(inferInstance:Big F).le
 have hh:=vk g
 obtain⟨N,hrun,P⟩:=DR (F:=F) he h F (nlT t) t.root (mOf 0 h) topS (by omega) (zz g) (xl g) (by rw [uL];exact g.nodup) rfl
 have hn:(ids (fN N) h t.root).Nodup:=by rw [P.ids,uL];exact g.nodup
 have hin : ∀(j:Nat) (x:Int ⊕ DNode),N[j]? = some x→(∃ n,x = .inr n)∧(qZ x≠0→j∈ids (fN N) h t.root):=fun j x hx=>by
  by_cases hj:j∈ids (fN N) h t.root
  · obtain⟨n,hn,_⟩:=P.sub.used j hj
    rw [hn] at hx
    exact⟨⟨n,(Option.some.inj hx).symm⟩,fun _=>hj⟩
  · rw [P.out j (by rw [← P.ids];exact hj)] at hx
    obtain⟨n,hn,rfl⟩:=yU hx
    exact⟨⟨n,rfl⟩,fun hk=>by
     rw [P.ids,uL]
     exact g.all j (ggs.1 hn).1 (by rw [yw hn];exact hk)⟩
 refine⟨N,hrun,zo fun j k hj=>?_,zt P.chk ?_ P.sub hn fun j x hx=>(hin j x hx).2,?_⟩
 · obtain⟨⟨n,hn⟩,_⟩:=hin j _ hj
   cases hn
 · rw [P.len];unfold nlT;rw [List.length_map];exact g.len
 · rw [P.elems,uL]
def wg (e:DElem)(l:List DElem):Bool:=l.any fun x=>tY x == tY e
theorem DL {e:DElem}{l:List DElem}:wg e l=true↔∃ x∈l,tY x=tY e:=by
 unfold wg;rw [List.any_eq_true]
 constructor
 · rintro⟨x,hx,h⟩;exact⟨x,hx,by simpa using h⟩
 · rintro⟨x,hx,h⟩;exact⟨x,hx,by simpa using h⟩
theorem Ez {e:DElem}{l:List DElem}(h:wg e l=false):∀ x∈l,tY x≠tY e:=fun x hx hs=>by
 rw [DL.2 ⟨x,hx,hs⟩] at h;cases h
theorem xg (e:DElem)(a b:List DElem):wg e (a++b)=(wg e a||wg e b):=List.any_append
def FG (ns:List DNode)(m:Nat)(x:Bool × Int × Int):Prop:=zf ns m x.2.2∧0≤x.2.1∧x.2.1+((ug ns m x.2.2).length:Int)≤100000
def C8 (ns:List DNode)(e:DElem)(m:Nat)(x:Bool × Int × Int):Bool × Int:=(x.1||wg e (ug ns m x.2.2),x.2.1+((ug ns m x.2.2).length:Int))
theorem Ar {α β:Type}(f:α→List β){l:List α}{k:Nat}(hk:k<l.length):(l.take (k+1)).flatMap f=(l.take k).flatMap f++f l[k]∧((l.take k).flatMap f).length+(f l[k]).length≤(l.flatMap f).length:=by
 have h1:(l.take (k+1)).flatMap f=(l.take k).flatMap f++f l[k]:=by
  rw [List.take_add_one,gge hk,List.flatMap_append];simp
 refine⟨h1,?_⟩
 have h2:l.flatMap f=(l.take (k+1)).flatMap f++(l.drop (k+1)).flatMap f:=by rw [← List.flatMap_append,List.take_append_drop]
 rw [h2,h1,List.length_append,List.length_append];omega
theorem vb {t:DTree}(hs : ∀ n∈t.nodes,Small n){h:Nat}(hg:Good t h){e:DElem}(he:ui e=0):mQ F t e=some (((tX t.nodes h t.root).length:Int),wg e (tX t.nodes h t.root),0):=by
 have hF:=(inferInstance:Big F).le
 have h4:=vk hg
 have hz:vz F t=0:=uS.2 ⟨h,hg⟩
 have hel:=wI hg.chk h F t.root 0 topS hg.ok (by omega)
 unfold mQ
 rw [uQ t hs,obs,sV hz,cond_false,uK,obs,sV he,cond_false]
 rw [wa (FG t.nodes) (C8 t.nodes e) ?h0 ?hstep F _ ?hpre]
 case h0 =>
  rintro⟨x1,x2,x3⟩ ⟨⟨h,d,s,hm,_⟩,_⟩
  omega
 case hpre=>exact ⟨⟨h,0,topS,by omega,hg.ok⟩,Int.le_refl _,by dsimp only;rw [hel];have:=vS hg;omega⟩
 case hstep =>
  rintro m self ih ⟨b,c,i⟩ ⟨hok,hc0,hc1⟩
  obtain⟨⟨i0,i1⟩,hkids⟩:=hok.kids hg.chk
  dsimp only at hc0 hc1 i0 i1 hkids
  obtain⟨e8,k8⟩:=vh (hg.chk _ (uZ i0 i1))
  rw [ug,List.length_append] at hc1
  dsimp only
  rw [wG i0 i1,obs]
  rw [rQ (fun k=>(b||wg e ((nd t.nodes i).elems.take k),c+(k:Int),(k:Int))) (nd t.nodes i).elems.length (r:=(b||wg e (nd t.nodes i).elems,c+((nd t.nodes i).elems.length:Int))) (by simp [wg]) (by omega) ?s1 ?e1]
  case s1 =>
   intro k hk
   have hgk:(nd t.nodes i).elems[k]? = some (nd t.nodes i).elems[k]:=gge hk
   dsimp only
   rw [decide_eq_true (by omega),cond_true,tz,hgk,obs,List.take_add_one,hgk,xg,w64 (by omega) (by omega),w64 (by omega) (by omega)]
   have e1:c+(k:Int)+1=c+((k+1:Nat):Int):=by omega
   have e2:(k:Int)+1=((k+1:Nat):Int):=by omega
   rw [e1,e2]
   cases hb:(b||wg e ((nd t.nodes i).elems.take k)) with
   | true=>rw [cond_true,obs,← Bool.or_assoc,hb];rfl
   | false =>
    rw [cond_false,ud,obs,ud,obs,obs,← Bool.or_assoc,hb,Bool.false_or]
    simp [wg]
  case e1 =>
   dsimp only
   rw [decide_eq_false (by omega),cond_false,List.take_length]
  rw [obs]
  dsimp only
  have hlen:((nd t.nodes i).kids.flatMap (ug t.nodes m)).length≤100000:=by omega
  rw [rQ (fun k=>(b||wg e (nd t.nodes i).elems||wg e (((nd t.nodes i).kids.take k).flatMap (ug t.nodes m)),c+((nd t.nodes i).elems.length:Int)+((((nd t.nodes i).kids.take k).flatMap (ug t.nodes m)).length:Int),(k:Int))) (nd t.nodes i).kids.length
   (r:=(b||wg e (nd t.nodes i).elems||wg e ((nd t.nodes i).kids.flatMap (ug t.nodes m)),c+((nd t.nodes i).elems.length:Int)+(((nd t.nodes i).kids.flatMap (ug t.nodes m)).length:Int))) (by simp [wg]) (by omega) ?s2 ?e2]
  case s2 =>
   intro k hk
   have hgk:(nd t.nodes i).kids[k]? = some (nd t.nodes i).kids[k]:=gge hk
   obtain⟨q1,q2⟩:=Ar (ug t.nodes m) hk
   dsimp only
   rw [decide_eq_true (by omega),cond_true,tz,hgk,obs,ih _ ⟨hkids _ (List.getElem_mem _),by dsimp only;omega,by dsimp only;omega⟩,obs]
   unfold C8
   dsimp only
   rw [q1,xg,List.length_append,w64 (by omega) (by omega),Bool.or_assoc,Int.add_assoc (c+_)]
   rfl
  case e2 =>
   dsimp only
   rw [decide_eq_false (by omega),cond_false,List.take_length]
  rw [obs]
  dsimp only
  unfold C8
  dsimp only
  rw [ug,xg,List.length_append,Bool.or_assoc]
  congr 2;omega
 rw [obs]
 dsimp only
 rw [obs]
 unfold C8
 dsimp only
 rw [hel,Bool.false_or,Int.zero_add]
theorem xN {t:DTree}(hs : ∀ n∈t.nodes,Small n)(hc:vz F t≠0)(e:DElem):mQ F t e=some (0,false,vz F t):=by
 unfold mQ
 rw [uQ t hs,obs,s9 hc,cond_true]
theorem yo {t:DTree}(hs : ∀ n∈t.nodes,Small n){h:Nat}(hg:Good t h){e:DElem}(he:ui e≠0):mQ F t e=some (0,false,ui e):=by
 unfold mQ
 rw [uQ t hs,obs,sV (uS.2 ⟨h,hg⟩),cond_false,uK,obs,s9 he,cond_true]
theorem Bq {t:DTree}{h:Nat}(g:Good t h):∀ e∈tX t.nodes h t.root,ui e=0:=fun e he=>((uX g.chk h t.root 0 topS g.ok).2 e he).2
theorem yM {t:DTree}{h:Nat}(g:Good t h):(tX t.nodes h t.root).Pairwise SpO:=(uX g.chk h t.root 0 topS g.ok).1
theorem uG {t:DTree}{h:Nat}(g:Good t h):∀ n∈t.nodes,Small n:=fun n hn=>vF (g.chk n hn)
def zT:DTree:=⟨0,[]⟩
omit [Big F] in
theorem zA (t:DTree)(e:DElem):mE F t e=(mQ F t e).bind fun r1=>bif (r1.2.2 != 0) then some (DTree.mk 0 [],r1.2.2) else bif r1.2.1 then some (DTree.mk 0 [],5) else bif decide ((400:Int)≤r1.1) then some (DTree.mk 0 [],8) else
 (kG F t).bind fun r2=>(Bk F e (nlT r2) r2.root).bind fun z=>match z with | (z1,z2)=>(mW z2).bind fun l1=>some (DTree.mk z1 l1,0)
 := by
 unfold mE
 simp only [DI]
 rfl
theorem yS {t:DTree}{h:Nat}{e:DElem}(g:Good t h)(he:ui e=0)(hne:wg e (tX t.nodes h t.root)=false)(hl:(tX t.nodes h t.root).length<400) :
 ∃ t' h',mE F t e=some (t',0)∧Good t' h'∧tX t'.nodes h' t'.root=AQ (tX t.nodes h t.root) e:=by
 obtain⟨root,N,h1,h2,h',h3,h4⟩:=Ao (F:=F) g he (Ez hne) (by omega)
 refine⟨⟨root,fN N⟩,h',?_,h3,h4⟩
 rw [zA,vb (uG g) g he,obs]
 dsimp only
 rw [sV rfl,cond_false,hne,cond_false,decide_eq_false (by omega),cond_false,uO g.len g.chk,obs,h1,obs]
 dsimp only
 rw [h2,obs]
theorem yQ {t:DTree}(hs : ∀ n∈t.nodes,Small n)(hc:vz F t≠0)(e:DElem):mE F t e=some (zT,vz F t):=by
 unfold mE
 rw [xN hs hc,obs]
 dsimp only
 rw [s9 hc,cond_true];rfl
theorem yP {t:DTree}{h:Nat}{e:DElem}(g:Good t h)(he:ui e≠0):mE F t e=some (zT,ui e):=by
 unfold mE
 rw [yo (uG g) g he,obs]
 dsimp only
 rw [s9 he,cond_true];rfl
theorem zi {t:DTree}{h:Nat}{e:DElem}(g:Good t h)(he:ui e=0)(ha:wg e (tX t.nodes h t.root)=true):mE F t e=some (zT,5):=by
 unfold mE
 rw [vb (uG g) g he,obs]
 dsimp only
 rw [sV rfl,cond_false,ha,cond_true];rfl
theorem yR {t:DTree}{h:Nat}{e:DElem}(g:Good t h)(he:ui e=0)(ha:wg e (tX t.nodes h t.root)=false)(hl:400≤(tX t.nodes h t.root).length):mE F t e=some (zT,8):=by
 unfold mE
 rw [vb (uG g) g he,obs]
 dsimp only
 rw [sV rfl,cond_false,ha,cond_false,decide_eq_true (by omega),cond_true];rfl
theorem yn {t:DTree}(hs : ∀ n∈t.nodes,Small n)(e:DElem):(∃ x,x≠0∧mE F t e=some (zT,x)) ∨
 ∃ h t' h',Good t h∧ui e=0∧wg e (tX t.nodes h t.root)=false∧(tX t.nodes h t.root).length<400∧mE F t e=some (t',0)∧Good t' h'∧tX t'.nodes h' t'.root=AQ (tX t.nodes h t.root) e:=by
 by_cases hc:vz F t=0
 rotate_left
 · exact .inl ⟨_,hc,yQ hs hc e⟩
 obtain⟨h,g⟩:=uS.1 hc
 by_cases he:ui e=0
 rotate_left
 · exact .inl ⟨_,he,yP g he⟩
 cases ha:wg e (tX t.nodes h t.root) with
 | true=>exact .inl ⟨5,by decide,zi g he ha⟩
 | false =>
  by_cases hl:(tX t.nodes h t.root).length<400
  · obtain⟨t',h',q1,q2,q3⟩:=yS (F:=F) g he ha hl
    exact .inr ⟨h,t',h',g,he,ha,hl,q1,q2,q3⟩
  · exact .inl ⟨8,by decide,yR g he ha (by omega)⟩
theorem Ae {t:DTree}{h:Nat}{e:DElem}(g:Good t h)(he:ui e=0)(hne:wg e (tX t.nodes h t.root)=true) :
 ∃ t',oU F t e=some (t',0)∧Good t' h∧tX t'.nodes h t'.root=(tX t.nodes h t.root).map (vu e):=by
 obtain⟨N,h1,h2,h3,h4⟩:=yk (F:=F) g he
 refine⟨⟨t.root,fN N⟩,?_,h3,h4⟩
 unfold oU
 rw [vb (uG g) g he,obs]
 dsimp only
 rw [sV rfl,cond_false,hne,Bool.not_true,cond_false,uO g.len g.chk,obs]
 rw [yI]
 show ((nS (xf F e) F (nlT t,t.root)).bind fun q1=>(mW q1).bind fun l1=>some ((DTree.mk t.root l1),0))=_
 rw [h1,obs,h2,obs]
theorem Br {t:DTree}{h:Nat}{e:DElem}(g:Good t h)(he:ui e≠0):oU F t e=some (⟨0,[]⟩,ui e):=by
 unfold oU
 rw [yo (uG g) g he,obs]
 dsimp only
 rw [s9 he,cond_true]
end
end Go.Proofs.YtfbpiogbhkgieaaGreat
namespace Go.Proofs.YtfbpiogbhkgieaaGreat
set_option linter.unusedVariables false
set_option linter.unusedSimpArgs false
section walks
variable {τ α β:Type} {F:Nat}
def ux (t:τ→α→τ × Nat):List α→τ→τ × Nat
 | [],a=>(a,0)
 | e::l,a=>if (t a e).2=0 then ux t l (t a e).1 else t a e
theorem vg (t:τ→α→τ × Nat):∀(l m:List α) (a:τ),ux t (l++m) a=if (ux t l a).2=0 then ux t m (ux t l a).1 else ux t l a
 | [],m,a=>by simp [ux]
 | e::l,m,a=>by
  rw [List.cons_append,ux,ux]
  by_cases h:(t a e).2=0
  · rw [if_pos h,if_pos h,vg t l m]
  · rw [if_neg h,if_neg h,if_neg h]
theorem wA (t:τ→α→τ × Nat)(p:α→Bool):∀(l:List α) (a:τ),ux (fun st e=>if p e then t st e else (st,0)) l a=ux t (l.filter p) a
 | [],a=>rfl
 | e::l,a=>by
  rw [ux]
  by_cases h:p e=true
  · rw [if_pos h,List.filter_cons_of_pos h,ux]
    by_cases h0:(t a e).2=0
    · rw [if_pos h0,if_pos h0,wA t p l]
    · rw [if_neg h0,if_neg h0]
  · rw [if_neg h,if_pos rfl,List.filter_cons_of_neg h,wA t p l]
theorem vn (t:τ→α→τ × Nat)(g:β→List α):∀(l:List β) (a:τ),ux (fun st k=>ux t (g k) st) l a=ux t (l.flatMap g) a
 | [],a=>rfl
 | b::l,a=>by
  rw [ux,List.flatMap_cons,vg,vn t g l]
theorem wN (t:τ→α→τ × Nat)(len:τ→Nat)(ht : ∀ a e,len (t a e).1≤len a+1):∀(l:List α) (a:τ),len (ux t l a).1≤len a+l.length
 | [],a=>Nat.le_refl _
 | e::l,a=>by
  rw [ux,List.length_cons]
  have h1:=ht a e
  by_cases h:(t a e).2=0
  · rw [if_pos h]
    have:=wN t len ht l (t a e).1
    omega
  · rw [if_neg h];omega
theorem wr {S R:Type}[Big F]{f:S→Option (S ⊕ R)}(t:τ→α→τ × Nat)(l:List α)(enc:τ→Int→S)(o0:τ→R)(o1:τ→Nat→R)(a:τ)(hn:l.length≤9223372036854775807){s:S}(h0:s=enc a 0)
 (hs : ∀(k:Nat) (e:α) (st:τ),l[k]? = some e→ux t (l.take k) a=(st,0)→f (enc st (k:Int))=some (jK (t st e).2 (.inl (enc (t st e).1 ((k:Int)+1))) (fun n=>.inr (o1 (t st e).1 n))))
 (he : ∀ st,ux t l a=(st,0)→f (enc st (l.length:Int))=some (.inr (o0 st))) :
 iter f F s=some (jK (ux t l a).2 (o0 (ux t l a).1) (fun n=>o1 (ux t l a).1 n)):=by
 subst h0
 have key : ∀(m k N:Nat) (st:τ),k+m=l.length→m<N→ux t (l.take k) a=(st,0)→iter f N (enc st (k:Int))=some (jK (ux t l a).2 (o0 (ux t l a).1) (fun n=>o1 (ux t l a).1 n)):=by
  intro m
  induction m with
  | zero =>
   intro k N st hk hN hr
   obtain⟨N,rfl⟩ : ∃ M,N=M+1:=⟨N-1,by omega⟩
   rw [List.take_of_length_le (by omega)] at hr
   rw [iter,show k=l.length by omega,he st hr,hr];rfl
  | succ m ih =>
   intro k N st hk hN hr
   obtain⟨N,rfl⟩ : ∃ M,N=M+1:=⟨N-1,by omega⟩
   have hkl:k<l.length:=by omega
   have hg:=gge hkl
   have hsplit:ux t l a=ux t (l[k]::l.drop (k+1)) st:=by
    have h1:=vg t (l.take k) (l.drop k) a
    rw [List.take_append_drop,hr,if_pos rfl,List.drop_eq_getElem_cons hkl] at h1
    exact h1
   rw [iter,hs k l[k] st hg hr]
   rw [ux] at hsplit
   cases hz:(t st l[k]).2 with
   | zero =>
    rw [iI]
    refine ih (k+1) N _ (by omega) (by omega) ?_
    rw [List.take_add_one,hg,vg,hr,if_pos rfl]
    show ux t [l[k]] st=_
    rw [ux,if_pos hz];rfl
   | succ n =>
    rw [if_neg (by omega)] at hsplit
    rw [iQ,hsplit,hz,iQ]
 exact key l.length 0 F a (by omega) (qJ hn) rfl
end walks
def geB (s:DSpot)(e:DElem):Bool:=decide (0≤cmpS (tY e) s)
def uT (ns:List DNode)(s:DSpot):Nat→Int→List DElem
 | 0,_=>[]
 | m+1,i=>(nd ns i).elems.filter (geB s)++(if (nd ns i).kind=1 then [] else ((nd ns i).kids.drop (vJ (nd ns i).seps s)).flatMap (uT ns s m))
theorem De (ns:List DNode)(s:DSpot):∀(m:Nat) (i:Int),(uT ns s m i).Sublist (ug ns m i):=by
 intro m
 induction m with
 | zero=>intro i;exact List.Sublist.refl _
 | succ m ih =>
  intro i
  rw [uT,ug]
  refine List.Sublist.append List.filter_sublist ?_
  split
  · exact List.nil_sublist _
  · have h1 : ∀ l : List Int, (l.flatMap (uT ns s m)).Sublist (l.flatMap (ug ns m)) := by
     intro l
     induction l with
     | nil=>exact List.Sublist.refl _
     | cons a l ihl=>rw [List.flatMap_cons,List.flatMap_cons];exact(ih a).append ihl
    refine(h1 _).trans ?_
    have h2 : ∀(l:List Int) (k:Nat),((l.drop k).flatMap (ug ns m)).Sublist (l.flatMap (ug ns m)):=by
     intro l k
     conv=>rhs;rw [← List.take_append_drop k l,List.flatMap_append]
     exact List.sublist_append_right _ _
    exact h2 _ _
theorem w8 {α β:Type}(p:β→Bool)(f:α→List β):∀ l:List α,(l.flatMap f).filter p=l.flatMap fun a=>(f a).filter p
 | []=>rfl
 | a::l=>by rw [List.flatMap_cons,List.flatMap_cons,List.filter_append,w8 p f l]
theorem D1 {ns:List DNode}(hns : ∀ n∈ns,uv n=0)(s:DSpot):∀(h m:Nat) (i d:Int) (sp:Span),okN ns h i d sp→h<m→uT ns s m i=(tX ns h i).filter (geB s):=by
 intro h
 induction h with
 | zero =>
  intro m i d sp hok hm
  obtain⟨m,rfl⟩ : ∃ q,m=q+1:=⟨m-1,by omega⟩
  rw [uT,tX,if_pos hok.2.1,List.append_nil]
 | succ h ih =>
  intro m i d sp hok hm
  obtain⟨m,rfl⟩ : ∃ q,m=q+1:=⟨m-1,by omega⟩
  have hI:=(vH hns hok.1 hok.2.1).2
  rw [uT,tX,if_neg hok.2.1.2,hI.elems,List.filter_nil,List.nil_append,w8]
  have hk : ∀ k∈(nd ns i).kids,uT ns s m k=(tX ns h k).filter (geB s):=fun k hk=>by
   obtain⟨q,hq⟩:=List.mem_iff_getElem?.1 hk
   exact ih m k _ _ (hok.2.2.2 (k,q) (wY hq)).1 (by omega)
  have hcong : ∀ l:List Int,(∀ k∈l,k∈(nd ns i).kids)→l.flatMap (uT ns s m)=l.flatMap fun k=>(tX ns h k).filter (geB s):=by
   intro l
   induction l with
   | nil=>intro _;rfl
   | cons a l ihl=>intro hl;rw [List.flatMap_cons,List.flatMap_cons,hk a (hl a List.mem_cons_self),ihl fun k hk=>hl k (List.mem_cons_of_mem _ hk)]
  rw [hcong _ fun k hk=>List.mem_of_mem_drop hk]
  have hnil:((nd ns i).kids.take (vJ (nd ns i).seps s)).flatMap (fun k=>(tX ns h k).filter (geB s))=[]:=by
   rw [List.flatMap_eq_nil_iff]
   intro k hk
   rw [List.mem_take_iff_getElem] at hk
   obtain⟨q,hq,rfl⟩:=hk
   rw [List.filter_eq_nil_iff]
   intro e he
   have hqk:(nd ns i).kids[q]? = some (nd ns i).kids[q]:=gge (by omega)
   have h1:=(hok.2.2.2 (_,q) (wY hqk)).1
   have h2:=((uX hns h _ _ _ h1).2 e he).1
   have hw:=zw (nd ns i).seps s
   have hx:(nd ns i).seps[q]? = some (nd ns i).seps[q]:=gge (by omega)
   have h3:=zI hx h2
   have h4:=(Bh (nd ns i).seps s).1 q _ (by omega) hx
   have h5:=vA h3 h4
   unfold geB
   rw [decide_eq_true_eq]
   omega
  conv=>rhs;rw [← List.take_append_drop (vJ (nd ns i).seps s) (nd ns i).kids,List.flatMap_append,hnil,List.nil_append]
def Ej {τ:Type}(ns:List DNode)(s:DSpot)(len:τ→Nat)(m:Nat)(x:τ × Int):Prop:=zf ns m x.2∧len x.1+(uT ns s m x.2).length≤100000
theorem AA {τ:Type}{t:DTree}{h:Nat}(hg:Good t h)(s:DSpot)(len:τ→Nat)(a:τ)(ha:len a=0){F:Nat}[Big F]:Ej t.nodes s len F (a,t.root):=by
 have hF:=(inferInstance:Big F).le
 have h4:=vk hg
 refine⟨⟨h,0,topS,by omega,hg.ok⟩,?_⟩
 dsimp only
 have h1:=(De t.nodes s F t.root).length_le
 rw [wI hg.chk h F t.root 0 topS hg.ok (by omega)] at h1
 have:=vS hg
 omega
theorem Au {t:DTree}{h:Nat}(hg:Good t h)(s:DSpot){F:Nat}[Big F]:uT t.nodes s F t.root=(tX t.nodes h t.root).filter (geB s):=by
 have hF:=(inferInstance:Big F).le
 have h4:=vk hg
 exact D1 hg.chk s h F t.root 0 topS hg.ok (by omega)
theorem BJ {τ:Type}{ns:List DNode}(hns : ∀ n∈ns,uv n=0){s:DSpot}{len:τ→Nat}{m:Nat}{a b:τ}{i:Int}(h:Ej ns s len (m+1) (a,i))(h1:(nd ns i).kind≠1){t:τ→DElem→τ × Nat}(ht : ∀ a e,len (t a e).1≤len a+1)
 (hb:ux t ((nd ns i).elems.filter (geB s)) a=(b,0)) {k:Nat} {e:Int} (hk:((nd ns i).kids.drop (vJ (nd ns i).seps s))[k]? = some e) {st:τ}
 (hr:ux (fun st k=>ux t (uT ns s m k) st) (((nd ns i).kids.drop (vJ (nd ns i).seps s)).take k) b=(st,0)):Ej ns s len m (st,e):=by
 have hkids:=(h.1.kids hns).2
 refine⟨hkids e (List.mem_of_mem_drop (List.mem_of_getElem? hk)),?_⟩
 rw [vn] at hr
 have q1:=wN t len ht ((nd ns i).elems.filter (geB s)) a
 rw [hb] at q1
 have q2:=wN t len ht ((((nd ns i).kids.drop (vJ (nd ns i).seps s)).take k).flatMap (uT ns s m)) b
 rw [hr] at q2
 have h2:=h.2
 dsimp only at q1 q2 h2 ⊢
 rw [uT,if_neg h1,List.length_append] at h2
 obtain⟨hkl,rfl⟩:=ggs.1 hk
 have h3:(((nd ns i).kids.drop (vJ (nd ns i).seps s)).flatMap (uT ns s m)).length=((((nd ns i).kids.drop (vJ (nd ns i).seps s)).take k).flatMap (uT ns s m)).length+(((((nd ns i).kids.drop (vJ (nd ns i).seps s)).drop k)).flatMap (uT ns s m)).length:=by
  rw [← List.length_append,← List.flatMap_append,List.take_append_drop]
 rw [List.drop_eq_getElem_cons hkl,List.flatMap_cons,List.length_append] at h3
 omega
theorem Ey {ns:List DNode}{i:Int}(hI:Inner (nd ns i))(s:DSpot):vJ (nd ns i).seps s≤(nd ns i).kids.length:=by
 have:=zw (nd ns i).seps s
 have:=hI.seps
 omega
end Go.Proofs.YtfbpiogbhkgieaaGreat
namespace Go.Proofs.YtfbpiogbhkgieaaGreat
set_option linter.unusedSimpArgs false
set_option linter.unusedVariables false
section
variable {F:Nat} [Big F]
abbrev FlatE:=Int × Int × Int × Int × Int × ByteArray
def Fw (e:DElem):FlatE:=(e.key.pfs,e.key.obj,e.key.off,e.made,e.gone,e.val)
def yE (s:DSpot)(st:FlatE)(e:DElem):FlatE × Nat:=if tY e=s then (Fw e,1) else (st,2)
def zR (l:List DElem)(s:DSpot):DElem × Int:=match l.head? with
 | none=>(BZ,4)
 | some e=>if tY e=s then (e,0) else (BZ,4)
theorem Ad {t:DTree}(hs : ∀ n∈t.nodes,Small n)(hc:vz F t≠0)(s:DSpot):nR F t s=some (BZ,vz F t):=by
 unfold nR
 rw [uQ t hs,obs,s9 hc,cond_true];rfl
theorem xj {t:DTree}(hs : ∀ n∈t.nodes,Small n){h:Nat}(hg:Good t h)(s:DSpot):nR F t s=some (zR ((tX t.nodes h t.root).filter (geB s)) s):=by
 have hz:vz F t=0:=uS.2 ⟨h,hg⟩
 have hlen : ∀(a:FlatE) (e:DElem),(fun _:FlatE=>0) (yE s a e).1≤(fun _:FlatE=>0) a+1:=fun _ _=>Nat.zero_le _
 unfold nR
 rw [uQ t hs,obs,sV hz,cond_false]
 rw [wa (σ:=Int × Int × Int × Int × Int × ByteArray × Int) (fun m x=>match x with | (x1,x2,x3,x4,x5,x6,x7)=>Ej t.nodes s (fun _:FlatE=>0) m ((x1,x2,x3,x4,x5,x6),x7))
  (fun m x=>match x with | (x1,x2,x3,x4,x5,x6,x7)=>let r:=ux (yE s) (uT t.nodes s m x7) (x1,x2,x3,x4,x5,x6);(r.2,r.1)) ?h0 ?hstep F _ (AA hg s (fun _=>0) _ rfl)]
 case h0 =>
  rintro⟨x1,x2,x3,x4,x5,x6,x7⟩ ⟨⟨h,d,s,hm,_⟩,_⟩
  omega
 case hstep =>
  rintro m self ih ⟨x1,x2,x3,x4,x5,x6,x7⟩ hpre
  dsimp only at hpre
  obtain⟨⟨h0,h1⟩,hkids⟩:=hpre.1.kids hg.chk
  dsimp only at h0 h1 hkids ⊢
  have hmem:=uZ h0 h1
  obtain⟨h8,h8'⟩:=vh (hg.chk _ hmem)
  rw [wG h0 h1,obs]
  rw [wr (fun st e=>if geB s e then yE s st e else (st,0)) (nd t.nodes x7).elems (fun (st:FlatE) k=>(st.1,st.2.1,st.2.2.1,st.2.2.2.1,st.2.2.2.2.1,st.2.2.2.2.2,k)) Sum.inl (fun st n=>Sum.inr (n+1,st)) (x1,x2,x3,x4,x5,x6) (by omega) rfl ?hs ?he]
  case hs =>
   rintro k e ⟨y1,y2,y3,y4,y5,y6⟩ hk hr
   have hkl:=(ggs.1 hk).1
   dsimp only
   rw [decide_eq_true (by omega),cond_true,tz,hk,obs,ud,obs,uo,obs,w64 (by omega) (by omega)]
   unfold geB
   by_cases hge:0≤cmpS (tY e) s
   · rw [decide_eq_true hge,cond_true,if_pos rfl,obs]
     unfold yE
     by_cases hn:tY e=s
     · rw [if_pos hn,show (tY e == s)=true by simpa using hn];rfl
     · rw [if_neg hn,show (tY e == s)=false by simpa using hn];rfl
   · rw [decide_eq_false hge,cond_false,if_neg (by simp)];rfl
  case he =>
   rintro⟨y1,y2,y3,y4,y5,y6⟩ hr
   dsimp only
   rw [decide_eq_false (by omega)];rfl
  rw [obs,wA,uT]
  cases hb:ux (yE s) ((nd t.nodes x7).elems.filter (geB s)) (x1,x2,x3,x4,x5,x6) with
  | mk b c =>
   rw [vg,hb]
   cases c with
   | succ c=>rfl
   | zero =>
    obtain⟨b1,b2,b3,b4,b5,b6⟩:=b
    dsimp only [jK]
    rw [if_pos rfl]
    by_cases hk:(nd t.nodes x7).kind=1
    · rw [if_pos hk,show ((nd t.nodes x7).kind == 1)=true by simpa using hk];rfl
    · rw [if_neg hk,show ((nd t.nodes x7).kind == 1)=false by simpa using hk,cond_false]
      have hw:vJ (nd t.nodes x7).seps s≤(nd t.nodes x7).kids.length:=by
       rcases uy.1 (hg.chk _ hmem) with q | q | q
       · rw [q.2.2.2.1];exact Nat.zero_le _
       · exact absurd q.1 hk
       · exact Ey q.2 s
      rw [vD _ s (hs _ hmem),obs,sO hw,obs]
      rw [wr (fun st k=>ux (yE s) (uT t.nodes s m k) st) ((nd t.nodes x7).kids.drop (vJ (nd t.nodes x7).seps s)) (fun (st:FlatE) k=>(st.1,st.2.1,st.2.2.1,st.2.2.2.1,st.2.2.2.2.1,st.2.2.2.2.2,k)) Sum.inl (fun st n=>Sum.inr (n+1,st)) (b1,b2,b3,b4,b5,b6) (by rw [List.length_drop];omega) rfl ?hs2 ?he2]
      case hs2 =>
       rintro k e ⟨y1,y2,y3,y4,y5,y6⟩ hk2 hr
       have hkl:=(ggs.1 hk2).1
       rw [List.length_drop] at hkl
       dsimp only
       rw [decide_eq_true (by rw [List.length_drop];omega),cond_true,tz,hk2,obs,ih (y1,y2,y3,y4,y5,y6,e) (BJ hg.chk hpre hk hlen hb hk2 hr),obs,w64 (by omega) (by omega)]
       dsimp only
       cases hc:ux (yE s) (uT t.nodes s m e) (y1,y2,y3,y4,y5,y6) with
       | mk y c=>cases c <;> rfl
      case he2 =>
       rintro⟨y1,y2,y3,y4,y5,y6⟩ hr
       dsimp only
       rw [decide_eq_false (by omega)];rfl
      rw [obs,vn]
      cases hc:ux (yE s) (((nd t.nodes x7).kids.drop (vJ (nd t.nodes x7).seps s)).flatMap (uT t.nodes s m)) (b1,b2,b3,b4,b5,b6) with
      | mk y c=>cases c <;> rfl
 rw [obs]
 dsimp only
 rw [Au hg s]
 generalize (tX t.nodes h t.root).filter (geB s)=l
 unfold zR
 cases l with
 | nil=>rfl
 | cons e l =>
  rw [ux]
  unfold yE
  dsimp only [List.head?]
  by_cases hn:tY e=s
  · rw [if_pos hn,if_pos hn,if_neg (by simp)];rfl
  · rw [if_neg hn,if_neg hn,if_neg (by simp)];rfl
end
section
variable {F:Nat} [Big F]
theorem xz {t:DTree}{h h' : Nat}{root' : Int}{N' : NL}(g:Good t h)(len:N'.length=(nlT t).length)(out : ∀ j:Nat,j ∉ ids t.nodes h t.root→N'[j]? = (nlT t)[j]?)(chk:va N')(sub:uk (fN N') h' root' (mOf 0 h') topS)
 (perm : ∃ Z,(ids t.nodes h t.root).Perm (Z++ids (fN N') h' root')∧∀ j∈Z,N'[j]? = some (.inr zN)):mW N' = some (fN N')∧Good ⟨root',fN N'⟩ h':=by
 obtain⟨Z,hZ,hz⟩:=perm
 have key : ∀(j:Nat) (x:Int ⊕ DNode),N'[j]? = some x→(∃ n,x = .inr n)∧(qZ x≠0→j∈ids (fN N') h' root'):=fun j x hx=>by
  by_cases hj:j∈ids t.nodes h t.root
  · rcases List.mem_append.1 (hZ.mem_iff.1 hj) with hj | hj
    · rw [hz j hj] at hx
      obtain rfl:=Option.some.inj hx
      exact⟨⟨_,rfl⟩,fun hk=>absurd rfl hk⟩
    · obtain⟨n,hn,_⟩:=sub.used j hj
      rw [hn] at hx
      exact⟨⟨n,(Option.some.inj hx).symm⟩,fun _=>hj⟩
  · rw [out j hj] at hx
    obtain⟨n,hn,rfl⟩:=yU hx
    exact⟨⟨n,rfl⟩,fun hk=>absurd (g.all j (ggs.1 hn).1 (by rw [yw hn];exact hk)) hj⟩
 refine⟨zo fun j k hj=>?_,zt chk ?_ sub ?_ fun j x hx=>(key j x hx).2⟩
 · obtain⟨⟨n,hn⟩,_⟩:=key j _ hj
   cases hn
 · rw [len];unfold nlT;rw [List.length_map];exact g.len
 · exact(List.nodup_append.1 (hZ.nodup_iff.1 g.nodup)).2.1
theorem BN {N:NL}{i:Int}{n:DNode}(h:N[i.toNat]? = some (.inr n)):jq (iZ N i) i n=N:=by
 refine List.ext_getElem? fun j=>?_
 by_cases hj:j=i.toNat
 · subst hj
   rw [uE _ (by rw [tZ];exact(ggs.1 h).1),h]
 · rw [uj _ hj,uu _ hj]
theorem yW {t:DTree}{h:Nat}{sp:DSpot}(g:Good t h) :
 ∃(root:Int) (N:NL),AX F sp (nlT t) t.root=some (N,root)∧mW N=some (fN N)∧∃ h',Good ⟨root,fN N⟩ h'∧tX (fN N) h' root=(tX t.nodes h t.root).filter (vM sp):=by
 have hF:=(inferInstance:Big F).le
 have hfu:=vk g
 have hc:=zz g
 have c:=xl g
 have hlen:(nlT t).length≤400:=by unfold nlT;rw [List.length_map];exact g.len
 have hnd:(ids (fN (nlT t)) h t.root).Nodup:=by rw [uL];exact g.nodup
 have hr:=c.range
 rw [uf] at hr
 unfold AX
 cases h with
 | zero =>
  obtain⟨N',hrun,P⟩:=BO (F:=F) sp 0 F (nlT t) t.root 0 topS (by omega) hc hlen (.inl rfl) c hnd rfl
  have c' : uk (fN N') 0 t.root 0 topS:=P.sub
  have L:=c'.leaf P.chk
  obtain⟨q1,q2⟩:=c'.node
  obtain⟨r1,r2⟩:=xz g P.len (fun j hj=>P.out j (by rw [uL];exact hj)) P.chk c' (by obtain ⟨Z,hZ,hz⟩:=P.perm;rw [uL] at hZ;exact⟨Z,hZ,hz⟩)
  refine⟨t.root,N',?_,r1,0,r2,by rw [P.elems,uL]⟩
  rw [hrun,obs,q1,obs,L.kids,show (((([]:List Int).length:Int)) == 1)=false from rfl,cond_false,obs,BN q2]
 | succ h =>
  obtain⟨f,hf⟩ : ∃ f,F=f+1:=⟨F-1,by omega⟩
  obtain⟨N3,K,X,T,hrun,M⟩:=CZ (F:=F) (BO sp h) (mf:=f) (by omega) hc hlen c hnd rfl
  rw [← hf] at hrun
  have hids:ids t.nodes (h+1) t.root=t.root.toNat::(nd t.nodes t.root).kids.flatMap (ids t.nodes h):=rfl
  have hels:tX t.nodes (h+1) t.root=(nd t.nodes t.root).kids.flatMap (tX t.nodes h):=rfl
  have hMe:=M.elems
  obtain⟨Z,hZ,hz⟩:=M.perm
  rw [uL] at hMe hZ
  have hn1:=g.nodup
  rw [hids] at hn1
  obtain⟨n1,n2⟩:=List.nodup_cons.1 hn1
  have hl3:=M.len
  have h2:2≤(nd t.nodes t.root).kids.length:=by have:=c.2.2.1;rw [uL] at this;unfold mOf at this;simpa using this
  have hmore:=M.more
  rw [uL] at hmore
  have hget:(jq N3 t.root ⟨2,[],K,X,T⟩)[t.root.toNat]? = some (.inr ⟨2,[],K,X,T⟩):=uE _ (by rw [hl3];omega)
  have hnode:j6 (jq N3 t.root ⟨2,[],K,X,T⟩) t.root=some ⟨2,[],K,X,T⟩:=by
   unfold j6
   rw [if_neg (by omega),hget];rfl
  rw [hrun,obs,hnode,obs]
  dsimp only
  by_cases h1:K.length=1
  · obtain⟨k,rfl⟩:=List.length_eq_one_iff.1 h1
    obtain⟨X0,hX0⟩ : ∃ X0,X0=X:=⟨_,rfl⟩
    have hXl:=M.ch.lens.1
    obtain rfl:X=[]:=List.eq_nil_of_length_eq_zero (by simpa using hXl)
    obtain⟨k',t',e1,e2,q⟩:=M.ch
    obtain rfl:k=k':=by simpa using e1
    have hkn : ∀ j∈ids (fN N3) h k,j≠t.root.toNat:=fun j hj e=>n1 (hZ.mem_iff.2 (List.mem_append_right _ (by rw [List.flatMap_singleton,← e];exact hj)))
    have hN:jq (iZ (jq N3 t.root ⟨2,[],[k],[],T⟩) t.root) t.root zN=jq N3 t.root zN:=by
     unfold jq iZ
     rw [List.set_set,List.set_set]
    obtain⟨a1,a2,a3,a4⟩:=uk.agree (N':=jq N3 t.root zN) (by rw [t8];exact Nat.le_refl _) q.1 fun j hj=>uj N3 (hkn j hj)
    rw [List.flatMap_singleton] at hMe hZ
    obtain⟨r1,r2⟩:=xz (root':=k) g (by rw [t8];exact hl3) (fun j hj=>by
     have:=M.out j (by rw [uL];exact hj)
     rw [hids,List.mem_cons,not_or] at hj
     rw [uj N3 hj.1,this]) (M.chk.put CL) (a1.weak (Fk 0 h)) ⟨t.root.toNat::Z,by rw [hids,a2];exact List.Perm.cons _ hZ,fun j hj=>by
     rcases List.mem_cons.1 hj with rfl | hj
     · exact uE _ (by rw [hl3];omega)
     · rw [uj N3 (show j≠t.root.toNat from fun e=>n1 (hZ.mem_iff.2 (List.mem_append_left _ (by rw [← e];exact hj))))]
       exact hz j hj⟩
    refine⟨k,jq N3 t.root zN,?_,r1,h,r2,by rw [a3,hMe,hels]⟩
    rw [show ((([k]:List Int).length:Int) == 1)=true from rfl,cond_true,wC (by rw [tZ,t8,hl3];exact hr),obs,show idx [k] 0=some k from rfl,obs,obs]
    dsimp only
    exact congrArg (fun q=>some (q,k)) hN
  · have P:=C0 hlen c hc hnd M (by omega)
    have h2K:2≤K.length:=by omega
    have hck:=uH (n:=⟨2,[],K,X,T⟩) rfl (vG M.chk (by rw [hl3];exact hlen) M.ch h2K (by have:=M.few;rw [uL] at this;have:=(c.inner hc).eight;rw [uL] at this;omega) M.ord M.ok)
    have hnd2:=xc hget
    have c' : uk (fN (jq N3 t.root ⟨2,[],K,X,T⟩)) (h+1) t.root (mOf 0 (h+1)) topS :=
     ⟨P.sub.1,P.sub.2.1,by rw [hnd2];unfold mOf;simpa using h2K,P.sub.2.2.2⟩
    obtain⟨r1,r2⟩:=xz g P.len (fun j hj=>P.out j (by rw [uL];exact hj)) P.chk c' (by obtain ⟨Z,hZ,hz⟩:=P.perm;rw [uL] at hZ;exact⟨Z,hZ,hz⟩)
    refine⟨t.root,_,?_,r1,h+1,r2,by rw [P.elems,uL]⟩
    rw [show ((K.length:Int) == 1)=false by rw [beq_eq_false_iff_ne];omega,cond_false,obs,BN hget]
theorem Dy {l:List DElem}{s:DSpot}(ho:l.Pairwise SpO)(hs : ∃ x∈l,tY x=s):(zR (l.filter (geB s)) s).2=0:=by
 obtain⟨x,hx,hxs⟩:=hs
 have hm:x∈l.filter (geB s):=List.mem_filter.2 ⟨hx,by unfold geB;rw [hxs,ue.refl];rfl⟩
 have ho' : (l.filter (geB s)).Pairwise SpO:=ho.filter _
 unfold zR
 cases hl:l.filter (geB s) with
 | nil=>rw [hl] at hm;cases hm
 | cons y r =>
  have hy:geB s y=true:=(List.mem_filter.1 (show y∈l.filter (geB s) by rw [hl];exact List.mem_cons_self)).2
  rw [hl] at hm ho'
  have e:tY y=s:=by
   rcases List.mem_cons.1 hm with rfl | hm
   · exact hxs
   · have h1:cmpS (tY y) (tY x)<0:=(List.pairwise_cons.1 ho').1 x hm
     unfold geB at hy
     have h2:0≤cmpS (tY y) s:=by simpa using hy
     rw [hxs] at h1
     omega
  show (if tY y=s then (y,(0:Int)) else (BZ,4)).2=0
  rw [if_pos e]
omit [Big F] in
theorem vV (t:DTree)(s:DSpot):lY F t s=(nR F t s).bind fun r1=>bif (r1.2 != 0) then some (DTree.mk 0 [],r1.2) else
 (kG F t).bind fun r2=>(AX F s (nlT r2) r2.root).bind fun z=>match z with | (z1,z2)=>(mW z1).bind fun l1=>some (DTree.mk z2 l1,0)
 := by
 unfold lY
 simp only [B4]
 rfl
theorem yg {t:DTree}{h:Nat}{s:DSpot}(g:Good t h)(hs : ∃ x∈tX t.nodes h t.root,tY x=s) :
 ∃ t' h',lY F t s=some (t',0)∧Good t' h'∧tX t'.nodes h' t'.root=(tX t.nodes h t.root).filter (vM s):=by
 obtain⟨root,N,h1,h2,h',h3,h4⟩:=yW (F:=F) (sp:=s) g
 refine⟨⟨root,fN N⟩,h',?_,h3,h4⟩
 have hf:=Dy (yM g) hs
 rw [vV,xj (uG g) g,obs,hf,sV rfl,cond_false,uO g.len g.chk,obs,h1,obs]
 dsimp only
 rw [h2,obs]
theorem Ft {l:List DElem}{r:Nat}{x:DElem}(ho:l.Pairwise SpO)(hx:l[r]? = some x):l.filter (vM (tY x))=l.take r++l.drop (r+1):=by
 obtain⟨hr,he⟩:=ggs.1 hx
 have e:=wT l hr
 rw [he] at e
 have hnx:vM (tY x) x=false:=by unfold vM;simp
 have ho':=ho
 rw [e] at ho'
 obtain⟨o1,o2,o3⟩:=List.pairwise_append.1 ho'
 conv=>lhs;rw [e]
 rw [List.filter_append,List.filter_cons,if_neg (by rw [hnx];decide),yy,yy]
 · intro y hy hs
   have h1:cmpS (tY x) (tY y)<0:=(List.pairwise_cons.1 o2).1 y hy
   rw [hs,ue.refl] at h1;omega
 · intro y hy hs
   have h1:cmpS (tY y) (tY x)<0:=o3 y hy x List.mem_cons_self
   rw [hs,ue.refl] at h1;omega
end
section
def Eh {τ:Type}(ns:List DNode)(len:τ→Nat)(m:Nat)(x:τ × Int):Prop:=zf ns m x.2∧len x.1+(ug ns m x.2).length≤100000
theorem Dt {τ:Type}{t:DTree}{h:Nat}(hg:Good t h)(len:τ→Nat)(a:τ)(ha:len a=0){F:Nat}[Big F]:Eh t.nodes len F (a,t.root):=by
 have hF:=(inferInstance:Big F).le
 have h4:=vk hg
 refine⟨⟨h,0,topS,by omega,hg.ok⟩,?_⟩
 dsimp only
 rw [wI hg.chk h F t.root 0 topS hg.ok (by omega)]
 have:=vS hg
 omega
theorem yL {t:DTree}{h:Nat}(hg:Good t h){F:Nat}[Big F]:ug t.nodes F t.root=tX t.nodes h t.root:=by
 have hF:=(inferInstance:Big F).le
 have h4:=vk hg
 exact wI hg.chk h F t.root 0 topS hg.ok (by omega)
theorem CD {τ:Type}{ns:List DNode}{len:τ→Nat}{m:Nat}{a:τ}{i:Int}(h:Eh ns len (m+1) (a,i)){t:τ→DElem→τ × Nat}(ht : ∀ a e,len (t a e).1≤len a+1){k:Nat}{e:DElem}(hk:(nd ns i).elems[k]? = some e){st:τ}
 (hr:ux t ((nd ns i).elems.take k) a=(st,0)):len st≤100000:=by
 have h1:=wN t len ht ((nd ns i).elems.take k) a
 rw [hr] at h1
 have h2:=h.2
 dsimp only at h1 h2
 rw [ug,List.length_append] at h2
 have h3:=(List.take_sublist k (nd ns i).elems).length_le
 omega
theorem Ei {τ:Type}{ns:List DNode}(hns : ∀ n∈ns,uv n=0){len:τ→Nat}{m:Nat}{a b:τ}{i:Int}(h:Eh ns len (m+1) (a,i)){t:τ→DElem→τ × Nat}(ht : ∀ a e,len (t a e).1≤len a+1)
 (hb:ux t (nd ns i).elems a=(b,0)) {k:Nat} {e:Int} (hk:(nd ns i).kids[k]? = some e) {st:τ}
 (hr:ux (fun st k=>ux t (ug ns m k) st) ((nd ns i).kids.take k) b=(st,0)):Eh ns len m (st,e):=by
 have hkids:=(h.1.kids hns).2
 refine⟨hkids e (List.mem_of_getElem? hk),?_⟩
 rw [vn] at hr
 have q1:=wN t len ht (nd ns i).elems a
 rw [hb] at q1
 have q2:=wN t len ht (((nd ns i).kids.take k).flatMap (ug ns m)) b
 rw [hr] at q2
 have h2:=h.2
 dsimp only at q1 q2 h2 ⊢
 rw [ug,List.length_append] at h2
 obtain⟨hkl,rfl⟩:=ggs.1 hk
 have h3:((nd ns i).kids.flatMap (ug ns m)).length=(((nd ns i).kids.take k).flatMap (ug ns m)).length+(((nd ns i).kids.drop k).flatMap (ug ns m)).length:=by
  rw [← List.length_append,← List.flatMap_append,List.take_append_drop]
 rw [List.drop_eq_getElem_cons hkl,List.flatMap_cons,List.length_append] at h3
 omega
end
section
variable {F:Nat} [Big F]
def yi (l:List Int):Int:=if 20<l.length then 2 else if l.all fun t=>decide (0≤t)&&decide (t≤2147483647) then 0 else 9
theorem BX {l:List Int}:yi l=0↔l.length≤20∧∀ t∈l,0≤t∧t≤2147483647:=by
 unfold yi
 split
 · constructor
   · intro h;cases h
   · intro h;omega
 · split
   · rename_i h1 h2
     rw [List.all_eq_true] at h2
     refine⟨fun _=>⟨by omega,fun t ht=>by simpa using h2 t ht⟩,fun _=>rfl⟩
   · rename_i h1 h2
     constructor
     · intro h;cases h
     · intro h;exfalso;apply h2;rw [List.all_eq_true];intro t ht;simpa using h.2 t ht
theorem xw (l:List Int):mJ F l=some (yi l):=by
 unfold mJ yi
 by_cases h:20<l.length
 · rw [if_pos h,decide_eq_true (by omega),cond_true]
 · rw [if_neg h,decide_eq_false (by omega),cond_false]
   rw [sX l (fun t=>if (decide (0≤t)&&decide (t≤2147483647))=true then none else some (Sum.inr 9)) (Sum.inl ()) (by omega) rfl (fun k e hk=>?_) (by simp)]
   · cases hf:l.findSome? fun t=>if (decide (0≤t)&&decide (t≤2147483647))=true then none else some (Sum.inr 9:Unit ⊕ Int) with
     | none =>
      rw [List.findSome?_eq_none_iff] at hf
      rw [if_pos (List.all_eq_true.2 fun t ht=>by
       have:=hf t ht
       split at this
       · assumption
       · cases this)];rfl
     | some r =>
      obtain⟨t,ht,hr⟩:=List.exists_of_findSome?_eq_some hf
      split at hr
      · cases hr
      · rename_i h1
        obtain rfl:=Option.some.inj hr
        rw [if_neg (fun h2=>h1 (List.all_eq_true.1 h2 t ht))];rfl
   · have hkl:=(ggs.1 hk).1
     rw [decide_eq_true (by omega),cond_true,tz,hk,obs,w64 (by omega) (by omega)]
     by_cases h1:0≤e∧e≤2147483647
     · rw [show (decide (e<0)||decide ((2147483647:Int)<e))=false by rw [Bool.or_eq_false_iff];simp;omega,cond_false,if_pos (by simpa using h1)]
     · rw [show (decide (e<0)||decide ((2147483647:Int)<e))=true by rw [Bool.or_eq_true];simp;omega,cond_true,if_neg (by simpa using h1)]
def yY (e:DElem)(ts:List Int):Bool:=(e.gone == 0)||ts.any fun t=>wi e t
theorem zM (e:DElem)(ts:List Int)(hl:ts.length≤9223372036854775807):mI F e ts=some (yY e ts):=by
 unfold mI yY
 by_cases h:e.gone=0
 · rw [beq_iff_eq.2 h];rfl
 · rw [beq_eq_false_iff_ne.2 h,cond_false,Bool.false_or]
   rw [sX ts (fun t=>if wi e t=true then some (Sum.inr true) else none) (Sum.inl ()) hl rfl (fun k x hk=>?_) (by simp)]
   · cases hf:ts.findSome? fun t=>if wi e t=true then some (Sum.inr true:Unit ⊕ Bool) else none with
     | none =>
      rw [List.findSome?_eq_none_iff] at hf
      rw [show (ts.any fun t=>wi e t)=false by
       rw [List.any_eq_false];intro t ht hv;have:=hf t ht;rw [if_pos hv] at this;cases this];rfl
     | some r =>
      obtain⟨t,ht,hr⟩:=List.exists_of_findSome?_eq_some hf
      split at hr
      · rename_i hv
        obtain rfl:=Option.some.inj hr
        rw [List.any_eq_true.2 ⟨t,ht,hv⟩];rfl
      · cases hr
   · have hkl:=(ggs.1 hk).1
     rw [decide_eq_true (by omega),cond_true,tz,hk,obs,w64 (by omega) (by omega),AM,obs]
     cases wi e x <;> rfl
end
section
def D2 (F:Nat)(t:DTree)(keep:List Int)(n:Int):Option (List DSpot) :=
 (
  (
   (nS (σ:=(List DSpot) × Int) (ρ:=(List DSpot) × Nat) (fun rf2 x=>match x with
    | (x1,x2) =>
     (idx t.nodes x2).bind fun e1 =>
      (iter (σ:=(List DSpot) × Int) (ρ:=((List DSpot)) ⊕ ((List DSpot) × Nat)) (fun x=>match x with
       | (x3,x4) =>
        bif decide (x4<(e1.elems.length:Int)) then
         (idx e1.elems x4).bind fun e2 =>
         (
          (
           bif ((x3.length:Int) == n) then
            some (x3,(0+1))
            else
             (mI F e2 keep).bind fun r4 =>
             bif (!r4) then
              (jb e2).bind fun r5 =>
              (lf 32 x3 [r5]).bind fun _ =>
              some ((x3++[r5]),0)
             else
              some (x3,0):Option ((List DSpot) × Nat)).bind fun z=>match z with
           | (z6,k4) =>
            jK k4 (
             some (z6,0))
             fun k5 =>
             some (z6,(k5+1)):Option ((List DSpot) × Nat)).bind fun z=>match z with
          | (z5,k3) =>
           jK k3 (
            some (.inl (z5,IntKind.i64.wrap (x4+1))))
            fun k6 =>
            some (.inr (.inr (z5,(k6+1))))
         else
          some (.inr (.inl x3))) F (x1,0)).bind fun z=>match z with
       | .inl z4 =>
        (iter (σ:=(List DSpot) × Int) (ρ:=((List DSpot)) ⊕ ((List DSpot) × Nat)) (fun x=>match x with
         | (x5,x6) =>
          bif decide (x6<(e1.kids.length:Int)) then
           (idx e1.kids x6).bind fun e3 =>
           (
            (rf2 (x5,e3)).bind fun z=>match z with
             | (z9,z10) =>
              jK z10 (
               some (z9,0))
               fun k8 =>
               some (z9,(k8+1)):Option ((List DSpot) × Nat)).bind fun z=>match z with
            | (z8,k7) =>
             jK k7 (
              some (.inl (z8,IntKind.i64.wrap (x6+1))))
              fun k9 =>
              some (.inr (.inr (z8,(k9+1))))
           else
            some (.inr (.inl x5))) F (z4,0)).bind fun z=>match z with
         | .inl z7 =>
          some (z7,0)
         | .inr q=>some q
       | .inr q=>some q) F ([],t.root)).bind fun z=>match z with
    | (z11,z12) =>
     jK z12 (
      some (z11,0))
      fun k10 =>
      some (z11,(k10+1)):Option ((List DSpot) × Nat)).bind fun z=>match z with
   | (z2,k1) =>
    jK k1 (
     some z2)
     fun k11 =>
     some z2:Option ((List DSpot)))
def Ef (F:Nat)(gone:List DSpot)(t:DTree):Option (Int × NL) :=
 (iter (σ:=Int × (List (Int ⊕ DNode)) × Int) (ρ:=Int × (List (Int ⊕ DNode))) (fun x=>match x with
  | (x7,x8,x9) =>
   bif decide (x9<(gone.length:Int)) then
    (idx gone x9).bind fun e4 =>
    (AX F e4 x8 x7).bind fun z=>match z with
     | (z15,z16) =>
      some (.inl (z16,z15,IntKind.i64.wrap (x9+1)))
    else
     some (.inr (x7,x8))) F (t.root,(t.nodes.map Sum.inr),0))
variable {F:Nat} [Big F]
def EO (keep:List Int)(e:DElem):Bool:=!yY e keep
def we (keep:List Int)(n:Int)(st:List DSpot)(e:DElem):List DSpot × Nat:=if (st.length:Int)=n then (st,1) else if yY e keep then (st,0) else (st++[tY e],0)
def xM (l:List DElem)(keep:List Int)(n:Nat):List DSpot:=((l.filter (EO keep)).take n).map tY
theorem Dz (keep:List Int)(n:Nat):∀(l:List DElem) (a:List DSpot),a.length≤n→(ux (we keep n) l a).1=a++xM l keep (n-a.length):=by
 intro l
 induction l with
 | nil=>intro a _;simp [ux,xM]
 | cons e l ih =>
  intro a ha
  rw [ux]
  by_cases h1:a.length=n
  · have e1:we keep n a e=(a,1):=by unfold we;rw [if_pos (by omega)]
    rw [e1,if_neg (show ¬ (1:Nat)=0 by decide),h1,Nat.sub_self]
    simp [xM]
  · by_cases h2:yY e keep=true
    · have e1:we keep n a e=(a,0):=by unfold we;rw [if_neg (by omega),if_pos h2]
      rw [e1,if_pos rfl,ih a ha]
      unfold xM
      rw [List.filter_cons_of_neg (by unfold EO;simp [h2])]
    · have e1:we keep n a e=(a++[tY e],0):=by unfold we;rw [if_neg (by omega),if_neg h2]
      rw [e1,if_pos rfl,ih _ (by simp;omega)]
      unfold xM
      rw [List.filter_cons_of_pos (by unfold EO;simp [h2]),List.length_append,List.length_singleton,show n-a.length=(n-(a.length+1))+1 by omega,List.take_succ_cons,List.map_cons,List.append_assoc]
      rfl
theorem D3 {t:DTree}{h:Nat}(hg:Good t h)(keep:List Int)(hk:keep.length≤9223372036854775807)(n:Nat):D2 F t keep (n:Int)=some (xM (tX t.nodes h t.root) keep n):=by
 have hlen : ∀(a:List DSpot) (e:DElem),List.length (we keep n a e).1≤List.length a+1:=fun a e=>by
  unfold we
  split
  · show a.length≤_;omega
  · split
    · show a.length≤_;omega
    · simp
 unfold D2
 rw [wa (σ:=List DSpot × Int) (fun m x=>Eh t.nodes List.length m x) (fun m x=>ux (we keep n) (ug t.nodes m x.2) x.1) ?h0 ?hstep F _ (Dt hg List.length [] rfl)]
 case h0 =>
  rintro⟨x1,x2⟩ ⟨⟨h,d,s,hm,_⟩,_⟩
  omega
 case hstep =>
  rintro m self ih ⟨x1,x2⟩ hpre
  obtain⟨⟨h0,h1⟩,hkids⟩:=hpre.1.kids hg.chk
  dsimp only at h0 h1 hkids ⊢
  have hmem:=uZ h0 h1
  obtain⟨h8,h8'⟩:=vh (hg.chk _ hmem)
  rw [wG h0 h1,obs]
  rw [wr (we keep n) (nd t.nodes x2).elems (fun (st:List DSpot) k=>(st,k)) Sum.inl (fun st n=>Sum.inr (st,n+1)) x1 (by omega) rfl ?hs ?he]
  case hs =>
   intro k e y hk' hr
   have hkl:=(ggs.1 hk').1
   have hyl:=CD hpre hlen hk' hr
   dsimp only
   rw [decide_eq_true (by omega),cond_true,tz,hk',obs,w64 (by omega) (by omega)]
   unfold we
   by_cases hn:(y.length:Int)=n
   · rw [if_pos hn,show ((y.length:Int) == (n:Int))=true by rw [beq_iff_eq];exact hn,cond_true];rfl
   · rw [if_neg hn,show ((y.length:Int) == (n:Int))=false by rw [beq_eq_false_iff_ne];exact hn,cond_false,zM e keep hk,obs]
     cases yY e keep with
     | true=>rfl
     | false =>
      rw [Bool.not_false,cond_true,ud,obs,tJ (by simp;omega) (by simp;omega),obs];rfl
  case he =>
   intro y hr
   dsimp only
   rw [decide_eq_false (by omega)];rfl
  rw [obs,ug]
  cases hb:ux (we keep n) (nd t.nodes x2).elems x1 with
  | mk b c =>
   rw [vg,hb]
   cases c with
   | succ c=>rfl
   | zero =>
    dsimp only [jK]
    rw [if_pos rfl]
    rw [wr (fun st k=>ux (we keep n) (ug t.nodes m k) st) (nd t.nodes x2).kids (fun (st:List DSpot) k=>(st,k)) Sum.inl (fun st n=>Sum.inr (st,n+1)) b (by omega) rfl ?hs2 ?he2]
    case hs2 =>
     intro k e y hk2 hr
     have hkl:=(ggs.1 hk2).1
     dsimp only
     rw [decide_eq_true (by omega),cond_true,tz,hk2,obs,ih (y,e) (Ei hg.chk hpre hlen hb hk2 hr),obs,w64 (by omega) (by omega)]
     dsimp only
     cases hc:ux (we keep n) (ug t.nodes m e) y with
     | mk y c=>cases c <;> rfl
    case he2 =>
     intro y hr
     dsimp only
     rw [decide_eq_false (by omega)];rfl
    rw [obs,vn]
    cases hc:ux (we keep n) ((nd t.nodes x2).kids.flatMap (ug t.nodes m)) b with
    | mk y c=>cases c <;> rfl
 rw [obs]
 dsimp only
 rw [yL hg]
 have hrun:=Dz keep n (tX t.nodes h t.root) [] (Nat.zero_le _)
 rw [List.nil_append,List.length_nil,Nat.sub_zero] at hrun
 cases hc:ux (we keep n) (tX t.nodes h t.root) [] with
 | mk y c =>
  rw [hc] at hrun
  rw [← hrun]
  cases c <;> rfl
def zJ (g:List DSpot)(e:DElem):Bool:=!(decide (tY e∈g))
theorem Cp (A:List DSpot)(b:DSpot)(x:DElem):zJ (A++[b]) x=(vM b x&&zJ A x):=by
 unfold zJ vM
 rw [Bool.eq_iff_iff]
 simp [not_or,and_comm]
theorem CA {t:DTree}{h:Nat}(hg:Good t h)(g:List DSpot)(hl:g.length≤100000):∃(root:Int) (N:NL),Ef F g t=some (root,N)∧mW N=some (fN N)∧∃ h',Good ⟨root,fN N⟩ h'∧tX (fN N) h' root=(tX t.nodes h t.root).filter (zJ g):=by
 have hF:=(inferInstance:Big F).le
 unfold Ef
 generalize hf:(fun x:Int × (List (Int ⊕ DNode)) × Int=>match x with
  | (x7,x8,x9) =>
   bif decide (x9<(g.length:Int)) then
    (idx g x9).bind fun e4 =>
    (AX F e4 x8 x7).bind fun z=>match z with
     | (z15,z16) =>
      (some (.inl (z16,z15,IntKind.i64.wrap (x9+1))):Option ((Int × (List (Int ⊕ DNode)) × Int) ⊕ (Int × (List (Int ⊕ DNode)))))
    else
     some (.inr (x7,x8)))=f
 have key : ∀(k:Nat),k≤g.length→∃(t' : DTree) (h' : Nat),(∀ n:Nat,iter f (n+k) (t.root,nlT t,0)=iter f n (t'.root,nlT t',(k:Int)))∧Good t' h'∧tX t'.nodes h' t'.root=(tX t.nodes h t.root).filter (zJ (g.take k)):=by
  intro k
  induction k with
  | zero =>
   intro _
   refine⟨t,h,fun n=>rfl,hg,?_⟩
   exact(List.filter_eq_self.2 fun x _=>by unfold zJ;simp).symm
  | succ k ih =>
   intro hk
   obtain⟨t1,h1,i1,i2,i3⟩:=ih (by omega)
   obtain⟨root,N,o1,o2,h2,o3,o4⟩:=yW (F:=F) (sp:=g[k]'(by omega)) i2
   have hgk:g[k]? = some (g[k]'(by omega)):=gge (by omega)
   have hN:nlT ⟨root,fN N⟩=N:=by
    have:=jd o2
    unfold nlT
    exact this.symm
   refine⟨⟨root,fN N⟩,h2,fun n=>?_,o3,?_⟩
   · rw [show n+(k+1)=(n+1)+k by omega,i1,iter]
     have hstep:f (t1.root,nlT t1,(k:Int))=some (.inl (root,N,((k+1:Nat):Int))):=by
      rw [← hf]
      dsimp only
      rw [decide_eq_true (by omega),cond_true,tz,hgk,obs,o1,obs]
      dsimp only
      rw [w64 (by omega) (by omega)];rfl
     rw [hstep,hN]
   · show tX (fN N) h2 root=_
     rw [o4,i3,List.filter_filter,List.take_add_one,hgk]
     congr 1
     funext x
     rw [Option.toList_some,Cp]
 obtain⟨t',h',i1,i2,i3⟩:=key g.length (Nat.le_refl _)
 rw [List.take_length] at i3
 refine⟨t'.root,nlT t',?_,?_,h',?_,?_⟩
 · show iter f F (t.root,nlT t,0)=_
   rw [show F=((F-g.length-1)+1)+g.length by omega,i1,iter]
   have hend:f (t'.root,nlT t',(g.length:Int))=some (.inr (t'.root,nlT t')):=by
    rw [← hf]
    dsimp only
    rw [decide_eq_false (by omega),cond_false]
   rw [hend]
 · rw [uL];exact tx _
 · rw [uL];exact i2
 · rw [uL];exact i3
omit [Big F] in
theorem vZ (t:DTree)(keep:List Int)(n:Int):nq F t keep n=(lH F t).bind fun r1=>bif (r1 != 0) then some ((DTree.mk 0 []),0,r1) else (mJ F keep).bind fun r2=>bif (r2 != 0) then some ((DTree.mk 0 []),0,r2) else
 bif decide (n<0) then some ((DTree.mk 0 []),0,1) else (D2 F t keep n).bind fun z1=>(kG F t).bind fun r6=>(Ef F z1 r6).bind fun z=>match z with | (z13,z14)=>(mW z14).bind fun l2=>some ((DTree.mk z13 l2),(z1.length:Int),0)
 := by
 unfold nq
 simp only [B4]
 rfl
theorem yb {t:DTree}{h:Nat}(hg:Good t h):lH F t=some (xL (tX t.nodes h t.root)):=by
 unfold lH
 rw [v9 (uG hg) hg,obs]
 dsimp only
 rw [show ((0:Int) != 0)=false from rfl,cond_false,yC];rfl
theorem zm {t:DTree}{h:Nat}(hg:Good t h)(hr:xL (tX t.nodes h t.root)=0){keep:List Int}(hk:yi keep=0)(n:Nat) :
 ∃ t' h',nq F t keep (n:Int)=some (t',((xM (tX t.nodes h t.root) keep n).length:Int),0)∧Good t' h'∧tX t'.nodes h' t'.root=(tX t.nodes h t.root).filter (zJ (xM (tX t.nodes h t.root) keep n)):=by
 have hkl:=(BX.1 hk).1
 have hsm:=vS hg
 have hgl:(xM (tX t.nodes h t.root) keep n).length≤100000:=by
  unfold xM
  rw [List.length_map,List.length_take]
  have:=List.length_filter_le (EO keep) (tX t.nodes h t.root)
  omega
 obtain⟨root,N,o1,o2,h',o3,o4⟩:=CA (F:=F) hg _ hgl
 refine⟨⟨root,fN N⟩,h',?_,o3,o4⟩
 rw [vZ,yb hg,obs,hr,sV rfl,cond_false,xw,obs,hk,sV rfl,cond_false,decide_eq_false (by omega),cond_false,D3 hg keep (by omega),obs,uO hg.len hg.chk,obs,o1,obs]
 dsimp only
 rw [o2,obs]
end
section
variable {F:Nat} [Big F]
theorem zk {t:DTree}(hs : ∀ n∈t.nodes,Small n){h:Nat}(hg:Good t h):lH F t=some (xL (tX t.nodes h t.root)):=by
 unfold lH
 rw [v9 hs hg,obs]
 dsimp only
 rw [show ((0:Int) != 0)=false from rfl,cond_false,yC];rfl
theorem wv {t:DTree}(hs : ∀ n∈t.nodes,Small n)(hc:vz F t≠0):lH F t=some (vz F t):=by
 unfold lH
 rw [yF hs hc,obs]
 dsimp only
 rw [s9 hc,cond_true]
theorem Fj {l:List DElem}(hp:l.Pairwise SpO){i j:Nat}{a b:DElem}(hij:i≤j)(ha:l[i]? = some a)(hb:l[j]? = some b):cmpK a.key b.key≤0:=by
 by_cases e:i=j
 · subst e
   rw [ha] at hb
   obtain rfl:=Option.some.inj hb
   rw [um.refl];exact Int.le_refl _
 · have:=uV hp (show i<j by omega) ha hb
   unfold SpO at this
   rcases yl.1 this with h | ⟨h,_⟩
   · exact Int.le_of_lt h
   · unfold tY at h
     dsimp only at h
     rw [h,um.refl];exact Int.le_refl _
theorem DM {l:List DElem}(ho : ∀ e∈l,ui e=0)(k:DKey)(u:Int):(l.filter (geB ⟨k,0⟩)).find? (fun e=>e.key == k&&wi e u)=atR l k u:=by
 unfold atR
 rw [List.find?_filter]
 have : ∀ m:List DElem,(∀ e∈m,e∈l)→m.find? (fun a=>decide (geB ⟨k,0⟩ a=true∧(a.key == k&&wi a u)=true))=m.find? fun e=>e.key == k&&wi e u:=by
  intro m
  induction m with
  | nil=>intro _;rfl
  | cons e m ih =>
   intro hm
   rw [List.find?_cons,List.find?_cons,ih fun x hx=>hm x (List.mem_cons_of_mem _ hx)]
   by_cases hk:e.key=k
   · obtain⟨_,h1,_⟩:=vX (ho e (hm e List.mem_cons_self))
     have hge:geB ⟨k,0⟩ e=true:=by
      refine decide_eq_true ?_
      have h2:=ue.neg (tY e) ⟨k,0⟩
      have:cmpS ⟨k,0⟩ (tY e)<0:=yl.2 (.inr ⟨hk.symm,by show (0:Int)<e.made;omega⟩)
      omega
     have hd:decide (geB ⟨k,0⟩ e=true∧(e.key == k&&wi e u)=true)=(e.key == k&&wi e u):=by cases hq:(e.key == k&&wi e u) <;> simp [hge]
     rw [hd]
   · have:(e.key == k)=false:=by simpa using hk
     rw [this];simp
 first
 | exact this l fun e he=>he
 | (simp only [Bool.decide_and,Bool.decide_eq_true] at this;exact this l fun e he=>he)
theorem Df {l:List DElem}{k:DKey}:∀ e∈l.filter (geB ⟨k,0⟩),0≤cmpK e.key k:=fun e he=>by
 have h1:=(List.mem_filter.1 he).2
 unfold geB at h1
 have h1:=of_decide_eq_true h1
 by_cases h:cmpK e.key k<0
 · have:cmpS (tY e) ⟨k,0⟩<0:=yl.2 (.inl h)
   omega
 · omega
end
section
variable {F:Nat} [Big F]
abbrev FlatN:=Bool × Int × Int × Int × Int × Int × ByteArray
def flatN (e:DElem):FlatN:=(true,e.key.pfs,e.key.obj,e.key.off,e.made,e.gone,e.val)
def ww (k:DKey)(st:FlatN)(e:DElem):FlatN × Nat:=if e.key≠k then (st,1) else if e.gone=0 then (flatN e,2) else (st,0)
theorem BV {k:DKey}{st:FlatN}{e:DElem}(h:e.key≠k):ww k st e=(st,1):=if_pos h
theorem CJ {k:DKey}{st:FlatN}{e:DElem}(h:e.key=k)(hl:e.gone=0):ww k st e=(flatN e,2):=by
 unfold ww;rw [if_neg (fun h'=>h' h),if_pos hl]
theorem CI {k:DKey}{st:FlatN}{e:DElem}(h:e.key=k)(hl : ¬ e.gone=0):ww k st e=(st,0):=by
 unfold ww;rw [if_neg (fun h'=>h' h),if_neg hl]
theorem EW (k:DKey)(u:Int):∀(l:List DElem),l.Pairwise SpO→(∀ e∈l,0≤cmpK e.key k)→(∀ e∈l,uR e≤u)→∀ a:FlatN,(∃ e,l.find? (fun e=>e.key == k&&wi e u)=some e∧ux (ww k) l a=(flatN e,2))∨(l.find? (fun e=>e.key == k&&wi e u)=none∧∃ c,c≤1∧ux (ww k) l a=(a,c)):=by
 intro l
 induction l with
 | nil=>intro _ _ _ a;exact .inr ⟨rfl,0,by omega,rfl⟩
 | cons e l ih =>
  intro hp hk hu a
  have hlv:=Az (hu e List.mem_cons_self)
  rw [ux]
  by_cases he:e.key=k
  · have hb:(e.key == k)=true:=by simpa using he
    rw [List.find?_cons,hb,hlv]
    by_cases hl:e.gone=0
    · left
      rw [CJ he hl,if_neg (by simp),show (e.gone == 0)=true by simpa using hl]
      exact⟨e,rfl,rfl⟩
    · rw [CI he hl,if_pos rfl,show (e.gone == 0)=false by simpa using hl]
      exact ih (List.pairwise_cons.1 hp).2 (fun x hx=>hk x (List.mem_cons_of_mem _ hx)) (fun x hx=>hu x (List.mem_cons_of_mem _ hx)) a
  · right
    rw [BV he,if_neg (by simp)]
    refine⟨?_,1,Nat.le_refl _,rfl⟩
    rw [List.find?_eq_none]
    intro x hx hq
    have hxk:x.key=k:=by
     have:=(Bool.and_eq_true_iff.1 hq).1
     simpa using this
    have h1:=hk e List.mem_cons_self
    obtain⟨j,hj⟩:=List.mem_iff_getElem?.1 hx
    have h2:=Fj hp (i:=0) (j:=j) (Nat.zero_le _) rfl hj
    rw [hxk] at h2
    exact he ((um.zero _ _).1 (by omega))
def AW (o:Option DElem):DElem × Bool:=match o with
 | some e=>(e,true)
 | none=>(BZ,false)
theorem vK {t:DTree}{h:Nat}(hg:Good t h)(hr:Run (tX t.nodes h t.root))(k:DKey):mU F t k=some (AW (ve (tX t.nodes h t.root) k)):=by
 have hs:=uG hg
 have hlen : ∀(a:FlatN) (e:DElem),(fun _:FlatN=>0) (ww k a e).1≤(fun _:FlatN=>0) a+1:=fun _ _=>Nat.zero_le _
 unfold mU
 rw [wa (σ:=Bool × Int × Int × Int × Int × Int × ByteArray × Int) (fun m x=>match x with | (x0,x1,x2,x3,x4,x5,x6,x7)=>Ej t.nodes ⟨k,0⟩ (fun _:FlatN=>0) m ((x0,x1,x2,x3,x4,x5,x6),x7))
  (fun m x=>match x with | (x0,x1,x2,x3,x4,x5,x6,x7)=>let r:=ux (ww k) (uT t.nodes ⟨k,0⟩ m x7) (x0,x1,x2,x3,x4,x5,x6);(r.2,r.1)) ?h0 ?hstep F _ (AA hg ⟨k,0⟩ (fun _=>0) _ rfl)]
 case h0 =>
  rintro⟨x0,x1,x2,x3,x4,x5,x6,x7⟩ ⟨⟨h,d,s,hm,_⟩,_⟩
  omega
 case hstep =>
  rintro m self ih ⟨x0,x1,x2,x3,x4,x5,x6,x7⟩ hpre
  dsimp only at hpre
  obtain⟨⟨h0,h1⟩,hkids⟩:=hpre.1.kids hg.chk
  dsimp only at h0 h1 hkids ⊢
  have hmem:=uZ h0 h1
  obtain⟨h8,h8'⟩:=vh (hg.chk _ hmem)
  rw [wG h0 h1,obs]
  rw [wr (fun st e=>if geB ⟨k,0⟩ e then ww k st e else (st,0)) (nd t.nodes x7).elems (fun (st:FlatN) j=>(st.1,st.2.1,st.2.2.1,st.2.2.2.1,st.2.2.2.2.1,st.2.2.2.2.2.1,st.2.2.2.2.2.2,j)) Sum.inl (fun st n=>Sum.inr (n+1,st)) (x0,x1,x2,x3,x4,x5,x6) (by omega) rfl ?hs ?he]
  case hs =>
   rintro j e ⟨y0,y1,y2,y3,y4,y5,y6⟩ hj hr
   have hkl:=(ggs.1 hj).1
   dsimp only
   rw [decide_eq_true (by omega),cond_true,tz,hj,obs,ud,obs,uo,obs,w64 (by omega) (by omega)]
   unfold geB
   by_cases hge:0≤cmpS (tY e) ⟨k,0⟩
   · rw [decide_eq_true hge,cond_true,if_pos rfl]
     unfold ww
     by_cases hn:e.key=k
     · rw [if_neg (show ¬ e.key≠k by simpa using hn),show (!(e.key == k))=false by simpa using hn,cond_false]
       by_cases hz:e.gone=0
       · rw [if_pos hz,show (e.gone == 0)=true by simpa using hz];rfl
       · rw [if_neg hz,show (e.gone == 0)=false by simpa using hz];rfl
     · rw [if_pos hn,show (!(e.key == k))=true by simpa using hn];rfl
   · rw [decide_eq_false hge,cond_false,if_neg (by simp)];rfl
  case he =>
   rintro⟨y0,y1,y2,y3,y4,y5,y6⟩ hr
   dsimp only
   rw [decide_eq_false (by omega)];rfl
  rw [obs,wA,uT]
  cases hb:ux (ww k) ((nd t.nodes x7).elems.filter (geB ⟨k,0⟩)) (x0,x1,x2,x3,x4,x5,x6) with
  | mk b c =>
   rw [vg,hb]
   cases c with
   | succ c=>rfl
   | zero =>
    obtain⟨b0,b1,b2,b3,b4,b5,b6⟩:=b
    dsimp only [jK]
    rw [if_pos rfl]
    by_cases hkd:(nd t.nodes x7).kind=1
    · rw [if_pos hkd,show ((nd t.nodes x7).kind == 1)=true by simpa using hkd];rfl
    · rw [if_neg hkd,show ((nd t.nodes x7).kind == 1)=false by simpa using hkd,cond_false]
      have hw:vJ (nd t.nodes x7).seps ⟨k,0⟩≤(nd t.nodes x7).kids.length:=by
       rcases uy.1 (hg.chk _ hmem) with q | q | q
       · rw [q.2.2.2.1];exact Nat.zero_le _
       · exact absurd q.1 hkd
       · exact Ey q.2 ⟨k,0⟩
      rw [vD _ ⟨k,0⟩ (hs _ hmem),obs,sO hw,obs]
      rw [wr (fun st j=>ux (ww k) (uT t.nodes ⟨k,0⟩ m j) st) ((nd t.nodes x7).kids.drop (vJ (nd t.nodes x7).seps ⟨k,0⟩)) (fun (st:FlatN) j=>(st.1,st.2.1,st.2.2.1,st.2.2.2.1,st.2.2.2.2.1,st.2.2.2.2.2.1,st.2.2.2.2.2.2,j)) Sum.inl (fun st n=>Sum.inr (n+1,st)) (b0,b1,b2,b3,b4,b5,b6) (by rw [List.length_drop];omega) rfl ?hs2 ?he2]
      case hs2 =>
       rintro j e ⟨y0,y1,y2,y3,y4,y5,y6⟩ hk2 hr
       have hkl:=(ggs.1 hk2).1
       rw [List.length_drop] at hkl
       dsimp only
       rw [decide_eq_true (by rw [List.length_drop];omega),cond_true,tz,hk2,obs,ih (y0,y1,y2,y3,y4,y5,y6,e) (BJ hg.chk hpre hkd hlen hb hk2 hr),obs,w64 (by omega) (by omega)]
       dsimp only
       cases hc:ux (ww k) (uT t.nodes ⟨k,0⟩ m e) (y0,y1,y2,y3,y4,y5,y6) with
       | mk y c=>cases c <;> rfl
      case he2 =>
       rintro⟨y0,y1,y2,y3,y4,y5,y6⟩ hr
       dsimp only
       rw [decide_eq_false (by omega)];rfl
      rw [obs,vn]
      cases hc:ux (ww k) (((nd t.nodes x7).kids.drop (vJ (nd t.nodes x7).seps ⟨k,0⟩)).flatMap (uT t.nodes ⟨k,0⟩ m)) (b0,b1,b2,b3,b4,b5,b6) with
      | mk y c=>cases c <;> rfl
 rw [obs]
 dsimp only
 rw [Au hg ⟨k,0⟩]
 obtain⟨hsort,hall⟩:=uX hg.chk h t.root 0 topS hg.ok
 have hlast:=hr.last_le
 have hat:=DM (fun e he=>(hall e he).2) k 2147483647 (l:=tX t.nodes h t.root)
 rw [EP hr hlast] at hat
 rcases EW k 2147483647 _ (hsort.filter _) Df (fun e he=>by have:=wK (List.mem_filter.1 he).1;omega) (false,0,0,0,0,0,ByteArray.mk #[]) with ⟨e,h1,h2⟩ | ⟨h1,c,hc,h2⟩
 · rw [h2,← hat,h1];rfl
 · rw [h2,← hat,h1]
   have:c=0∨c=1:=by omega
   rcases this with rfl | rfl <;> rfl
theorem Dh {ns:List DNode}(hns : ∀ n∈ns,uv n=0):∀ {h:Nat} {i:Int} {m:Nat} {s:Span},uk ns h i m s→uh (nd ns i)=vq (tX ns h i):=by
 intro h
 induction h with
 | zero =>
  intro i m s c
  have L:=c.leaf hns
  obtain⟨g1,g2,g3⟩:=xS (nd ns i)
  have g0:=(xm (hns _ (uZ c.range.1 c.range.2))).1
  have hnn:=yr (nd ns i).elems
  rw [tX]
  refine Int.le_antisymm ?_ (wJ.2 ⟨g0,g1⟩)
  rcases g3 with g3 | ⟨e,he,g3⟩ | ⟨t,ht,_⟩
  · omega
  · rw [← g3];exact wK he
  · rw [L.tids] at ht;cases ht
 | succ h ih =>
  intro i m s c
  have L:=c.inner hns
  obtain⟨g1,g2,g3⟩:=xS (nd ns i)
  have g0:=(xm (hns _ (uZ c.range.1 c.range.2))).1
  have hch:=c.2.2.2
  rw [tX]
  have hnn:=yr ((nd ns i).kids.flatMap (tX ns h))
  refine Int.le_antisymm ?_ (wJ.2 ⟨g0,fun e he=>?_⟩)
  · rcases g3 with g3 | ⟨e,he,_⟩ | ⟨t,ht,g3⟩
    · omega
    · rw [L.elems] at he;cases he
    · obtain⟨k,s',hk,x⟩:=hch.tmem t ht
      rw [← g3,← x.2,ih x.1]
      exact wJ.2 ⟨hnn,fun e he=>wK (List.mem_flatMap.2 ⟨k,hk,he⟩)⟩
  · obtain⟨k,hk,he⟩:=List.mem_flatMap.1 he
    obtain⟨q,hq⟩:=List.mem_iff_getElem?.1 hk
    obtain⟨t,s',ht,x,_⟩:=hch.at_ q k hq
    have h1:=g2 t (List.mem_of_getElem? ht)
    have h2:=wK he
    rw [← ih x.1,x.2] at h2
    omega
theorem vy {t:DTree}{h:Nat}(hg:Good t h)(u:Int):mt F t u=some (decide (u<1∨2147483647<u∨u<vq (tX t.nodes h t.root))):=by
 have c:=xl hg
 rw [uL] at c
 have hgr:=Dh hg.chk c
 obtain⟨h0,h1⟩:=c.range
 unfold mt
 by_cases h2:u<1
 · rw [decide_eq_true h2,cond_true,obs,decide_eq_true (.inl h2)]
 · rw [decide_eq_false h2,cond_false]
   by_cases h3:2147483647<u
   · rw [decide_eq_true h3,cond_true,obs,decide_eq_true (.inr (.inl h3))]
   · rw [decide_eq_false h3,cond_false,wG h0 h1,obs,uU _ (vF (hg.chk _ (uZ h0 h1))),obs,obs,hgr]
     congr 1
     rw [Bool.eq_iff_iff,decide_eq_true_eq,decide_eq_true_eq]
     omega
theorem wj {t:DTree}{h:Nat}(hg:Good t h):nu F t=some (decide (400≤(tX t.nodes h t.root).length)):=by
 have hlen : ∀(a:Nat) (e:DElem),(fun a:Nat=>a) ((fun (a:Nat) (_:DElem)=>(a+1,0)) a e).1≤(fun a:Nat=>a) a+1:=fun _ _=>Nat.le_refl _
 unfold nu
 rw [wa (σ:=Int × Int) (fun m x=>zf t.nodes m x.2∧0≤x.1∧x.1+((ug t.nodes m x.2).length:Int)≤100000) (fun m x=>x.1+((ug t.nodes m x.2).length:Int)) ?h0 ?hstep F _ ?hpre]
 case h0 =>
  rintro⟨x1,x2⟩ ⟨⟨h,d,s,hm,_⟩,_⟩
  omega
 case hpre =>
  have hF:=(inferInstance:Big F).le
  have h4:=vk hg
  refine⟨⟨h,0,topS,by omega,hg.ok⟩,Int.le_refl _,?_⟩
  dsimp only
  rw [yL hg]
  have:=vS hg
  omega
 case hstep =>
  rintro m self ih ⟨x1,x2⟩ ⟨hok,hc0,hc1⟩
  obtain⟨⟨h0,h1⟩,hkids⟩:=hok.kids hg.chk
  dsimp only at h0 h1 hkids hc0 hc1 ⊢
  obtain⟨h8,h8'⟩:=vh (hg.chk _ (uZ h0 h1))
  rw [ug,List.length_append] at hc1
  rw [wG h0 h1,obs]
  rw [rQ (fun k=>(x1+(k:Int),(k:Int))) (nd t.nodes x2).elems.length (r:=x1+((nd t.nodes x2).elems.length:Int)) (by simp) (by omega) ?s1 ?e1]
  case s1 =>
   intro k hk
   dsimp only
   rw [decide_eq_true (by omega),cond_true,tz,gge hk,obs,w64 (by omega) (by omega),w64 (by omega) (by omega)]
   congr 3;omega
  case e1 =>
   dsimp only
   rw [decide_eq_false (by omega),cond_false]
  rw [obs]
  have hlen:((nd t.nodes x2).kids.flatMap (ug t.nodes m)).length≤100000:=by omega
  rw [rQ (fun k=>(x1+((nd t.nodes x2).elems.length:Int)+((((nd t.nodes x2).kids.take k).flatMap (ug t.nodes m)).length:Int),(k:Int))) (nd t.nodes x2).kids.length (r:=x1+((nd t.nodes x2).elems.length:Int)+(((nd t.nodes x2).kids.flatMap (ug t.nodes m)).length:Int)) (by simp) (by omega) ?s2 ?e2]
  case s2 =>
   intro k hk
   have hgk:(nd t.nodes x2).kids[k]? = some (nd t.nodes x2).kids[k]:=gge hk
   obtain⟨q1,q2⟩:=Ar (ug t.nodes m) hk
   dsimp only
   rw [decide_eq_true (by omega),cond_true,tz,hgk,obs,ih _ ⟨hkids _ (List.getElem_mem _),by dsimp only;omega,by dsimp only;omega⟩,obs,w64 (by omega) (by omega)]
   dsimp only
   rw [q1,List.length_append]
   congr 3;omega
  case e2 =>
   dsimp only
   rw [decide_eq_false (by omega),cond_false,List.take_length]
  rw [obs,ug,List.length_append]
  congr 1;omega
 rw [obs,obs]
 dsimp only
 rw [yL hg]
 congr 1
 rw [Bool.eq_iff_iff,decide_eq_true_eq,decide_eq_true_eq]
 omega
theorem C3 {A B:List DElem}{e y:DElem}(hs:tY y=tY e)(ho:(A++e::B).Pairwise SpO):(A++e::B).map (vu y)=A++y::B:=by
 obtain⟨o1,o2,o3⟩:=List.pairwise_append.1 ho
 rw [List.map_append,List.map_cons,yf,yf]
 · unfold vu;rw [if_pos hs.symm]
 · intro x hx h
   have h1:cmpS (tY e) (tY x)<0:=(List.pairwise_cons.1 o2).1 x hx
   rw [h,hs,ue.refl] at h1;omega
 · intro x hx h
   have h1:cmpS (tY x) (tY e)<0:=o3 x hx e List.mem_cons_self
   rw [h,hs,ue.refl] at h1;omega
theorem EV {A B:List DElem}{e:DElem}(ho:(A++e::B).Pairwise SpO):(A++e::B).filter (vM (tY e))=A++B:=by
 have hg:(A++e::B)[A.length]? = some e:=by rw [List.getElem?_append_right (Nat.le_refl _)];simp
 rw [Ft ho hg,List.take_left' rfl,show A++e::B=(A++[e])++B by simp,List.drop_left' (by simp)]
section
variable {l:List DElem} {k:DKey} {t:Int} {v:ByteArray}
theorem yV (h:Run l){e:DElem}(hn:ve l k=some e):∃ a,l=(lo l k++a)++e::hi l k∧clo (hist l k) t=a++(if e.made=t then [] else [{ e with gone:=t }]):=by
 obtain⟨a,ha,hc⟩:=CP (t:=t) h.ord hn
 refine⟨a,?_,hc⟩
 conv=>lhs;rw [Bb k h.ord,ha]
 simp
theorem ES (h:Run l){e:DElem}(hn:ve l k=some e)(hm:e.made=t):l.map (vu (vL k v t))=putR l k v t:=by
 obtain⟨a,h1,h2⟩:=yV (t:=t) h hn
 have hk:=((wM h.ord).1 hn).2.1
 have ho:=xA h.ord
 rw [h1] at ho
 have hsp:tY (vL k v t)=tY e:=by unfold tY vL;rw [hk,hm]
 conv=>lhs;rw [h1]
 rw [C3 hsp ho]
 unfold putR upd
 rw [h2,if_pos hm]
 simp
theorem zr (h:Run l){e:DElem}(hn:ve l k=some e)(hm:e.made≠t):l.map (vu { e with gone:=t })=cutR l k t:=by
 obtain⟨a,h1,h2⟩:=yV (t:=t) h hn
 have ho:=xA h.ord
 rw [h1] at ho
 conv=>lhs;rw [h1]
 rw [C3 (e:=e) (y:={ e with gone:=t }) rfl ho]
 unfold cutR upd
 rw [h2,if_neg hm]
 simp
theorem EA (h:Run l){e:DElem}(hn:ve l k=some e)(hm:e.made=t):l.filter (vM (tY e))=cutR l k t:=by
 obtain⟨a,h1,h2⟩:=yV (t:=t) h hn
 have ho:=xA h.ord
 rw [h1] at ho
 conv=>lhs;rw [h1]
 rw [EV ho]
 unfold cutR upd
 rw [h2,if_pos hm]
 simp
theorem AB (h:Run l)(ht:vq l≤t)(hc:ui (vL k v t)=0):∀ x∈cutR l k t,tY x≠tY (vL k v t):=by
 obtain⟨_,h0,h1,_⟩:=yx hc
 obtain⟨c1,c2,c3⟩:=h.clo ht h0 h1 k
 intro x hx hs
 unfold cutR at hx
 have hk:x.key=k:=congrArg DSpot.key hs
 have hmd:x.made=t:=congrArg DSpot.made hs
 rcases (xG h.ord).1 hx with hx | ⟨_,hx⟩
 · have:=(c3 x hx).2;omega
 · exact hx hk
theorem BK (h:Run l)(hn:ve l k=none):(putR l k v t).length=l.length+1:=by rw [yd h,hn]
theorem BL (h:Run l){e:DElem}(hn:ve l k=some e)(hm:e.made=t):(putR l k v t).length=l.length:=by rw [yd h,hn];exact if_pos hm
theorem BM (h:Run l){e:DElem}(hn:ve l k=some e)(hm : ¬ e.made=t):(putR l k v t).length=l.length+1:=by rw [yd h,hn];exact if_neg hm
theorem ER (h:Run l)(ht:vq l≤t)(hc:ui (vL k v t)=0)(hn:(putR l k v t).length≤400):AQ (cutR l k t) (vL k v t)=putR l k v t:=by
 obtain⟨_,h0,h1,_⟩:=yx hc
 have hcut:=h.cutR ht h0 h1 k
 have hput:=h.putR ht hc hn
 refine Bc (ze (xA hcut.ord) _) (xA hput.ord) fun x=>?_
 rw [BF]
 have hf:=AB h ht hc
 unfold putR
 rw [xG h.ord,List.mem_append,List.mem_singleton]
 constructor
 · rintro(rfl | ⟨hx,_⟩)
   · exact .inl (.inr rfl)
   · unfold cutR at hx
     rcases (xG h.ord).1 hx with hx | hx
     · exact .inl (.inl hx)
     · exact .inr hx
 · rintro((hx | rfl) | hx)
   · have hm:x∈cutR l k t:=by unfold cutR;exact(xG h.ord).2 (.inl hx)
     exact .inr ⟨hm,hf x hm⟩
   · exact .inl rfl
   · have hm:x∈cutR l k t:=by unfold cutR;exact(xG h.ord).2 (.inr hx)
     exact .inr ⟨hm,hf x hm⟩
end
theorem Fl {N:NL}(h:mW N=some (fN N))(root:Int):nlT ⟨root,fN N⟩=N:=(jd h).symm
theorem wz {t:DTree}{h:Nat}(hg:Good t h):lH F t=some (xL (tX t.nodes h t.root)):=zk (uG hg) hg
omit [Big F] in
theorem wW (t:DTree)(k:DKey)(v:ByteArray)(u:Int):oa F t k v u=(lH F t).bind fun r1=>bif (r1 != 0) then some ((DTree.mk 0 []),r1) else (kz (DElem.mk k u 0 v)).bind fun r2=>bif (r2 != 0) then some ((DTree.mk 0 []),r2) else
 (mt F t u).bind fun r3=>bif r3 then some ((DTree.mk 0 []),9) else (mU F t k).bind fun r4=>(kG F t).bind fun r5 =>
 bif (r4.2&&(r4.1.made == u)) then (nS (σ:=NL × Int) (ρ:=NL) (xf F (DElem.mk k u 0 v)) F (nlT r5,r5.root)).bind fun q1=>(mW q1).bind fun l1=>some ((DTree.mk r5.root l1),0)
 else (nu F t).bind fun r16=>bif r16 then some ((DTree.mk 0 []),8) else
  (bif r4.2 then (nS (σ:=NL × Int) (ρ:=NL) (xf F (DElem.mk r4.1.key r4.1.made u r4.1.val)) F (nlT r5,r5.root)).bind fun q2=>some q2 else some (nlT r5):Option NL).bind fun z5 =>
  (Bk F (DElem.mk k u 0 v) z5 r5.root).bind fun z=>match z with | (z10,z11)=>(mW z11).bind fun l2=>some ((DTree.mk z10 l2),0)
 := by
 unfold oa
 simp only [yI,DI]
 rfl
theorem Bj {t:DTree}{h:Nat}(hg:Good t h)(k:DKey)(v:ByteArray)(u:Int)(hz:CG (tX t.nodes h t.root) k v u≠0):oa F t k v u=some (zT,CG (tX t.nodes h t.root) k v u):=by
 rw [wW,wz hg,obs]
 unfold CG at hz ⊢
 by_cases h1:xL (tX t.nodes h t.root)=0
 rotate_left
 · rw [s9 h1,cond_true,if_pos h1];rfl
 have hrun:=wo.1 h1
 rw [if_neg (by simpa using h1)] at hz ⊢
 rw [sV h1,cond_false,uK,obs]
 by_cases h2:ui (vL k v u)=0
 rotate_left
 · rw [show DElem.mk k u 0 v=vL k v u from rfl,s9 h2,cond_true,if_pos h2];rfl
 rw [if_neg (by simpa using h2)] at hz ⊢
 obtain⟨_,u0,u1,_⟩:=yx h2
 rw [show DElem.mk k u 0 v=vL k v u from rfl,sV h2,cond_false,vy hg,obs]
 by_cases h3:u<vq (tX t.nodes h t.root)
 · rw [decide_eq_true (.inr (.inr h3)),cond_true,if_pos h3];rfl
 rw [if_neg h3] at hz ⊢
 rw [decide_eq_false (by omega),cond_false,vK hg hrun,obs,uO hg.len hg.chk,obs]
 have hl:=hrun.len
 by_cases h4:400<(putR (tX t.nodes h t.root) k v u).length
 rotate_left
 · exact absurd (if_neg h4) hz
 rw [if_pos h4]
 have hnm:((AW (ve (tX t.nodes h t.root) k)).2&&((AW (ve (tX t.nodes h t.root) k)).1.made == u))=false:=by
  cases hn:ve (tX t.nodes h t.root) k with
  | none=>rfl
  | some e =>
   show (true&&(e.made == u))=false
   rw [Bool.true_and,beq_eq_false_iff_ne]
   intro hm
   have hpl:=BL (v:=v) hrun hn hm
   omega
 have h5:400≤(tX t.nodes h t.root).length:=by
  cases hn:ve (tX t.nodes h t.root) k with
  | none=>have hpl:=BK (v:=v) (t:=u) hrun hn;omega
  | some e =>
   by_cases hm:e.made=u
   · have hpl:=BL (v:=v) hrun hn hm;omega
   · have hpl:=BM (v:=v) hrun hn hm;omega
 rw [hnm,cond_false,wj hg,obs,decide_eq_true h5,cond_true];rfl
theorem Ab {t:DTree}{h:Nat}(hg:Good t h)(k:DKey)(v:ByteArray)(u:Int)(hz:CG (tX t.nodes h t.root) k v u=0) :
 ∃ t' h',oa F t k v u=some (t',0)∧Good t' h'∧tX t'.nodes h' t'.root=putR (tX t.nodes h t.root) k v u:=by
 obtain⟨hrun,hc,hlast,hput⟩:=Dw.1 hz
 obtain⟨_,u0,u1,_⟩:=yx hc
 have hl:=hrun.len
 have hcut:=hrun.cutR hlast u0 u1 k
 have pre : ∀ r,((bif ((AW (ve (tX t.nodes h t.root) k)).2&&((AW (ve (tX t.nodes h t.root) k)).1.made == u)) then (nS (σ:=NL × Int) (ρ:=NL) (xf F (vL k v u)) F (nlT t,t.root)).bind fun q1=>(mW q1).bind fun l1=>some ((DTree.mk t.root l1),(0:Int))
  else (nu F t).bind fun r16=>bif r16 then some ((DTree.mk 0 []),8) else
   (bif (AW (ve (tX t.nodes h t.root) k)).2 then (nS (σ:=NL × Int) (ρ:=NL) (xf F (DElem.mk (AW (ve (tX t.nodes h t.root) k)).1.key (AW (ve (tX t.nodes h t.root) k)).1.made u (AW (ve (tX t.nodes h t.root) k)).1.val)) F (nlT t,t.root)).bind fun q2=>some q2 else some (nlT t):Option NL).bind fun z5 =>
   (Bk F (vL k v u) z5 t.root).bind fun z=>match z with | (z10,z11)=>(mW z11).bind fun l2=>some ((DTree.mk z10 l2),0))=r)→oa F t k v u=r:=fun r hh=>by
  rw [wW,wz hg,obs,sV (wo.2 hrun),cond_false,show DElem.mk k u 0 v=vL k v u from rfl,uK,obs,sV hc,cond_false,vy hg,obs,decide_eq_false (by omega),cond_false,vK hg hrun,obs,uO hg.len hg.chk,obs]
  exact hh
 have add : ∀(t1:DTree),Good t1 h→t1.root=t.root→tX t1.nodes h t1.root=cutR (tX t.nodes h t.root) k u→∃ t' h',((Bk F (vL k v u) (nlT t1) t.root).bind fun z=>match z with | (z10,z11)=>(mW z11).bind fun l2=>some ((DTree.mk z10 l2),(0:Int)))=some (t',0)∧Good t' h'∧tX t'.nodes h' t'.root=putR (tX t.nodes h t.root) k v u:=fun t1 g1 hr1 he1=>by
  obtain⟨root,N,a1,a2,h',a3,a4⟩:=Ao (F:=F) (e:=vL k v u) g1 hc (by rw [he1];exact AB hrun hlast hc) (by rw [he1];exact hcut.len)
  rw [hr1] at a1
  refine⟨⟨root,fN N⟩,h',?_,a3,?_⟩
  · rw [a1,obs]
    dsimp only
    rw [a2,obs]
  · rw [a4,he1];exact ER hrun hlast hc hput
 cases hn:ve (tX t.nodes h t.root) k with
 | none =>
  have hpl:=BK (v:=v) (t:=u) hrun hn
  rw [hn] at pre
  obtain⟨t',h',a1,a2,a3⟩:=add t hg rfl (DV hrun hn).symm
  refine⟨t',h',pre _ ?_,a2,a3⟩
  show (bif false then _ else _)=_
  rw [cond_false,wj hg,obs,decide_eq_false (by omega),cond_false]
  show ((bif false then _ else some (nlT t):Option NL).bind _)=_
  rw [cond_false,obs]
  exact a1
 | some e =>
  rw [hn] at pre
  have hem:=(wM hrun.ord).1 hn
  by_cases hm:e.made=u
  · obtain⟨N,c1,c2,c3,c4⟩:=yk (F:=F) (e:=vL k v u) hg hc
    refine⟨⟨t.root,fN N⟩,h,pre _ ?_,c3,by rw [c4];exact ES hrun hn hm⟩
    show (bif (true&&(e.made == u)) then _ else _)=_
    rw [Bool.true_and,show (e.made == u)=true by rw [beq_iff_eq];exact hm,cond_true,c1,obs,c2,obs]
  · have hce : ui { e with gone := u } = 0 := by
     have h1:=hcut.ok { e with gone:=u }
     refine h1 ?_
     rw [← zr hrun hn hm]
     exact List.mem_map.2 ⟨e,hem.1,if_pos rfl⟩
    obtain⟨N,c1,c2,c3,c4⟩:=yk (F:=F) (e:={ e with gone:=u }) hg hce
    obtain⟨t',h',a1,a2,a3⟩:=add ⟨t.root,fN N⟩ c3 rfl (by rw [← zr hrun hn hm];exact c4)
    rw [Fl c2] at a1
    refine⟨t',h',pre _ ?_,a2,a3⟩
    have hpl:=BM (v:=v) hrun hn hm
    show (bif (true&&(e.made == u)) then _ else _)=_
    rw [Bool.true_and,show (e.made == u)=false by rw [beq_eq_false_iff_ne];exact hm,cond_false,wj hg,obs,decide_eq_false (by omega),cond_false]
    show ((bif true then (nS (σ:=NL × Int) (ρ:=NL) (xf F { e with gone:=u }) F (nlT t,t.root)).bind _ else _:Option NL).bind _)=_
    rw [cond_true,c1,obs,obs]
    exact a1
theorem Am {t:DTree}(hs : ∀ n∈t.nodes,Small n)(hc:vz F t≠0)(k:DKey)(v:ByteArray)(u:Int):oa F t k v u=some (zT,vz F t):=by
 rw [wW,wv hs hc,obs,s9 hc,cond_true];rfl
omit [Big F] in
theorem wV (t:DTree)(k:DKey)(u:Int):nZ F t k u=(lH F t).bind fun r1=>bif (r1 != 0) then some ((DTree.mk 0 []),r1) else (mS k).bind fun r2=>bif (r2 != 0) then some ((DTree.mk 0 []),r2) else
 (mt F t u).bind fun r3=>bif r3 then some ((DTree.mk 0 []),9) else (mU F t k).bind fun r4=>bif (!r4.2) then some ((DTree.mk 0 []),4) else
 bif (r4.1.made == u) then (kG F t).bind fun r5=>(jb r4.1).bind fun r7=>(AX F r7 (nlT r5) r5.root).bind fun z=>match z with | (z1,z2)=>(mW z1).bind fun l1=>some ((DTree.mk z2 l1),0)
 else (kG F t).bind fun r43=>(nS (σ:=NL × Int) (ρ:=NL) (xf F (DElem.mk r4.1.key r4.1.made u r4.1.val)) F (nlT r43,r43.root)).bind fun q11=>(mW q11).bind fun l2=>some ((DTree.mk r43.root l2),0)
 := by
 unfold nZ
 simp only [yI,B4]
 rfl
theorem Al {t:DTree}(hs : ∀ n∈t.nodes,Small n)(hc:vz F t≠0)(k:DKey)(u:Int):nZ F t k u=some (zT,vz F t):=by
 rw [wV,wv hs hc,obs,s9 hc,cond_true];rfl
theorem Bi {t:DTree}{h:Nat}(hg:Good t h)(k:DKey)(u:Int)(hz:Cd (tX t.nodes h t.root) k u≠0):nZ F t k u=some (zT,Cd (tX t.nodes h t.root) k u):=by
 rw [wV,wz hg,obs]
 unfold Cd at hz ⊢
 by_cases h1:xL (tX t.nodes h t.root)=0
 rotate_left
 · rw [s9 h1,cond_true,if_pos h1];rfl
 have hrun:=wo.1 h1
 rw [if_neg (by simpa using h1)] at hz ⊢
 rw [sV h1,cond_false,wS,obs]
 by_cases h2:yK k=0
 rotate_left
 · rw [s9 h2,cond_true,if_pos h2];rfl
 rw [if_neg (by simpa using h2)] at hz ⊢
 rw [sV h2,cond_false,vy hg,obs]
 by_cases h3:u<1∨2147483647<u∨u<vq (tX t.nodes h t.root)
 · rw [decide_eq_true h3,cond_true,if_pos h3];rfl
 rw [if_neg h3] at hz ⊢
 rw [decide_eq_false h3,cond_false,vK hg hrun,obs]
 cases hn:ve (tX t.nodes h t.root) k with
 | none=>rfl
 | some e=>rw [hn] at hz;exact absurd rfl hz
theorem Aa {t:DTree}{h:Nat}(hg:Good t h)(k:DKey)(u:Int)(hz:Cd (tX t.nodes h t.root) k u=0) :
 ∃ t' h',nZ F t k u=some (t',0)∧Good t' h'∧tX t'.nodes h' t'.root=cutR (tX t.nodes h t.root) k u:=by
 obtain⟨hrun,hk,u0,u1,hlast,hnow⟩:=Db.1 hz
 obtain⟨e,hn⟩:=Option.isSome_iff_exists.1 hnow
 have hem:=(wM hrun.ord).1 hn
 have hcut:=hrun.cutR hlast u0 u1 k
 rw [wV,wz hg,obs,sV (wo.2 hrun),cond_false,wS,obs,sV hk,cond_false,vy hg,obs,decide_eq_false (by omega),cond_false,vK hg hrun,obs,hn]
 show ∃ t' h',(bif (!true) then _ else bif (e.made == u) then _ else _)=_∧_
 rw [Bool.not_true,cond_false]
 by_cases hm:e.made=u
 · obtain⟨root,N,o1,o2,h',o3,o4⟩:=yW (F:=F) (sp:=tY e) hg
   refine⟨⟨root,fN N⟩,h',?_,o3,by rw [o4];exact EA hrun hn hm⟩
   rw [show (e.made == u)=true by rw [beq_iff_eq];exact hm,cond_true,uO hg.len hg.chk,obs,ud,obs]
   show (AX F (tY e) (nlT t) t.root).bind _=_
   rw [o1,obs]
   dsimp only
   rw [o2,obs]
 · have hce : ui { e with gone := u } = 0 := by
    refine hcut.ok { e with gone:=u } ?_
    rw [← zr hrun hn hm]
    exact List.mem_map.2 ⟨e,hem.1,if_pos rfl⟩
   obtain⟨N,c1,c2,c3,c4⟩:=yk (F:=F) (e:={ e with gone:=u }) hg hce
   refine⟨⟨t.root,fN N⟩,h,?_,c3,by rw [c4];exact zr hrun hn hm⟩
   rw [show (e.made == u)=false by rw [beq_eq_false_iff_ne];exact hm,cond_false,uO hg.len hg.chk,obs]
   show (nS (σ:=NL × Int) (ρ:=NL) (xf F { e with gone:=u }) F (nlT t,t.root)).bind _=_
   rw [c1,obs,c2,obs]
end
section
variable {F:Nat} [Big F]
theorem Cf {α:Type}[DecidableEq α](test:α→α→Bool)(ht : ∀ x y,test x y=true↔x=y)(p q:List α)(hp:p.length≤9223372036854775807) :
 (bif ((p.length:Int) != (q.length:Int)) then
  some false
 else
  (iter (σ:=Int) (ρ:=(Unit) ⊕ Bool) (fun x1 =>
   bif decide (x1<(p.length:Int)) then
    (idx p x1).bind fun e1 =>
    (idx q x1).bind fun e2 =>
    bif (!(test e1 e2)) then
     some (.inr (.inr false))
    else
     some (.inl (IntKind.i64.wrap (x1+1)))
    else
     some (.inr (.inl ()))) F 0).bind fun z=>match z with
  | .inl _ =>
   some true
  | .inr q=>some q)=some (decide (p=q)):=by
 by_cases hl:p.length=q.length
 · rw [show ((p.length:Int) != (q.length:Int))=false by rw [bne_eq_false_iff_eq];omega,cond_false]
   obtain⟨W,hW⟩ : ∃ W:Nat→α→Option (Unit ⊕ Bool),∀ k e,W k e=if q[k]? = some e then none else some (Sum.inr false):=⟨_,fun _ _=>rfl⟩
   rw [rp p W (Sum.inl ()) hp rfl (fun k e hk _=>?_) (by simp)]
   · by_cases he:p=q
     · subst he
       rw [tf.2 fun k e hk=>by rw [hW,if_pos hk],decide_eq_true rfl];rfl
     · rw [decide_eq_false he]
       cases hf:p.zipIdx.findSome? fun a=>W a.2 a.1 with
       | some r =>
        obtain⟨k,e,_,hr⟩:=tg hf
        rw [hW] at hr
        split at hr
        · cases hr
        · obtain rfl:=Option.some.inj hr;rfl
       | none =>
        exfalso
        apply he
        rw [tf] at hf
        apply List.ext_getElem?
        intro k
        cases hk:p[k]? with
        | none=>rw [List.getElem?_eq_none_iff] at hk;rw [List.getElem?_eq_none (by omega)]
        | some e =>
         have:=hf k e hk
         rw [hW] at this
         split at this
         · rename_i h;exact h.symm
         · cases this
   · have hkl:=(ggs.1 hk).1
     have hq:q[k]? = some (q[k]'(by omega)):=gge (by omega)
     rw [decide_eq_true (by omega),cond_true,tz,tz,hk,hq,obs,obs,w64 (by omega) (by omega),hW]
     by_cases he:q[k]'(by omega)=e
     · rw [if_pos (by rw [hq,he]),(ht _ _).2 he.symm];rfl
     · have hf : test e (q[k]'(by omega)) = false := by
        cases hx:test e (q[k]'(by omega))
        · rfl
        · exact absurd ((ht _ _).1 hx).symm he
       rw [if_neg (by rw [hq];simpa using he),hf];rfl
 · rw [show ((p.length:Int) != (q.length:Int))=true by rw [bne_iff_ne];omega,cond_true,decide_eq_false (fun e=>hl (by rw [e]))]
theorem Fc (p q:List DElem)(hp:p.length≤9223372036854775807):kT F p q=some (decide (p=q)):=Cf (fun x y=>x == y) (fun x y=>by simp) p q hp
theorem EZ (p q:List Int)(hp:p.length≤9223372036854775807):kF F p q=some (decide (p=q)):=Cf (fun x y=>x == y) (fun x y=>by simp) p q hp
end
section
variable {F:Nat} [Big F]
theorem DQ {l:List DElem}(h : ¬ 400<l.length)(hb:B6 l=none):ofR l=(vP l,0):=by
 unfold ofR;rw [if_neg h,hb]
theorem of_eq {l:List DElem}(hl:l.length≤400)(ho : ∀ e∈l,ui e=0)(hp:l.Pairwise SpO):mj F l=some (vP l):=by
 unfold mj
 rw [zc,obs,DQ (by omega) (yJ.2 ⟨ho,hp⟩)]
 dsimp only
 rw [tx];rfl
theorem Ee {l:List DElem}(hl:l.length≤8)(ho : ∀ e∈l,ui e=0)(hp:l.Pairwise SpO):Good (vP l) 0∧tX (vP l).nodes 0 (vP l).root=l∧(vP l).nodes.length=1:=by
 obtain⟨h,hg,he,hn,h1,hm⟩:=zb (by omega) ho hp
 have h0:h=0:=by
  cases h with
  | zero=>rfl
  | succ h=>have:=hm 0 (by omega);rw [cN,CV hl] at this;omega
 subst h0
 exact⟨hg,he,by rw [hn,sNk,cN,CV hl]⟩
def Fv (off:Int)(v:ByteArray):DElem:=⟨⟨0,0,off⟩,1,0,v⟩
theorem Fa {off:Int}{v:ByteArray}(h0:0≤off)(h1:off≤1000)(hv:v.size≤40):ui (Fv off v)=0:=by
 unfold ui Fv yK
 dsimp only
 rw [if_neg (by rw [if_neg (by omega)];simp),if_neg (by omega),if_neg (by omega)]
theorem Fm {e:DElem}(h:ui e=0):(∀ x∈[e],ui x=0)∧[e].Pairwise SpO:=⟨fun x hx=>by rw [List.mem_singleton.1 hx];exact h,List.pairwise_singleton _ _⟩
end
section
open Go.ChangeShapes
variable {F:Nat} [Big F]
theorem Fd (p q:List DSpot)(hp:p.length≤9223372036854775807):kU F p q=some (decide (p=q)):=Cf (fun x y=>x == y) (fun x y=>by simp) p q hp
theorem Aj (n:DNode)(h:Small n):kP F n n=some true:=by
 unfold kP
 have h1:=h.elems;have h2:=h.kids;have h3:=h.seps;have h4:=h.tids
 rw [Fc _ _ (by omega),EZ _ _ (by omega),Fd _ _ (by omega),EZ _ _ (by omega)]
 simp
theorem wH (t:DTree)(hs : ∀ n∈t.nodes,Small n)(hl:t.nodes.length≤9000000000000000000):kv F t t=some true:=by
 unfold kv
 rw [show (t.root == t.root)=true by simp,cond_true,show ((t.nodes.length:Int) != (t.nodes.length:Int))=false by simp,cond_false]
 rw [rQ (s:=(0:Int)) (fun k=>(k:Int)) t.nodes.length (r:=.inl ()) rfl (by omega) (fun k hk=>?_) ?_]
 · rfl
 · rw [decide_eq_false (by omega),cond_false]
 · have hn:t.nodes[k]? = some t.nodes[k]:=gge hk
   rw [decide_eq_true (by omega),cond_true,tz,hn,obs,obs,Aj _ (hs _ (List.getElem_mem hk)),obs,Bool.not_true,cond_false,w64 (by omega) (by omega)]
   rfl
theorem Ed {n:DNode}(h:uv n=0):n.elems.length≤8∧n.kids.length≤8∧n.seps.length≤8∧n.tids.length≤8:=by
 obtain⟨h1,h2⟩:=vh h
 rcases uy.1 h with h | h | h
 · obtain⟨_,a,b,c,d⟩:=h
   rw [a,b,c,d];simp
 · have:=h.2;rw [this.kids,this.seps,this.tids];simpa using this.len
 · have:=h.2;have a:=this.eight;have b:=this.seps;have c:=this.tids
   exact⟨h1,h2,by omega,by omega⟩
theorem AZ {n:DNode}(h:n.elems.length≤8∧n.kids.length≤8∧n.seps.length≤8∧n.tids.length≤8):nH n=true:=by
 obtain⟨h1,h2,h3,h4⟩:=h
 unfold nH
 rw [decide_eq_true (by omega),decide_eq_true (by omega),decide_eq_true (by omega),decide_eq_true (by omega)];rfl
theorem vQ {t:DTree}{h:Nat}(g:Good t h):qV F t=true:=by
 have hl:=g.len
 unfold qV qr
 rw [wH t (uG g) (by omega),decide_eq_true (by omega),List.all_eq_true.2 (fun n hn=>AZ (Ed (g.chk n hn)))];rfl
theorem uD:qV F zT=true:=by
 unfold qV
 rw [show kv F zT zT=some true from wH _ (fun n hn=>by cases hn) (Nat.zero_le _)];rfl
theorem DZ {t:DTree}(h:okTree t):qV F t=true:=by
 have h1:=h.2.1
 unfold reachBytes at h1
 unfold qV qr
 rw [wH t (zQ h) (by omega),decide_eq_true (by omega),List.all_eq_true.2 (fun n hn=>?_)]
 · rfl
 · obtain⟨_,a,b,c,d⟩:=h.2.2 n hn
   have a:=a.1;have b:=b.1;have c:=c.1;have d:=d.1
   unfold reachBytes at a b c d
   unfold nH
   rw [decide_eq_true (by omega),decide_eq_true (by omega),decide_eq_true (by omega),decide_eq_true (by omega)];rfl
variable {t:DTree} (hs : ∀ n∈t.nodes,Small n)
include hs
theorem Bw (e:DElem):∃ r,mE F t e=some r∧qV F r.1=true:=by
 rcases yn (F:=F) hs e with ⟨x,_,h⟩ | ⟨_,t',h',_,_,_,_,h,g,_⟩
 · exact⟨_,h,uD⟩
 · exact⟨_,h,vQ g⟩
theorem Eo (e:DElem):∃ r,oU F t e=some r∧qV F r.1=true:=by
 by_cases hc:vz F t=0
 · obtain⟨h,g⟩:=uS.1 hc
   by_cases he:ui e=0
   · cases ha:wg e (tX t.nodes h t.root) with
     | true =>
      obtain⟨t',h1,g',_⟩:=Ae (F:=F) g he ha
      exact⟨_,h1,vQ g'⟩
     | false =>
      refine⟨(zT,4),?_,uD⟩
      unfold oU
      rw [vb (uG g) g he,obs]
      dsimp only
      rw [sV rfl,cond_false,ha,Bool.not_false,cond_true];rfl
   · exact⟨_,Br g he,uD⟩
 · refine⟨(zT,vz F t),?_,uD⟩
   unfold oU
   rw [xN hs hc,obs]
   dsimp only
   rw [s9 hc,cond_true];rfl
theorem BP (s:DSpot):∃ r,lY F t s=some r∧qV F r.1=true:=by
 by_cases hc:vz F t=0
 · obtain⟨h,g⟩:=uS.1 hc
   by_cases hz:(zR ((tX t.nodes h t.root).filter (geB s)) s).2=0
   · have hx : ∃ x ∈ tX t.nodes h t.root, tY x = s := by
      unfold zR at hz
      cases hh:((tX t.nodes h t.root).filter (geB s)).head? with
      | none=>rw [hh] at hz;simp at hz
      | some e =>
       rw [hh] at hz
       dsimp only at hz
       have hm:e∈(tX t.nodes h t.root).filter (geB s):=List.mem_of_mem_head? hh
       refine⟨e,(List.mem_filter.1 hm).1,?_⟩
       split at hz
       · assumption
       · simp at hz
     obtain⟨t',h',h1,g',_⟩:=yg (F:=F) g hx
     exact⟨_,h1,vQ g'⟩
   · refine⟨(zT,(zR ((tX t.nodes h t.root).filter (geB s)) s).2),?_,uD⟩
     rw [vV,xj (uG g) g,obs,s9 hz,cond_true];rfl
 · refine⟨(zT,vz F t),?_,uD⟩
   rw [vV,Ad hs hc,obs]
   dsimp only
   rw [s9 hc,cond_true];rfl
theorem El (k:DKey)(v:ByteArray)(u:Int):∃ r,oa F t k v u=some r∧qV F r.1=true:=by
 by_cases hc:vz F t=0
 · obtain⟨h,g⟩:=uS.1 hc
   by_cases hz:CG (tX t.nodes h t.root) k v u=0
   · obtain⟨t',h',h1,g',_⟩:=Ab (F:=F) g k v u hz
     exact⟨_,h1,vQ g'⟩
   · exact⟨_,Bj g k v u hz,uD⟩
 · exact⟨_,Am hs hc k v u,uD⟩
theorem DU (k:DKey)(u:Int):∃ r,nZ F t k u=some r∧qV F r.1=true:=by
 by_cases hc:vz F t=0
 · obtain⟨h,g⟩:=uS.1 hc
   by_cases hz:Cd (tX t.nodes h t.root) k u=0
   · obtain⟨t',h',h1,g',_⟩:=Aa (F:=F) g k u hz
     exact⟨_,h1,vQ g'⟩
   · exact⟨_,Bi g k u hz,uD⟩
 · exact⟨_,Al hs hc k u,uD⟩
theorem Dr : ∃ r,ni F t=some r∧qV F r.1=true:=by
 unfold ni
 by_cases hc:vz F t=0
 · obtain⟨h,g⟩:=uS.1 hc
   rw [v9 hs g,obs]
   dsimp only
   rw [sV rfl,cond_false,zc,obs,tx,obs]
   refine⟨_,rfl,?_⟩
   show qV F ⟨(ofR (tX t.nodes h t.root)).1.root,(ofR (tX t.nodes h t.root)).1.nodes⟩=true
   show qV F (ofR (tX t.nodes h t.root)).1=true
   unfold ofR
   by_cases hl:400<(tX t.nodes h t.root).length
   · rw [if_pos hl];exact uD
   · rw [if_neg hl,yJ.2 ⟨Bq g,yM g⟩]
     obtain⟨h',g',_⟩:=zb (by omega) (Bq g) (yM g)
     exact vQ g'
 · rw [yF hs hc,obs]
   dsimp only
   rw [s9 hc,cond_true]
   exact⟨_,rfl,uD⟩
theorem DA (keep:List Int):∃ r,nq F t keep 3=some r∧qV F r.1=true:=by
 by_cases hc:vz F t=0
 · obtain⟨h,g⟩:=uS.1 hc
   by_cases hr:xL (tX t.nodes h t.root)=0
   · by_cases hk:yi keep=0
     · obtain⟨t',h',h1,g',_⟩:=zm (F:=F) g hr hk 3
       exact⟨_,h1,vQ g'⟩
     · refine⟨(zT,0,yi keep),?_,uD⟩
       rw [vZ,yb g,obs,hr,sV rfl,cond_false,xw,obs,s9 hk,cond_true];rfl
   · refine⟨(zT,0,xL (tX t.nodes h t.root)),?_,uD⟩
     rw [vZ,yb g,obs,s9 hr,cond_true];rfl
 · refine⟨(zT,0,vz F t),?_,uD⟩
   rw [vZ,wv hs hc,obs,s9 hc,cond_true];rfl
omit hs in
theorem wQ (F:Nat)[Big F](p0:DTree)(p1:DElem)(p2:List Int)(k0:okTree p0)(_:okElem p1)(_:vp 8 (vf .i64) p2):lO F p0 p1 p2=some true:=by
 have hs:=zQ k0
 obtain⟨r1,e1,f1⟩:=Bw (F:=F) hs p1
 obtain⟨r2,e2,f2⟩:=Eo (F:=F) hs p1
 obtain⟨r3,e3,f3⟩:=BP (F:=F) hs (DSpot.mk p1.key p1.made)
 obtain⟨r4,e4,f4⟩:=El (F:=F) hs p1.key p1.val p1.made
 obtain⟨r5,e5,f5⟩:=DU (F:=F) hs p1.key p1.made
 obtain⟨r6,e6,f6⟩:=Dr (F:=F) hs
 obtain⟨r7,e7,f7⟩:=DA (F:=F) hs p2
 have hc:ui rH=0:=Fa (off:=1) (by decide) (by decide) (by decide)
 obtain⟨o1,o2⟩:=Fm hc
 obtain⟨g,hg,_⟩:=Ee (l:=[rH]) (by decide) o1 o2
 unfold lO
 rw [e1,obs,e2,obs,e3,obs,e4,obs,e5,obs,e6,obs,e7,obs,of_eq (by decide) o1 o2,obs,v9 (uG g) g,obs,hg,DZ k0]
 have hall : [r1.1,r2.1,r3.1,r4.1,r5.1,r6.1,r7.1].all (qV F)=true:=by
  simp only [List.all_cons,List.all_nil,f1,f2,f3,f4,f5,f6,f7];rfl
 rw [hall];rfl
end
section
open Go.RowKit
theorem Ek:ownKnob Tryz.prog.godebug=none:=by kernel_rfl
theorem Du:laidOutB Tryz.prog=true:=by kernel_rfl
theorem Fx:uF Tryz.prog 26 tW okKey:=Dp Tryz.underlying26 (by kernel_rfl) rfl (by kernel_rfl) (vm Tryz.underlying3) rfl (by kernel_rfl) (vm Tryz.underlying3) rfl (by kernel_rfl) (vm Tryz.underlying3)
theorem Fy:uF Tryz.prog 28 eElem okElem:=Cv Tryz.underlying28 (by kernel_rfl) rfl (by kernel_rfl) Fx rfl (by kernel_rfl) (vm Tryz.underlying3) rfl (by kernel_rfl) (vm Tryz.underlying3) rfl (by kernel_rfl) (Dq Tryz.underlying9)
theorem FD:uF Tryz.prog 47 (oc eElem) (vp 56 okElem):=wU Tryz.underlying47 (by kernel_rfl) (by kernel_rfl) Fy
theorem Fn:uF Tryz.prog 29 (oc hO) (vp 8 (vf .i64)):=wU Tryz.underlying29 (by kernel_rfl) (by kernel_rfl) (vm Tryz.underlying3)
theorem FC:uF Tryz.prog 36 eSpot okSpot:=Cx Tryz.underlying36 (by kernel_rfl) rfl (by kernel_rfl) Fx rfl (by kernel_rfl) (vm Tryz.underlying3)
theorem FE:uF Tryz.prog 53 (oc eSpot) (vp 32 okSpot):=wU Tryz.underlying53 (by kernel_rfl) (by kernel_rfl) FC
theorem FF:uF Tryz.prog 55 j9 okNode:=Cw Tryz.underlying55 (by kernel_rfl) rfl (by kernel_rfl) (vm Tryz.underlying3) rfl (by kernel_rfl) FD rfl (by kernel_rfl) Fn rfl (by kernel_rfl) FE rfl (by kernel_rfl) Fn
theorem FA:uF Tryz.prog 22 (oc j9) (vp 104 okNode):=wU Tryz.underlying22 (by kernel_rfl) (by kernel_rfl) FF
theorem FB:uF Tryz.prog 24 tV okTree:=Cy Tryz.underlying24 (by kernel_rfl) rfl (by kernel_rfl) (vm Tryz.underlying3) rfl (by kernel_rfl) FA
set_option maxRecDepth 100000
def orderSigns:List Char:=[.ofNat 104,.ofNat 97,.ofNat 114,.ofNat 110,.ofNat 101,.ofNat 115,.ofNat 115,.ofNat 32,.ofNat 54,.ofNat 101,.ofNat 98,.ofNat 97,.ofNat 52,.ofNat 97,.ofNat 98,.ofNat 51,.ofNat 102,.ofNat 51,.ofNat 48,.ofNat 48,.ofNat 53,.ofNat 52,.ofNat 56,.ofNat 51,.ofNat 99,.ofNat 57,.ofNat 99,.ofNat 51,.ofNat 99,.ofNat 98,.ofNat 51,.ofNat 54,.ofNat 101,.ofNat 56,.ofNat 97,.ofNat 101,.ofNat 48,.ofNat 101,.ofNat 51,.ofNat 54,.ofNat 48,.ofNat 102,.ofNat 55,.ofNat 48,.ofNat 54,.ofNat 101,.ofNat 51,.ofNat 102,.ofNat 50,.ofNat 56,.ofNat 99,.ofNat 101,.ofNat 54,.ofNat 50,.ofNat 100,.ofNat 52,.ofNat 48,.ofNat 102,.ofNat 98,.ofNat 102,.ofNat 100,.ofNat 53,.ofNat 55,.ofNat 48,.ofNat 49,.ofNat 101,.ofNat 55,.ofNat 52,.ofNat 57,.ofNat 100,.ofNat 100,.ofNat 49,.ofNat 32,.ofNat 99,.ofNat 117,.ofNat 116,.ofNat 32,.ofNat 97,.ofNat 116,.ofNat 32,.ofNat 97,.ofNat 110,.ofNat 110,.ofNat 97,.ofNat 108,.ofNat 105,.ofNat 115,.ofNat 116,.ofNat 47,.ofNat 97,.ofNat 110,.ofNat 110,.ofNat 97,.ofNat 108,.ofNat 107,.ofNat 101,.ofNat 101,.ofNat 112,.ofNat 46,.ofNat 84,.ofNat 114,.ofNat 101,.ofNat 101,.ofNat 79,.ofNat 119,.ofNat 110]
theorem Cz : Tryz.prog.initOrder = "harness 6eba4ab3f3005483c9c3cb36e8ae0e360f706e3f28ce62d40fbfd5701e749dd1 cut at annalist/annalkeep.TreeOwn" := by kernel_rfl
theorem BI : ("harness 6eba4ab3f3005483c9c3cb36e8ae0e360f706e3f28ce62d40fbfd5701e749dd1 cut at annalist/annalkeep.TreeOwn" : String) = String.ofList orderSigns := by kernel_rfl
theorem yc:Tryz.prog.initOrder.toList=orderSigns:=by rw [Cz,BI];exact String.toList_ofList
theorem EM (P:Program)(h:P.initOrder.toList=orderSigns):P.make=some .cut:=by
 unfold Program.make Program.headLifts
 rw [h]
 kernel_rfl
theorem Ea (P:Program)(h:P.initOrder.toList=orderSigns):P.liftsFinal=false:=by
 unfold Program.liftsFinal Program.headLifts
 rw [h]
 kernel_rfl
theorem DW (P:Program)(h:P.initOrder.toList=orderSigns)(h1:P.laysLater=false)(h2:P.bearsReflect=false)(h3:P.doorFits []=true):P.mayEnter=true:=by
 unfold Program.mayEnter
 rw [h,h1,h2]
 have e:(stripLifts liftWords (behindMainWord (wordsSigns orderSigns))).1=[]:=by kernel_rfl
 have e0 : behindMainWord (wordsSigns orderSigns) = "cut".toList :: (behindMainWord (wordsSigns orderSigns)).tail := by kernel_rfl
 rw [e0] at e ⊢
 dsimp only
 rw [e,h3]
 clear h h1 h2 h3
 change _=true
 kernel_rfl
theorem Dv:Tryz.prog.make=some .cut:=EM _ yc
theorem CF:Tryz.prog.liftsFinal=false:=Ea _ yc
theorem CE:Tryz.prog.mayEnter=true:=DW _ yc (by kernel_rfl) (by kernel_rfl) (by kernel_rfl)
end
end Go.Proofs.YtfbpiogbhkgieaaGreat
