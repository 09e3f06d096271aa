/- Plain Lean: what the editors' contracts compute is what the plain laws speak of. Its conditions: none. -/
import Derived.Test.YtfbpiogbhkgieaaGreatFrFL
import Derived.Test.YtfbpiogbhkgieaaGreatPRemL
import Derived.Test.YtfbpiogbhkgieaaGreatCpFL
import Derived.Test.YtfbpiogbhkgieaaGreatLookFL
import Derived.Test.YtfbpiogbhkgieaaGreatGrowILL
import Derived.Test.YtfbpiogbhkgieaaGreatRangeL
import Derived.Test.YtfbpiogbhkgieaaGreatFindSFL
import Derived.Test.YtfbpiogbhkgieaaGreatRunFL
import Derived.Test.YtfbpiogbhkgieaaGreatMTreeL
import Derived.Test.YtfbpiogbhkgieaaGreatStepFL
import Derived.Test.YtfbpiogbhkgieaaGreatWrHFL
import Derived.Test.YtfbpiogbhkgieaaGreatWrPFL
import Derived.Test.YtfbpiogbhkgieaaGreatWrCFL
import Derived.Test.YtfbpiogbhkgieaaGreatEqLL
import Derived.Test.YtfbpiogbhkgieaaGreatPruneFL
import Derived.Test.YtfbpiogbhkgieaaGreatTrFL
import Derived.Test.YtfbpiogbhkgieaaGreatWTreeOwnFL
import Derived.Test.YtfbpiogbhkgieaaGreatRows
namespace Go.Proofs.YtfbpiogbhkgieaaGreat
set_option linter.unusedSimpArgs false
set_option linter.unusedVariables false
section
variable {F:Nat}
theorem AF {α:Type}(x:Option α):(x.bind fun z=>some z)=x:=by cases x <;> rfl
theorem yG (root:Int)(N:NL)(i:Int)(e:DElem):jE F root N i e=nV (xc F e) F (N,i):=AF _
theorem Dg (root:Int)(N:NL)(i:Int)(e:DElem):kE F root N i e=nV (xU F e) F (N,i):=by
 refine Eq.trans ?_ (AF (nV (xU F e) F (N,i)))
 refine congrArg (fun g=>(nV g F (N,i)).bind fun z=>some z) (funext fun rf=>funext fun x=>?_)
 rfl
theorem DG (root:Int)(N:NL)(e:DElem):kA F root N e=Bi F e N root:=by
 unfold kA Bi
 rw [Dg]
 rfl
theorem xY (N:NL)(i:Int):(ja N i).length=N.length:=List.length_set
theorem ER {N:NL}{a b:Int}{x y:DNode}(h:a.toNat≠b.toNat):jv (jv (ja (ja N a) b) a x) b y=jv (jv (ja N a) a x) b y:=by
 unfold jv
 rw [show ja (ja N a) b=(ja N a).set b.toNat (.inl ((((ja N a)[b.toNat]?).map qX).getD 0)) from rfl,List.set_comm _ _ (Ne.symm h),List.set_set]
theorem CR {N M:NL}{i:Int}(h:N.length=M.length):kQ N i=kQ M i:=by unfold kQ;rw [h]
theorem Fn {N:NL}{a b:Int}{n:DNode}(h:kh (ja N a) b=some n):a.toNat≠b.toNat:=fun e=>by
 obtain⟨_,h2⟩:=mK h
 rw [← e] at h2
 have hl:a.toNat<N.length:=by
  have:=(List.getElem?_eq_some_iff.1 h2).1
  rwa [xY] at this
 unfold ja at h2
 rw [List.getElem?_set_self hl] at h2
 cases h2
theorem EJ (n m:DNode)(s:DSpot):lP n.kind n.elems n.kids n.seps n.tids m.kind m.elems m.kids m.seps m.tids s=Bv n m s:=rfl
theorem EC (root:Int)(n:DNode)(r10 r11:Int)(N:NL):kF F root N n.kind n.elems n.kids n.seps (n.tids.set r10.toNat r11) r10=(zw F n r10 r11 N).bind fun z=>some (z.2.2.2,z.1,z.2.1,z.2.2.1):=by
 unfold kF zw
 rw [Option.bind_assoc]
 refine congrArg (Option.bind _) (funext fun z=>?_)
 rw [Option.bind_assoc]
 refine congrArg (Option.bind _) (funext fun a=>?_)
 rw [Option.bind_assoc]
 refine congrArg (Option.bind _) (funext fun b=>?_)
 rw [Option.bind_assoc]
 cases h1:kh N a with
 | none=>rfl
 | some n1 =>
 rw [Option.bind_some,Option.bind_some,Option.bind_assoc]
 cases h2:kh (ja N a) b with
 | none=>rfl
 | some n2 =>
 have hne:=Fn h2
 rw [Option.bind_some,Option.bind_some,Option.bind_assoc]
 refine congrArg (Option.bind _) (funext fun x=>?_)
 rw [Option.bind_assoc,EJ]
 refine congrArg (Option.bind _) (funext fun X=>?_)
 rw [Option.bind_assoc]
 have hh : ∀ q,kQ (ja (ja N a) b) q=kQ (ja N a) q:=fun q=>CR (xY _ _)
 have hp : ∀ q y,kQ (jv (ja (ja N a) b) a y) q=kQ (jv (ja N a) a y) q:=fun q y=>CR (by rw [tY,tY,xY])
 simp only [hh,hp,ER hne]
 refine Eq.trans (b:=(Ee F n r10 r11 N z a b n1 n2 X).bind fun z'=>(kh z'.2.2.2 a).bind fun n7=>(jr F n7).bind fun r24=>(idx z'.2.2.1 z).bind fun _=>some (z'.2.2.2,z'.1,z'.2.1,z'.2.2.1.set z.toNat r24)) rfl ?_
 refine congrArg (Option.bind _) (funext fun q=>?_)
 obtain⟨q1,q2,q3,q4⟩:=q
 dsimp only
 rw [Option.bind_assoc]
 refine congrArg (Option.bind _) (funext fun n7=>?_)
 rw [Option.bind_assoc]
 refine congrArg (Option.bind _) (funext fun g=>?_)
 rw [Option.bind_assoc]
 rfl
set_option maxHeartbeats 4000000 in
theorem Dv (root:Int)(N:NL)(i:Int)(s:DSpot):kw F root N i s=nV (zk F s) F (N,i):=by
 refine Eq.trans ?_ (AF (nV (zk F s) F (N,i)))
 refine congrArg (fun g=>(nV g F (N,i)).bind fun z=>some z) (funext fun rf=>funext fun x=>?_)
 obtain⟨x1,x2⟩:=x
 show Option.bind (kh x1 x2) _=Option.bind (kh x1 x2) _
 cases kh x1 x2 with
 | none=>rfl
 | some n =>
 rw [Option.bind_some,Option.bind_some]
 refine congr (congrArg (fun a b=>bif n.kind == 1 then a else b) ?_) ?_
 · exact congrArg (fun q=>Option.bind q _) (show _=Ez F n.elems s from rfl)
 · refine congrArg (Option.bind _) (funext fun w=>?_)
   refine congrArg (Option.bind _) (funext fun k=>?_)
   refine congrArg (Option.bind _) (funext fun N2=>?_)
   refine congrArg (Option.bind _) (funext fun k2=>?_)
   refine congrArg (Option.bind _) (funext fun n4=>?_)
   refine congrArg (Option.bind _) (funext fun g=>?_)
   refine congrArg (Option.bind _) (funext fun t=>?_)
   refine congrFun (congrArg Option.bind ?_) _
   unfold ES
   cases decide ((IntKind.i64.wrap ((n4.elems.length:Int)+(n4.kids.length:Int)))<4) with
   | false=>rfl
   | true =>
    rw [cond_true,cond_true,EC,Option.bind_assoc]
    refine congrArg (Option.bind _) (funext fun q=>?_)
    obtain⟨q1,q2,q3,q4⟩:=q
    rfl
theorem BZ (root:Int)(N:NL)(s:DSpot):kU F root N s=AV F s N root:=by
 unfold kU AV
 rw [Dv]
end
section
variable {F:Nat} [Big F]
theorem AR {n:DNode}(h:ut n=0):nX n=some n:=by
 obtain⟨h1,h2⟩:=vf h
 have h3:n.seps.length≤8∧n.tids.length≤8:=by
  rcases uw.1 h with h | h | h
  · rw [h.2.2.2.1,h.2.2.2.2];simp
  · rw [h.2.seps,h.2.tids];simp
  · have:=h.2.seps;have:=h.2.tids;omega
 unfold nX
 rw [tG (by simp;omega) (by simp;omega),Option.bind_some,tG (by simp;omega) (by simp;omega),Option.bind_some,tG (by simp;omega) (by simp;omega),Option.bind_some,tG (by simp;omega) (by simp;omega),Option.bind_some]
 rfl
theorem zm {N:NL}(h : ∀(j:Nat) (k:Int),N[j]?≠some (.inl k)):m5 N=some (fN N):=by
 have e:N=(fN N).map Sum.inr:=List.ext_getElem? fun j=>by
  rw [List.getElem?_map,xg]
  cases hj:N[j]? with
  | none=>rfl
  | some x =>
   cases x with
   | inl k=>exact absurd hj (h j k)
   | inr n=>rfl
 conv=>lhs;rw [e]
 exact tu _
theorem uM {t:DTree}(hl:t.nodes.length≤400)(hc : ∀ n∈t.nodes,ut n=0):kP F t=some t:=by
 unfold kP
 rw [rO (fun k=>((t.nodes.take k).map (Sum.inr:DNode→Int ⊕ DNode),(k:Int))) t.nodes.length (by simp) (by omega) (fun k hk=>?_) (r:=t.nodes.map Sum.inr) ?_,Option.bind_some,tu,Option.bind_some]
 · dsimp only
   rw [decide_eq_false (by omega),cond_false,List.take_length]
 · have hg:t.nodes[k]? = some t.nodes[k]:=List.getElem?_eq_getElem hk
   have hr:pE 104 (((t.nodes.take k).map (Sum.inr:DNode→Int ⊕ DNode)).length+1)=some ():=by
    unfold pE;rw [List.length_map,List.length_take,if_pos ⟨by omega,by unfold maxLen;omega⟩]
   dsimp only
   rw [decide_eq_true (by omega),cond_true,tw,hg,Option.bind_some,AR (hc _ (List.getElem_mem _)),Option.bind_some,hr,Option.bind_some,w64 (by omega) (by omega),List.take_add_one,hg,List.map_append]
   rfl
def nlT (t:DTree):NL:=t.nodes.map Sum.inr
theorem uJ (t:DTree):fN (nlT t)=t.nodes:=Fc _
theorem yS {t:DTree}{j:Nat}{x:Int ⊕ DNode}(h:(nlT t)[j]? = some x):∃ n,t.nodes[j]? = some n∧x = .inr n:=by
 unfold nlT at h
 rw [List.getElem?_map] at h
 obtain⟨n,hn,rfl⟩:=Option.map_eq_some_iff.1 h
 exact⟨n,hn,rfl⟩
theorem zx {t:DTree}{h:Nat}(g:Good t h):uZ (nlT t):=fun n hn=>by rw [uJ] at hn;exact g.chk n hn
theorem xi {t:DTree}{h:Nat}(g:Good t h):ui (fN (nlT t)) h t.root (mOf 0 h) topS:=by
 rw [uJ];exact(zt g.chk h t.root 0 topS (Int.le_refl _)).1 g.ok
theorem Bn {α:Type}{p:α→Bool}:∀ {N:List α} {K:List Nat},K.Nodup→(∀(j:Nat) (x:α),N[j]? = some x→p x=true→j∈K)→N.countP p≤K.length
 | [],K,_,_=>Nat.zero_le _
 | a::N,K,hn,h=>by
  have hK : ∀(j:Nat) (x:α),N[j]? = some x→p x=true→j∈(K.filter (fun j=>j != 0)).map (· - 1):=fun j x hx hp =>
   List.mem_map.2 ⟨j+1,List.mem_filter.2 ⟨h (j+1) x (by simpa using hx) hp,by simp⟩,by simp⟩
  have hnd:((K.filter (fun j=>j != 0)).map (· - 1)).Nodup:=by
   unfold List.Nodup
   rw [List.pairwise_map]
   refine((hn.filter _).imp_of_mem fun {a b} ha hb hab e=>hab ?_)
   have h1:=(List.mem_filter.1 ha).2
   have h2:=(List.mem_filter.1 hb).2
   simp only [bne_iff_ne,ne_eq] at h1 h2
   omega
  have ih:=Bn hnd hK
  rw [List.length_map] at ih
  rw [List.countP_cons]
  by_cases hp:p a=true
  · have h0:0∈K:=h 0 a rfl hp
    have hlt:(K.filter (fun j=>j != 0)).length<K.length:=List.length_filter_lt_length_iff_exists.2 ⟨0,h0,by simp⟩
    rw [if_pos hp];omega
  · have:=List.length_filter_le (fun j=>j != 0) K
    rw [if_neg hp];omega
theorem De {t:DTree}{h:Nat}(g:Good t h):used (nlT t)≤(ids t.nodes h t.root).length:=by
 refine Bn g.nodup fun j x hx hp=>?_
 obtain⟨n,hn,rfl⟩:=yS hx
 have hlt:=(List.getElem?_eq_some_iff.1 hn).1
 exact g.all j hlt (by rw [yu hn];exact vU.1 hp)
theorem EE {ns:List DNode}(hns : ∀ n∈ns,ut n=0):∀ {h:Nat} {i:Int} {s:Span},ui ns h i 4 s→3*(ids ns h i).length+1≤(tV ns h i).length:=by
 intro h
 induction h with
 | zero =>
  intro i s c
  have:=c.2.2.1
  simp only [ids,tV,List.length_singleton];omega
 | succ h ih =>
  intro i s c
  rw [ids,tV,List.length_cons,List.length_flatMap,List.length_flatMap]
  have key : ∀ l:List Int,(∀ k∈l,3*(ids ns h k).length+1≤(tV ns h k).length)→3*(l.map fun a=>(ids ns h a).length).sum+l.length≤(l.map fun a=>(tV ns h a).length).sum:=by
   intro l
   induction l with
   | nil=>intro _;simp
   | cons a l ihl =>
    intro hk
    have:=ihl fun k h=>hk k (List.mem_cons_of_mem _ h)
    have:=hk a List.mem_cons_self
    simp only [List.map_cons,List.sum_cons,List.length_cons];omega
  have:=key (nd ns i).kids fun k hk=>by obtain ⟨t,s',x,_⟩:=c.2.2.2.mem k hk;exact ih x.1
  have:=c.2.2.1
  omega
theorem D3 {t:DTree}{h:Nat}(g:Good t h)(hl:(tV t.nodes h t.root).length≤400):(ids t.nodes h t.root).length≤134∧h<134:=by
 have hh:=xS g.chk h t.root 0 topS g.ok
 have c:=xi g
 rw [uJ] at c
 have:(ids t.nodes h t.root).length≤134:=by
  cases h with
  | zero=>simp [ids]
  | succ h =>
   have key : ∀ l:List Int,(∀ k∈l,3*(ids t.nodes h k).length+1≤(tV t.nodes h k).length)→3*(l.map fun a=>(ids t.nodes h a).length).sum+l.length≤(l.map fun a=>(tV t.nodes h a).length).sum:=by
    intro l
    induction l with
    | nil=>intro _;simp
    | cons a l ihl =>
     intro hk
     have:=ihl fun k h=>hk k (List.mem_cons_of_mem _ h)
     have:=hk a List.mem_cons_self
     simp only [List.map_cons,List.sum_cons,List.length_cons];omega
   have h1:=key (nd t.nodes t.root).kids fun k hk=>by obtain ⟨t',s',x,_⟩:=c.2.2.2.mem k hk;exact EE g.chk x.1
   have h2:2≤(nd t.nodes t.root).kids.length:=by have:=c.2.2.1;unfold mOf at this;simpa using this
   rw [tV,List.length_flatMap] at hl
   rw [ids,List.length_cons,List.length_flatMap]
   omega
 omega
theorem zq {N:NL}{h:Nat}{root:Int}(hc:uZ N)(hl:N.length≤400)(c:ui (fN N) h root (mOf 0 h) topS)(hn:(ids (fN N) h root).Nodup)(hall : ∀(j:Nat) (x:Int ⊕ DNode),N[j]? = some x→qX x≠0→j∈ids (fN N) h root):Good ⟨root,fN N⟩ h:=by
 refine⟨by show (fN N).length≤400;rw [ud];exact hl,hc,(zt hc h root 0 topS (Int.le_refl _)).2 c,hn,fun i hi hk=>?_⟩
 have hi' : i<(fN N).length:=hi
 rw [ud] at hi'
 have hg:N[i]? = some N[i]:=List.getElem?_eq_getElem hi'
 refine hall i _ hg fun h0=>hk ?_
 have:nd (fN N) (i:Int)=fN1 N[i]:=by unfold nd;rw [Int.toNat_natCast,xg,hg];rfl
 rw [this]
 cases hx:N[i] with
 | inl k=>rfl
 | inr n=>rw [hx] at h0;exact h0
theorem Fh (d:Int)(h:Nat):mOf d h≤4:=by
 unfold mOf
 split
 · exact Nat.le_refl _
 · split <;> omega
theorem BE {t:DTree}{h:Nat}(g:Good t h){N' : NL}{K:List Nat}{c:Nat}(f:Fr2 (nlT t) N' (ids (fN (nlT t)) h t.root) K c)(hK : ∀ j∈K,∃ n:DNode,N'[j]? = some (.inr n)∧n.kind≠0):∀(j:Nat) (k:Int),N'[j]?≠some (.inl k):=fun j k hj=>by
 have hold : ∀(j:Nat) (x:Int ⊕ DNode),(nlT t)[j]? = some x→qX x≠0→j∈ids (fN (nlT t)) h t.root:=fun j x hx hk=>by
  obtain⟨n,hn,rfl⟩:=yS hx
  rw [uJ]
  exact g.all j (List.getElem?_eq_some_iff.1 hn).1 (by rw [yu hn];exact hk)
 by_cases hk:k=0
 · subst hk
   obtain⟨n,_,h⟩:=yS (f.zero j hj)
   cases h
 · rcases f.all j _ hj hk with h | ⟨h,y,hy,hyk⟩
   · obtain⟨n,hn,_⟩:=hK j h
     rw [hn] at hj;cases hj
   · exact h (hold j y hy hyk)
theorem CM {t:DTree}{h:Nat}(g:Good t h){N' : NL}{K:List Nat}{c:Nat}(f:Fr2 (nlT t) N' (ids (fN (nlT t)) h t.root) K c):∀(j:Nat) (x:Int ⊕ DNode),N'[j]? = some x→qX x≠0→j∈K:=fun j x hx hk=>by
 rcases f.all j x hx hk with h | ⟨h,y,hy,hyk⟩
 · exact h
 · obtain⟨n,hn,rfl⟩:=yS hy
   exact absurd (by rw [uJ];exact g.all j (List.getElem?_eq_some_iff.1 hn).1 (by rw [yu hn];exact hyk)) h
theorem Al {t:DTree}{h:Nat}{e:DElem}(g:Good t h)(he:ug e=0)(hne : ∀ x∈tV t.nodes h t.root,tW x≠tW e)(hl:(tV t.nodes h t.root).length≤400) :
 ∃(root:Int) (N:NL),Bi F e (nlT t) t.root=some (root,N)∧m5 N=some (fN N)∧∃ h',Good ⟨root,fN N⟩ h'∧tV (fN N) h' root=AO (tV t.nodes h t.root) e:=by
 obtain⟨f1,f2⟩:=D3 g hl
 have hu:=De g
 have hF:=(inferInstance:Big F).le
 have c:=xi g
 have hsort:=(uV g.chk h t.root 0 topS g.ok).1
 have hlen:(nlT t).length≤400:=by unfold nlT;rw [List.length_map];exact g.len
 obtain⟨N',sp,r,b,hrun,hpost⟩:=D4 (F:=F) he h F (nlT t) t.root (mOf 0 h) topS (by omega) (zx g) hlen (by omega) c (by rw [uJ];exact g.nodup) rfl (by rw [uJ];exact hne)
 have sorted : ∀ {ns:List DNode} {h' : Nat} {root:Int},Good ⟨root,ns⟩ h'→(∀ x,x∈tV ns h' root↔x=e∨x∈tV t.nodes h t.root)→tV ns h' root=AO (tV t.nodes h t.root) e:=fun {ns h' root} gg hm=>by
  refine Ba (uV gg.chk h' root 0 topS gg.ok).1 (zc hsort e) fun x=>?_
  rw [hm x,BD]
  constructor
  · rintro(h | h)
    · exact .inl h
    · exact .inr ⟨h,hne x h⟩
  · rintro(h | h)
    · exact .inl h
    · exact .inr h.1
 unfold Bi
 rw [hrun,Option.bind_some]
 dsimp only
 rcases hpost with ⟨rfl,P⟩ | ⟨rfl,hsp,P⟩
 · obtain⟨k,t',e1,e2,x⟩:=P.ch
   obtain rfl:t.root=k:=by simpa using e1
   have hK : [t.root].flatMap (ids (fN N') h)=ids (fN N') h t.root:=List.flatMap_singleton ..
   have fr:=P.fr
   rw [hK] at fr
   have hcap:N'.length≤400:=by have:=fr.cap;have:=fr.use;omega
   have gg:=zq fr.chk hcap x.1 fr.nodup (CM g fr)
   refine⟨t.root,N',rfl,zm (BE g fr x.1.used),h,gg,sorted gg fun y=>?_⟩
   have:=P.elems y
   rw [List.flatMap_singleton,uJ] at this
   exact this
 · obtain⟨k,ks',t',ts',e1,e2,i1,x,k2,t2,e3,e4,y⟩:=P.ch
   obtain⟨rfl,rfl⟩ : t.root=k∧[r]=ks':=by simpa using e1
   obtain rfl:r=k2:=by simpa using e3
   have hK : [t.root,r].flatMap (ids (fN N') h)=ids (fN N') h t.root++ids (fN N') h r:=by simp
   have fr:=P.fr
   rw [hK] at fr
   have hcap:N'.length≤400:=by have:=fr.cap;have:=fr.use;omega
   have hKu : ∀ q∈ids (fN N') h t.root++ids (fN N') h r,∃ n:DNode,N'[q]? = some (.inr n)∧n.kind≠0:=fun q hq=>by
    rcases List.mem_append.1 hq with hq | hq
    · exact x.1.used q hq
    · exact y.1.used q hq
   obtain⟨N2,j,hT,tk⟩:=BU (F:=F) (N:=N') ⟨2,[],[t.root,r],[sp],[uf (nd (fN N') t.root),uf (nd (fN N') r)]⟩ (by omega)
   have cc:Ch (yh (fN N') h) [sp] topS [t.root,r] [uf (nd (fN N') t.root),uf (nd (fN N') r)]:=⟨t.root,[r],_,_,rfl,rfl,i1,⟨x.1,rfl⟩,r,_,rfl,rfl,⟨y.1,rfl⟩⟩
   have hck:=uF (n:=⟨2,[],[t.root,r],[sp],[uf (nd (fN N') t.root),uf (nd (fN N') r)]⟩) rfl (vE fr.chk hcap cc (by simp) (by simp) (List.pairwise_singleton _ _) (by simpa using hsp))
   have fr2:=fr.take tk (yX _ _ _ _) hck fun q hq=>by obtain ⟨n,hn,hk⟩:=hKu q hq;exact⟨_,hn,hk⟩
   have hlen2:N'.length≤N2.length:=by rcases tk.len with h | ⟨h,_⟩ <;> omega
   have hjK : ∀ q∈ids (fN N') h t.root++ids (fN N') h r,N2[q]? = N'[q]?:=fun q hq=>tk.same q fun e=>by
    subst e
    obtain⟨n,hn,hk⟩:=hKu q hq
    exact absurd (tk.free _ hn) hk
   obtain⟨a1,a2,a3⟩:=va hlen2 cc fun q hq=>hjK q (by rw [hK] at hq;exact hq)
   have hnd:nd (fN N2) (j:Int)=⟨2,[],[t.root,r],[sp],[uf (nd (fN N') t.root),uf (nd (fN N') r)]⟩:=w8 (by rw [Int.toNat_natCast];exact tk.at_)
   have hjl:j<N2.length:=(List.getElem?_eq_some_iff.1 tk.at_).1
   have hids:ids (fN N2) (h+1) (j:Int)=j::(ids (fN N') h t.root++ids (fN N') h r):=by
    rw [ids,hnd,Int.toNat_natCast]
    show j::[t.root,r].flatMap _=_
    rw [a2,hK]
   have sub:ui (fN N2) (h+1) (j:Int) (mOf 0 (h+1)) topS:=⟨by rw [ud];omega,by rw [hnd],by rw [hnd];unfold mOf;simp,by rw [hnd];exact a1⟩
   rw [← hids] at fr2
   have hcap2:N2.length≤400:=by have:=fr2.cap;have:=fr2.use;omega
   have gg:=zq fr2.chk hcap2 sub fr2.nodup (CM g fr2)
   refine⟨(j:Int),N2,?_,zm (BE g fr2 sub.used),h+1,gg,sorted gg fun z=>?_⟩
   · rw [Bool.not_true,cond_false,x.1.node.1,Option.bind_some,y.1.node.1,Option.bind_some,uN fr.chk x.1.range,Option.bind_some,uN fr.chk y.1.range,Option.bind_some,Bb,hT,Option.bind_some]
   · have:=P.elems z
     rw [uJ] at this
     rw [← this,tV,hnd]
     show z∈[t.root,r].flatMap _↔_
     rw [a3]
theorem yi {t:DTree}{h:Nat}{e:DElem}(g:Good t h)(he:ug e=0) :
 ∃ N:NL,nV (xc F e) F (nlT t,t.root)=some N∧m5 N=some (fN N)∧Good ⟨t.root,fN N⟩ h∧tV (fN N) h t.root=(tV t.nodes h t.root).map (vp e):=by
 have hF:=(inferInstance:Big F).le
 have hh:=vh g
 obtain⟨N,hrun,P⟩:=DP (F:=F) he h F (nlT t) t.root (mOf 0 h) topS (by omega) (zx g) (xi g) (by rw [uJ];exact g.nodup) rfl
 have hn:(ids (fN N) h t.root).Nodup:=by rw [P.ids,uJ];exact g.nodup
 have hin : ∀(j:Nat) (x:Int ⊕ DNode),N[j]? = some x→(∃ n,x = .inr n)∧(qX x≠0→j∈ids (fN N) h t.root):=fun j x hx=>by
  by_cases hj:j∈ids (fN N) h t.root
  · obtain⟨n,hn,_⟩:=P.sub.used j hj
    rw [hn] at hx
    exact⟨⟨n,(Option.some.inj hx).symm⟩,fun _=>hj⟩
  · rw [P.out j (by rw [← P.ids];exact hj)] at hx
    obtain⟨n,hn,rfl⟩:=yS hx
    exact⟨⟨n,rfl⟩,fun hk=>by
     rw [P.ids,uJ]
     exact g.all j (List.getElem?_eq_some_iff.1 hn).1 (by rw [yu hn];exact hk)⟩
 refine⟨N,hrun,zm fun j k hj=>?_,zq P.chk ?_ P.sub hn fun j x hx=>(hin j x hx).2,?_⟩
 · obtain⟨⟨n,hn⟩,_⟩:=hin j _ hj
   cases hn
 · rw [P.len];unfold nlT;rw [List.length_map];exact g.len
 · rw [P.elems,uJ]
def wd (e:DElem)(l:List DElem):Bool:=l.any fun x=>tW x == tW e
theorem DJ {e:DElem}{l:List DElem}:wd e l=true↔∃ x∈l,tW x=tW e:=by
 unfold wd;rw [List.any_eq_true]
 constructor
 · rintro⟨x,hx,h⟩;exact⟨x,hx,by simpa using h⟩
 · rintro⟨x,hx,h⟩;exact⟨x,hx,by simpa using h⟩
theorem Ex {e:DElem}{l:List DElem}(h:wd e l=false):∀ x∈l,tW x≠tW e:=fun x hx hs=>by
 rw [DJ.2 ⟨x,hx,hs⟩] at h;cases h
theorem xd (e:DElem)(a b:List DElem):wd e (a++b)=(wd e a||wd e b):=List.any_append
def FE (ns:List DNode)(m:Nat)(x:Bool × Int × Int):Prop:=zd ns m x.2.2∧0≤x.2.1∧x.2.1+((ue ns m x.2.2).length:Int)≤100000
def C0 (ns:List DNode)(e:DElem)(m:Nat)(x:Bool × Int × Int):Bool × Int:=(x.1||wd e (ue ns m x.2.2),x.2.1+((ue ns m x.2.2).length:Int))
theorem Ap {α β:Type}(f:α→List β){l:List α}{k:Nat}(hk:k<l.length):(l.take (k+1)).flatMap f=(l.take k).flatMap f++f l[k]∧((l.take k).flatMap f).length+(f l[k]).length≤(l.flatMap f).length:=by
 have h1:(l.take (k+1)).flatMap f=(l.take k).flatMap f++f l[k]:=by
  rw [List.take_add_one,List.getElem?_eq_getElem hk,List.flatMap_append];simp
 refine⟨h1,?_⟩
 have h2:l.flatMap f=(l.take (k+1)).flatMap f++(l.drop (k+1)).flatMap f:=by rw [← List.flatMap_append,List.take_append_drop]
 rw [h2,h1,List.length_append,List.length_append];omega
theorem u9 {t:DTree}(hs : ∀ n∈t.nodes,Small n){h:Nat}(hg:Good t h){e:DElem}(he:ug e=0):mU F t e=some (((tV t.nodes h t.root).length:Int),wd e (tV t.nodes h t.root),0):=by
 have hF:=(inferInstance:Big F).le
 have h4:=vh hg
 have hz:vx F t=0:=uQ.2 ⟨h,hg⟩
 have hel:=wG hg.chk h F t.root 0 topS hg.ok (by omega)
 unfold mU
 rw [uO t hs,Option.bind_some,sT hz,cond_false,uI,Option.bind_some,sT he,cond_false]
 rw [vZ (FE t.nodes) (C0 t.nodes e) ?h0 ?hstep F _ ?hpre]
 case h0 =>
  rintro⟨x1,x2,x3⟩ ⟨⟨h,d,s,hm,_⟩,_⟩
  omega
 case hpre=>exact ⟨⟨h,0,topS,by omega,hg.ok⟩,Int.le_refl _,by dsimp only;rw [hel];have:=vQ hg;omega⟩
 case hstep =>
  rintro m self ih ⟨b,c,i⟩ ⟨hok,hc0,hc1⟩
  obtain⟨⟨i0,i1⟩,hkids⟩:=hok.kids hg.chk
  dsimp only at hc0 hc1 i0 i1 hkids
  obtain⟨e8,k8⟩:=vf (hg.chk _ (uX i0 i1))
  rw [ue,List.length_append] at hc1
  dsimp only
  rw [wE i0 i1,Option.bind_some]
  rw [rO (fun k=>(b||wd e ((nd t.nodes i).elems.take k),c+(k:Int),(k:Int))) (nd t.nodes i).elems.length (r:=(b||wd e (nd t.nodes i).elems,c+((nd t.nodes i).elems.length:Int))) (by simp [wd]) (by omega) ?s1 ?e1]
  case s1 =>
   intro k hk
   have hgk:(nd t.nodes i).elems[k]? = some (nd t.nodes i).elems[k]:=List.getElem?_eq_getElem hk
   dsimp only
   rw [decide_eq_true (by omega),cond_true,tw,hgk,Option.bind_some,List.take_add_one,hgk,xd,w64 (by omega) (by omega),w64 (by omega) (by omega)]
   have e1:c+(k:Int)+1=c+((k+1:Nat):Int):=by omega
   have e2:(k:Int)+1=((k+1:Nat):Int):=by omega
   rw [e1,e2]
   cases hb:(b||wd e ((nd t.nodes i).elems.take k)) with
   | true=>rw [cond_true,Option.bind_some,← Bool.or_assoc,hb];rfl
   | false =>
    rw [cond_false,tZ,Option.bind_some,tZ,Option.bind_some,Option.bind_some,← Bool.or_assoc,hb,Bool.false_or]
    simp [wd]
  case e1 =>
   dsimp only
   rw [decide_eq_false (by omega),cond_false,List.take_length]
  rw [Option.bind_some]
  dsimp only
  have hlen:((nd t.nodes i).kids.flatMap (ue t.nodes m)).length≤100000:=by omega
  rw [rO (fun k=>(b||wd e (nd t.nodes i).elems||wd e (((nd t.nodes i).kids.take k).flatMap (ue t.nodes m)),c+((nd t.nodes i).elems.length:Int)+((((nd t.nodes i).kids.take k).flatMap (ue t.nodes m)).length:Int),(k:Int))) (nd t.nodes i).kids.length
   (r:=(b||wd e (nd t.nodes i).elems||wd e ((nd t.nodes i).kids.flatMap (ue t.nodes m)),c+((nd t.nodes i).elems.length:Int)+(((nd t.nodes i).kids.flatMap (ue t.nodes m)).length:Int))) (by simp [wd]) (by omega) ?s2 ?e2]
  case s2 =>
   intro k hk
   have hgk:(nd t.nodes i).kids[k]? = some (nd t.nodes i).kids[k]:=List.getElem?_eq_getElem hk
   obtain⟨q1,q2⟩:=Ap (ue t.nodes m) hk
   dsimp only
   rw [decide_eq_true (by omega),cond_true,tw,hgk,Option.bind_some,ih _ ⟨hkids _ (List.getElem_mem _),by dsimp only;omega,by dsimp only;omega⟩,Option.bind_some]
   unfold C0
   dsimp only
   rw [q1,xd,List.length_append,w64 (by omega) (by omega),Bool.or_assoc,Int.add_assoc (c+_)]
   rfl
  case e2 =>
   dsimp only
   rw [decide_eq_false (by omega),cond_false,List.take_length]
  rw [Option.bind_some]
  dsimp only
  unfold C0
  dsimp only
  rw [ue,xd,List.length_append,Bool.or_assoc]
  congr 2;omega
 rw [Option.bind_some]
 dsimp only
 rw [Option.bind_some]
 unfold C0
 dsimp only
 rw [hel,Bool.false_or,Int.zero_add]
theorem xL {t:DTree}(hs : ∀ n∈t.nodes,Small n)(hc:vx F t≠0)(e:DElem):mU F t e=some (0,false,vx F t):=by
 unfold mU
 rw [uO t hs,Option.bind_some,sY hc,cond_true]
theorem ym {t:DTree}(hs : ∀ n∈t.nodes,Small n){h:Nat}(hg:Good t h){e:DElem}(he:ug e≠0):mU F t e=some (0,false,ug e):=by
 unfold mU
 rw [uO t hs,Option.bind_some,sT (uQ.2 ⟨h,hg⟩),cond_false,uI,Option.bind_some,sY he,cond_true]
theorem Bo {t:DTree}{h:Nat}(g:Good t h):∀ e∈tV t.nodes h t.root,ug e=0:=fun e he=>((uV g.chk h t.root 0 topS g.ok).2 e he).2
theorem yK {t:DTree}{h:Nat}(g:Good t h):(tV t.nodes h t.root).Pairwise SpO:=(uV g.chk h t.root 0 topS g.ok).1
theorem uE {t:DTree}{h:Nat}(g:Good t h):∀ n∈t.nodes,Small n:=fun n hn=>vD (g.chk n hn)
def zT:DTree:=⟨0,[]⟩
omit [Big F] in
theorem zy (t:DTree)(e:DElem):mJ F t e=(mU F t e).bind fun r1=>bif (r1.2.2 != 0) then some (DTree.mk 0 [],r1.2.2) else bif r1.2.1 then some (DTree.mk 0 [],5) else bif decide ((400:Int)≤r1.1) then some (DTree.mk 0 [],8) else
 (kP F t).bind fun r2=>(Bi F e (nlT r2) r2.root).bind fun z=>match z with | (z1,z2)=>(m5 z2).bind fun l1=>some (DTree.mk z1 l1,0)
 := by
 unfold mJ
 simp only [DG]
 rfl
theorem yQ {t:DTree}{h:Nat}{e:DElem}(g:Good t h)(he:ug e=0)(hne:wd e (tV t.nodes h t.root)=false)(hl:(tV t.nodes h t.root).length<400) :
 ∃ t' h',mJ F t e=some (t',0)∧Good t' h'∧tV t'.nodes h' t'.root=AO (tV t.nodes h t.root) e:=by
 obtain⟨root,N,h1,h2,h',h3,h4⟩:=Al (F:=F) g he (Ex hne) (by omega)
 refine⟨⟨root,fN N⟩,h',?_,h3,h4⟩
 rw [zy,u9 (uE g) g he,Option.bind_some]
 dsimp only
 rw [sT rfl,cond_false,hne,cond_false,decide_eq_false (by omega),cond_false,uM g.len g.chk,Option.bind_some,h1,Option.bind_some]
 dsimp only
 rw [h2,Option.bind_some]
theorem yO {t:DTree}(hs : ∀ n∈t.nodes,Small n)(hc:vx F t≠0)(e:DElem):mJ F t e=some (zT,vx F t):=by
 unfold mJ
 rw [xL hs hc,Option.bind_some]
 dsimp only
 rw [sY hc,cond_true];rfl
theorem yN {t:DTree}{h:Nat}{e:DElem}(g:Good t h)(he:ug e≠0):mJ F t e=some (zT,ug e):=by
 unfold mJ
 rw [ym (uE g) g he,Option.bind_some]
 dsimp only
 rw [sY he,cond_true];rfl
theorem zg {t:DTree}{h:Nat}{e:DElem}(g:Good t h)(he:ug e=0)(ha:wd e (tV t.nodes h t.root)=true):mJ F t e=some (zT,5):=by
 unfold mJ
 rw [u9 (uE g) g he,Option.bind_some]
 dsimp only
 rw [sT rfl,cond_false,ha,cond_true];rfl
theorem yP {t:DTree}{h:Nat}{e:DElem}(g:Good t h)(he:ug e=0)(ha:wd e (tV t.nodes h t.root)=false)(hl:400≤(tV t.nodes h t.root).length):mJ F t e=some (zT,8):=by
 unfold mJ
 rw [u9 (uE g) g he,Option.bind_some]
 dsimp only
 rw [sT rfl,cond_false,ha,cond_false,decide_eq_true (by omega),cond_true];rfl
theorem yl {t:DTree}(hs : ∀ n∈t.nodes,Small n)(e:DElem):(∃ x,x≠0∧mJ F t e=some (zT,x)) ∨
 ∃ h t' h',Good t h∧ug e=0∧wd e (tV t.nodes h t.root)=false∧(tV t.nodes h t.root).length<400∧mJ F t e=some (t',0)∧Good t' h'∧tV t'.nodes h' t'.root=AO (tV t.nodes h t.root) e:=by
 by_cases hc:vx F t=0
 rotate_left
 · exact .inl ⟨_,hc,yO hs hc e⟩
 obtain⟨h,g⟩:=uQ.1 hc
 by_cases he:ug e=0
 rotate_left
 · exact .inl ⟨_,he,yN g he⟩
 cases ha:wd e (tV t.nodes h t.root) with
 | true=>exact .inl ⟨5,by decide,zg g he ha⟩
 | false =>
  by_cases hl:(tV t.nodes h t.root).length<400
  · obtain⟨t',h',q1,q2,q3⟩:=yQ (F:=F) g he ha hl
    exact .inr ⟨h,t',h',g,he,ha,hl,q1,q2,q3⟩
  · exact .inl ⟨8,by decide,yP g he ha (by omega)⟩
theorem Ac {t:DTree}{h:Nat}{e:DElem}(g:Good t h)(he:ug e=0)(hne:wd e (tV t.nodes h t.root)=true) :
 ∃ t',oU F t e=some (t',0)∧Good t' h∧tV t'.nodes h t'.root=(tV t.nodes h t.root).map (vp e):=by
 obtain⟨N,h1,h2,h3,h4⟩:=yi (F:=F) g he
 refine⟨⟨t.root,fN N⟩,?_,h3,h4⟩
 unfold oU
 rw [u9 (uE g) g he,Option.bind_some]
 dsimp only
 rw [sT rfl,cond_false,hne,Bool.not_true,cond_false,uM g.len g.chk,Option.bind_some]
 rw [yG]
 show ((nV (xc F e) F (nlT t,t.root)).bind fun q1=>(m5 q1).bind fun l1=>some ((DTree.mk t.root l1),0))=_
 rw [h1,Option.bind_some,h2,Option.bind_some]
theorem Bp {t:DTree}{h:Nat}{e:DElem}(g:Good t h)(he:ug e≠0):oU F t e=some (⟨0,[]⟩,ug e):=by
 unfold oU
 rw [ym (uE g) g he,Option.bind_some]
 dsimp only
 rw [sY he,cond_true]
end
end Go.Proofs.YtfbpiogbhkgieaaGreat
namespace Go.Proofs.YtfbpiogbhkgieaaGreat
set_option linter.unusedVariables false
set_option linter.unusedSimpArgs false
section walks
variable {τ α β:Type} {F:Nat}
def uv (t:τ→α→τ × Nat):List α→τ→τ × Nat
 | [],a=>(a,0)
 | e::l,a=>if (t a e).2=0 then uv t l (t a e).1 else t a e
theorem ve (t:τ→α→τ × Nat):∀(l m:List α) (a:τ),uv t (l++m) a=if (uv t l a).2=0 then uv t m (uv t l a).1 else uv t l a
 | [],m,a=>by simp [uv]
 | e::l,m,a=>by
  rw [List.cons_append,uv,uv]
  by_cases h:(t a e).2=0
  · rw [if_pos h,if_pos h,ve t l m]
  · rw [if_neg h,if_neg h,if_neg h]
theorem wy (t:τ→α→τ × Nat)(p:α→Bool):∀(l:List α) (a:τ),uv (fun st e=>if p e then t st e else (st,0)) l a=uv t (l.filter p) a
 | [],a=>rfl
 | e::l,a=>by
  rw [uv]
  by_cases h:p e=true
  · rw [if_pos h,List.filter_cons_of_pos h,uv]
    by_cases h0:(t a e).2=0
    · rw [if_pos h0,if_pos h0,wy t p l]
    · rw [if_neg h0,if_neg h0]
  · rw [if_neg h,if_pos rfl,List.filter_cons_of_neg h,wy t p l]
theorem vl (t:τ→α→τ × Nat)(g:β→List α):∀(l:List β) (a:τ),uv (fun st k=>uv t (g k) st) l a=uv t (l.flatMap g) a
 | [],a=>rfl
 | b::l,a=>by
  rw [uv,List.flatMap_cons,ve,vl t g l]
theorem wL (t:τ→α→τ × Nat)(len:τ→Nat)(ht : ∀ a e,len (t a e).1≤len a+1):∀(l:List α) (a:τ),len (uv t l a).1≤len a+l.length
 | [],a=>Nat.le_refl _
 | e::l,a=>by
  rw [uv,List.length_cons]
  have h1:=ht a e
  by_cases h:(t a e).2=0
  · rw [if_pos h]
    have:=wL t len ht l (t a e).1
    omega
  · rw [if_neg h];omega
theorem wo {S R:Type}[Big F]{f:S→Option (S ⊕ R)}(t:τ→α→τ × Nat)(l:List α)(enc:τ→Int→S)(o0:τ→R)(o1:τ→Nat→R)(a:τ)(hn:l.length≤9223372036854775807){s:S}(h0:s=enc a 0)
 (hs : ∀(k:Nat) (e:α) (st:τ),l[k]? = some e→uv t (l.take k) a=(st,0)→f (enc st (k:Int))=some (jO (t st e).2 (.inl (enc (t st e).1 ((k:Int)+1))) (fun n=>.inr (o1 (t st e).1 n))))
 (he : ∀ st,uv t l a=(st,0)→f (enc st (l.length:Int))=some (.inr (o0 st))) :
 iter f F s=some (jO (uv t l a).2 (o0 (uv t l a).1) (fun n=>o1 (uv t l a).1 n)):=by
 subst h0
 have key : ∀(m k N:Nat) (st:τ),k+m=l.length→m<N→uv t (l.take k) a=(st,0)→iter f N (enc st (k:Int))=some (jO (uv t l a).2 (o0 (uv t l a).1) (fun n=>o1 (uv t l a).1 n)):=by
  intro m
  induction m with
  | zero =>
   intro k N st hk hN hr
   obtain⟨N,rfl⟩ : ∃ M,N=M+1:=⟨N-1,by omega⟩
   rw [List.take_of_length_le (by omega)] at hr
   rw [iter,show k=l.length by omega,he st hr,hr];rfl
  | succ m ih =>
   intro k N st hk hN hr
   obtain⟨N,rfl⟩ : ∃ M,N=M+1:=⟨N-1,by omega⟩
   have hkl:k<l.length:=by omega
   have hg:=List.getElem?_eq_getElem hkl
   have hsplit:uv t l a=uv t (l[k]::l.drop (k+1)) st:=by
    have h1:=ve t (l.take k) (l.drop k) a
    rw [List.take_append_drop,hr,if_pos rfl,List.drop_eq_getElem_cons hkl] at h1
    exact h1
   rw [iter,hs k l[k] st hg hr]
   rw [uv] at hsplit
   cases hz:(t st l[k]).2 with
   | zero =>
    rw [iE]
    refine ih (k+1) N _ (by omega) (by omega) ?_
    rw [List.take_add_one,hg,ve,hr,if_pos rfl]
    show uv t [l[k]] st=_
    rw [uv,if_pos hz];rfl
   | succ n =>
    rw [if_neg (by omega)] at hsplit
    rw [iK,hsplit,hz,iK]
 exact key l.length 0 F a (by omega) (qH hn) rfl
end walks
def geB (s:DSpot)(e:DElem):Bool:=decide (0≤cmpS (tW e) s)
def uR (ns:List DNode)(s:DSpot):Nat→Int→List DElem
 | 0,_=>[]
 | m+1,i=>(nd ns i).elems.filter (geB s)++(if (nd ns i).kind=1 then [] else ((nd ns i).kids.drop (vH (nd ns i).seps s)).flatMap (uR ns s m))
theorem Dc (ns:List DNode)(s:DSpot):∀(m:Nat) (i:Int),(uR ns s m i).Sublist (ue ns m i):=by
 intro m
 induction m with
 | zero=>intro i;exact List.Sublist.refl _
 | succ m ih =>
  intro i
  rw [uR,ue]
  refine List.Sublist.append List.filter_sublist ?_
  split
  · exact List.nil_sublist _
  · have h1 : ∀ l : List Int, (l.flatMap (uR ns s m)).Sublist (l.flatMap (ue ns m)) := by
     intro l
     induction l with
     | nil=>exact List.Sublist.refl _
     | cons a l ihl=>rw [List.flatMap_cons,List.flatMap_cons];exact(ih a).append ihl
    refine(h1 _).trans ?_
    have h2 : ∀(l:List Int) (k:Nat),((l.drop k).flatMap (ue ns m)).Sublist (l.flatMap (ue ns m)):=by
     intro l k
     conv=>rhs;rw [← List.take_append_drop k l,List.flatMap_append]
     exact List.sublist_append_right _ _
    exact h2 _ _
theorem wY {α β:Type}(p:β→Bool)(f:α→List β):∀ l:List α,(l.flatMap f).filter p=l.flatMap fun a=>(f a).filter p
 | []=>rfl
 | a::l=>by rw [List.flatMap_cons,List.flatMap_cons,List.filter_append,wY p f l]
theorem DZ {ns:List DNode}(hns : ∀ n∈ns,ut n=0)(s:DSpot):∀(h m:Nat) (i d:Int) (sp:Span),okN ns h i d sp→h<m→uR ns s m i=(tV ns h i).filter (geB s):=by
 intro h
 induction h with
 | zero =>
  intro m i d sp hok hm
  obtain⟨m,rfl⟩ : ∃ q,m=q+1:=⟨m-1,by omega⟩
  rw [uR,tV,if_pos hok.2.1,List.append_nil]
 | succ h ih =>
  intro m i d sp hok hm
  obtain⟨m,rfl⟩ : ∃ q,m=q+1:=⟨m-1,by omega⟩
  have hI:=(vF hns hok.1 hok.2.1).2
  rw [uR,tV,if_neg hok.2.1.2,hI.elems,List.filter_nil,List.nil_append,wY]
  have hk : ∀ k∈(nd ns i).kids,uR ns s m k=(tV ns h k).filter (geB s):=fun k hk=>by
   obtain⟨q,hq⟩:=List.mem_iff_getElem?.1 hk
   exact ih m k _ _ (hok.2.2.2 (k,q) (wW hq)).1 (by omega)
  have hcong : ∀ l:List Int,(∀ k∈l,k∈(nd ns i).kids)→l.flatMap (uR ns s m)=l.flatMap fun k=>(tV ns h k).filter (geB s):=by
   intro l
   induction l with
   | nil=>intro _;rfl
   | cons a l ihl=>intro hl;rw [List.flatMap_cons,List.flatMap_cons,hk a (hl a List.mem_cons_self),ihl fun k hk=>hl k (List.mem_cons_of_mem _ hk)]
  rw [hcong _ fun k hk=>List.mem_of_mem_drop hk]
  have hnil:((nd ns i).kids.take (vH (nd ns i).seps s)).flatMap (fun k=>(tV ns h k).filter (geB s))=[]:=by
   rw [List.flatMap_eq_nil_iff]
   intro k hk
   rw [List.mem_take_iff_getElem] at hk
   obtain⟨q,hq,rfl⟩:=hk
   rw [List.filter_eq_nil_iff]
   intro e he
   have hqk:(nd ns i).kids[q]? = some (nd ns i).kids[q]:=List.getElem?_eq_getElem (by omega)
   have h1:=(hok.2.2.2 (_,q) (wW hqk)).1
   have h2:=((uV hns h _ _ _ h1).2 e he).1
   have hw:=zu (nd ns i).seps s
   have hx:(nd ns i).seps[q]? = some (nd ns i).seps[q]:=List.getElem?_eq_getElem (by omega)
   have h3:=zG hx h2
   have h4:=(Bf (nd ns i).seps s).1 q _ (by omega) hx
   have h5:=vy h3 h4
   unfold geB
   rw [decide_eq_true_eq]
   omega
  conv=>rhs;rw [← List.take_append_drop (vH (nd ns i).seps s) (nd ns i).kids,List.flatMap_append,hnil,List.nil_append]
def Eh {τ:Type}(ns:List DNode)(s:DSpot)(len:τ→Nat)(m:Nat)(x:τ × Int):Prop:=zd ns m x.2∧len x.1+(uR ns s m x.2).length≤100000
theorem Ay {τ:Type}{t:DTree}{h:Nat}(hg:Good t h)(s:DSpot)(len:τ→Nat)(a:τ)(ha:len a=0){F:Nat}[Big F]:Eh t.nodes s len F (a,t.root):=by
 have hF:=(inferInstance:Big F).le
 have h4:=vh hg
 refine⟨⟨h,0,topS,by omega,hg.ok⟩,?_⟩
 dsimp only
 have h1:=(Dc t.nodes s F t.root).length_le
 rw [wG hg.chk h F t.root 0 topS hg.ok (by omega)] at h1
 have:=vQ hg
 omega
theorem Ar {t:DTree}{h:Nat}(hg:Good t h)(s:DSpot){F:Nat}[Big F]:uR t.nodes s F t.root=(tV t.nodes h t.root).filter (geB s):=by
 have hF:=(inferInstance:Big F).le
 have h4:=vh hg
 exact DZ hg.chk s h F t.root 0 topS hg.ok (by omega)
theorem BH {τ:Type}{ns:List DNode}(hns : ∀ n∈ns,ut n=0){s:DSpot}{len:τ→Nat}{m:Nat}{a b:τ}{i:Int}(h:Eh ns s len (m+1) (a,i))(h1:(nd ns i).kind≠1){t:τ→DElem→τ × Nat}(ht : ∀ a e,len (t a e).1≤len a+1)
 (hb:uv t ((nd ns i).elems.filter (geB s)) a=(b,0)) {k:Nat} {e:Int} (hk:((nd ns i).kids.drop (vH (nd ns i).seps s))[k]? = some e) {st:τ}
 (hr:uv (fun st k=>uv t (uR ns s m k) st) (((nd ns i).kids.drop (vH (nd ns i).seps s)).take k) b=(st,0)):Eh ns s len m (st,e):=by
 have hkids:=(h.1.kids hns).2
 refine⟨hkids e (List.mem_of_mem_drop (List.mem_of_getElem? hk)),?_⟩
 rw [vl] at hr
 have q1:=wL t len ht ((nd ns i).elems.filter (geB s)) a
 rw [hb] at q1
 have q2:=wL t len ht ((((nd ns i).kids.drop (vH (nd ns i).seps s)).take k).flatMap (uR ns s m)) b
 rw [hr] at q2
 have h2:=h.2
 dsimp only at q1 q2 h2 ⊢
 rw [uR,if_neg h1,List.length_append] at h2
 obtain⟨hkl,rfl⟩:=List.getElem?_eq_some_iff.1 hk
 have h3:(((nd ns i).kids.drop (vH (nd ns i).seps s)).flatMap (uR ns s m)).length=((((nd ns i).kids.drop (vH (nd ns i).seps s)).take k).flatMap (uR ns s m)).length+(((((nd ns i).kids.drop (vH (nd ns i).seps s)).drop k)).flatMap (uR ns s m)).length:=by
  rw [← List.length_append,← List.flatMap_append,List.take_append_drop]
 rw [List.drop_eq_getElem_cons hkl,List.flatMap_cons,List.length_append] at h3
 omega
theorem Ew {ns:List DNode}{i:Int}(hI:Inner (nd ns i))(s:DSpot):vH (nd ns i).seps s≤(nd ns i).kids.length:=by
 have:=zu (nd ns i).seps s
 have:=hI.seps
 omega
end Go.Proofs.YtfbpiogbhkgieaaGreat
namespace Go.Proofs.YtfbpiogbhkgieaaGreat
set_option linter.unusedSimpArgs false
set_option linter.unusedVariables false
section
variable {F:Nat} [Big F]
abbrev FlatE:=Int × Int × Int × Int × Int × ByteArray
def Fu (e:DElem):FlatE:=(e.key.pfs,e.key.obj,e.key.off,e.made,e.gone,e.val)
def yC (s:DSpot)(st:FlatE)(e:DElem):FlatE × Nat:=if tW e=s then (Fu e,1) else (st,2)
def zO (l:List DElem)(s:DSpot):DElem × Int:=match l.head? with
 | none=>(BW,4)
 | some e=>if tW e=s then (e,0) else (BW,4)
theorem Ab {t:DTree}(hs : ∀ n∈t.nodes,Small n)(hc:vx F t≠0)(s:DSpot):nU F t s=some (BW,vx F t):=by
 unfold nU
 rw [uO t hs,Option.bind_some,sY hc,cond_true];rfl
theorem xh {t:DTree}(hs : ∀ n∈t.nodes,Small n){h:Nat}(hg:Good t h)(s:DSpot):nU F t s=some (zO ((tV t.nodes h t.root).filter (geB s)) s):=by
 have hz:vx F t=0:=uQ.2 ⟨h,hg⟩
 have hlen : ∀(a:FlatE) (e:DElem),(fun _:FlatE=>0) (yC s a e).1≤(fun _:FlatE=>0) a+1:=fun _ _=>Nat.zero_le _
 unfold nU
 rw [uO t hs,Option.bind_some,sT hz,cond_false]
 rw [vZ (σ:=Int × Int × Int × Int × Int × ByteArray × Int) (fun m x=>match x with | (x1,x2,x3,x4,x5,x6,x7)=>Eh t.nodes s (fun _:FlatE=>0) m ((x1,x2,x3,x4,x5,x6),x7))
  (fun m x=>match x with | (x1,x2,x3,x4,x5,x6,x7)=>let r:=uv (yC s) (uR t.nodes s m x7) (x1,x2,x3,x4,x5,x6);(r.2,r.1)) ?h0 ?hstep F _ (Ay hg s (fun _=>0) _ rfl)]
 case h0 =>
  rintro⟨x1,x2,x3,x4,x5,x6,x7⟩ ⟨⟨h,d,s,hm,_⟩,_⟩
  omega
 case hstep =>
  rintro m self ih ⟨x1,x2,x3,x4,x5,x6,x7⟩ hpre
  dsimp only at hpre
  obtain⟨⟨h0,h1⟩,hkids⟩:=hpre.1.kids hg.chk
  dsimp only at h0 h1 hkids ⊢
  have hmem:=uX h0 h1
  obtain⟨h8,h8'⟩:=vf (hg.chk _ hmem)
  rw [wE h0 h1,Option.bind_some]
  rw [wo (fun st e=>if geB s e then yC s st e else (st,0)) (nd t.nodes x7).elems (fun (st:FlatE) k=>(st.1,st.2.1,st.2.2.1,st.2.2.2.1,st.2.2.2.2.1,st.2.2.2.2.2,k)) Sum.inl (fun st n=>Sum.inr (n+1,st)) (x1,x2,x3,x4,x5,x6) (by omega) rfl ?hs ?he]
  case hs =>
   rintro k e ⟨y1,y2,y3,y4,y5,y6⟩ hk hr
   have hkl:=(List.getElem?_eq_some_iff.1 hk).1
   dsimp only
   rw [decide_eq_true (by omega),cond_true,tw,hk,Option.bind_some,tZ,Option.bind_some,uk,Option.bind_some,w64 (by omega) (by omega)]
   unfold geB
   by_cases hge:0≤cmpS (tW e) s
   · rw [decide_eq_true hge,cond_true,if_pos rfl,Option.bind_some]
     unfold yC
     by_cases hn:tW e=s
     · rw [if_pos hn,show (tW e == s)=true by simpa using hn];rfl
     · rw [if_neg hn,show (tW e == s)=false by simpa using hn];rfl
   · rw [decide_eq_false hge,cond_false,if_neg (by simp)];rfl
  case he =>
   rintro⟨y1,y2,y3,y4,y5,y6⟩ hr
   dsimp only
   rw [decide_eq_false (by omega)];rfl
  rw [Option.bind_some,wy,uR]
  cases hb:uv (yC s) ((nd t.nodes x7).elems.filter (geB s)) (x1,x2,x3,x4,x5,x6) with
  | mk b c =>
   rw [ve,hb]
   cases c with
   | succ c=>rfl
   | zero =>
    obtain⟨b1,b2,b3,b4,b5,b6⟩:=b
    dsimp only [jO]
    rw [if_pos rfl]
    by_cases hk:(nd t.nodes x7).kind=1
    · rw [if_pos hk,show ((nd t.nodes x7).kind == 1)=true by simpa using hk];rfl
    · rw [if_neg hk,show ((nd t.nodes x7).kind == 1)=false by simpa using hk,cond_false]
      have hw:vH (nd t.nodes x7).seps s≤(nd t.nodes x7).kids.length:=by
       rcases uw.1 (hg.chk _ hmem) with q | q | q
       · rw [q.2.2.2.1];exact Nat.zero_le _
       · exact absurd q.1 hk
       · exact Ew q.2 s
      rw [vB _ s (hs _ hmem),Option.bind_some,sL hw,Option.bind_some]
      rw [wo (fun st k=>uv (yC s) (uR t.nodes s m k) st) ((nd t.nodes x7).kids.drop (vH (nd t.nodes x7).seps s)) (fun (st:FlatE) k=>(st.1,st.2.1,st.2.2.1,st.2.2.2.1,st.2.2.2.2.1,st.2.2.2.2.2,k)) Sum.inl (fun st n=>Sum.inr (n+1,st)) (b1,b2,b3,b4,b5,b6) (by rw [List.length_drop];omega) rfl ?hs2 ?he2]
      case hs2 =>
       rintro k e ⟨y1,y2,y3,y4,y5,y6⟩ hk2 hr
       have hkl:=(List.getElem?_eq_some_iff.1 hk2).1
       rw [List.length_drop] at hkl
       dsimp only
       rw [decide_eq_true (by rw [List.length_drop];omega),cond_true,tw,hk2,Option.bind_some,ih (y1,y2,y3,y4,y5,y6,e) (BH hg.chk hpre hk hlen hb hk2 hr),Option.bind_some,w64 (by omega) (by omega)]
       dsimp only
       cases hc:uv (yC s) (uR t.nodes s m e) (y1,y2,y3,y4,y5,y6) with
       | mk y c=>cases c <;> rfl
      case he2 =>
       rintro⟨y1,y2,y3,y4,y5,y6⟩ hr
       dsimp only
       rw [decide_eq_false (by omega)];rfl
      rw [Option.bind_some,vl]
      cases hc:uv (yC s) (((nd t.nodes x7).kids.drop (vH (nd t.nodes x7).seps s)).flatMap (uR t.nodes s m)) (b1,b2,b3,b4,b5,b6) with
      | mk y c=>cases c <;> rfl
 rw [Option.bind_some]
 dsimp only
 rw [Ar hg s]
 generalize (tV t.nodes h t.root).filter (geB s)=l
 unfold zO
 cases l with
 | nil=>rfl
 | cons e l =>
  rw [uv]
  unfold yC
  dsimp only [List.head?]
  by_cases hn:tW e=s
  · rw [if_pos hn,if_pos hn,if_neg (by simp)];rfl
  · rw [if_neg hn,if_neg hn,if_neg (by simp)];rfl
end
section
variable {F:Nat} [Big F]
theorem xx {t:DTree}{h h' : Nat}{root' : Int}{N' : NL}(g:Good t h)(len:N'.length=(nlT t).length)(out : ∀ j:Nat,j ∉ ids t.nodes h t.root→N'[j]? = (nlT t)[j]?)(chk:uZ N')(sub:ui (fN N') h' root' (mOf 0 h') topS)
 (perm : ∃ Z,(ids t.nodes h t.root).Perm (Z++ids (fN N') h' root')∧∀ j∈Z,N'[j]? = some (.inr zN)):m5 N' = some (fN N')∧Good ⟨root',fN N'⟩ h':=by
 obtain⟨Z,hZ,hz⟩:=perm
 have key : ∀(j:Nat) (x:Int ⊕ DNode),N'[j]? = some x→(∃ n,x = .inr n)∧(qX x≠0→j∈ids (fN N') h' root'):=fun j x hx=>by
  by_cases hj:j∈ids t.nodes h t.root
  · rcases List.mem_append.1 (hZ.mem_iff.1 hj) with hj | hj
    · rw [hz j hj] at hx
      obtain rfl:=Option.some.inj hx
      exact⟨⟨_,rfl⟩,fun hk=>absurd rfl hk⟩
    · obtain⟨n,hn,_⟩:=sub.used j hj
      rw [hn] at hx
      exact⟨⟨n,(Option.some.inj hx).symm⟩,fun _=>hj⟩
  · rw [out j hj] at hx
    obtain⟨n,hn,rfl⟩:=yS hx
    exact⟨⟨n,rfl⟩,fun hk=>absurd (g.all j (List.getElem?_eq_some_iff.1 hn).1 (by rw [yu hn];exact hk)) hj⟩
 refine⟨zm fun j k hj=>?_,zq chk ?_ sub ?_ fun j x hx=>(key j x hx).2⟩
 · obtain⟨⟨n,hn⟩,_⟩:=key j _ hj
   cases hn
 · rw [len];unfold nlT;rw [List.length_map];exact g.len
 · exact(List.nodup_append.1 (hZ.nodup_iff.1 g.nodup)).2.1
theorem BL {N:NL}{i:Int}{n:DNode}(h:N[i.toNat]? = some (.inr n)):jv (ja N i) i n=N:=by
 refine List.ext_getElem? fun j=>?_
 by_cases hj:j=i.toNat
 · subst hj
   rw [uC _ (by rw [tX];exact(List.getElem?_eq_some_iff.1 h).1),h]
 · rw [uh _ hj,ur _ hj]
theorem yU {t:DTree}{h:Nat}{sp:DSpot}(g:Good t h) :
 ∃(root:Int) (N:NL),AV F sp (nlT t) t.root=some (N,root)∧m5 N=some (fN N)∧∃ h',Good ⟨root,fN N⟩ h'∧tV (fN N) h' root=(tV t.nodes h t.root).filter (vK sp):=by
 have hF:=(inferInstance:Big F).le
 have hfu:=vh g
 have hc:=zx g
 have c:=xi g
 have hlen:(nlT t).length≤400:=by unfold nlT;rw [List.length_map];exact g.len
 have hnd:(ids (fN (nlT t)) h t.root).Nodup:=by rw [uJ];exact g.nodup
 have hr:=c.range
 rw [ud] at hr
 unfold AV
 cases h with
 | zero =>
  obtain⟨N',hrun,P⟩:=BM (F:=F) sp 0 F (nlT t) t.root 0 topS (by omega) hc hlen (.inl rfl) c hnd rfl
  have c' : ui (fN N') 0 t.root 0 topS:=P.sub
  have L:=c'.leaf P.chk
  obtain⟨q1,q2⟩:=c'.node
  obtain⟨r1,r2⟩:=xx g P.len (fun j hj=>P.out j (by rw [uJ];exact hj)) P.chk c' (by obtain ⟨Z,hZ,hz⟩:=P.perm;rw [uJ] at hZ;exact⟨Z,hZ,hz⟩)
  refine⟨t.root,N',?_,r1,0,r2,by rw [P.elems,uJ]⟩
  rw [hrun,Option.bind_some,q1,Option.bind_some,L.kids,show (((([]:List Int).length:Int)) == 1)=false from rfl,cond_false,Option.bind_some,BL q2]
 | succ h =>
  obtain⟨f,hf⟩ : ∃ f,F=f+1:=⟨F-1,by omega⟩
  obtain⟨N3,K,X,T,hrun,M⟩:=CX (F:=F) (BM sp h) (mf:=f) (by omega) hc hlen c hnd rfl
  rw [← hf] at hrun
  have hids:ids t.nodes (h+1) t.root=t.root.toNat::(nd t.nodes t.root).kids.flatMap (ids t.nodes h):=rfl
  have hels:tV t.nodes (h+1) t.root=(nd t.nodes t.root).kids.flatMap (tV t.nodes h):=rfl
  have hMe:=M.elems
  obtain⟨Z,hZ,hz⟩:=M.perm
  rw [uJ] at hMe hZ
  have hn1:=g.nodup
  rw [hids] at hn1
  obtain⟨n1,n2⟩:=List.nodup_cons.1 hn1
  have hl3:=M.len
  have h2:2≤(nd t.nodes t.root).kids.length:=by have:=c.2.2.1;rw [uJ] at this;unfold mOf at this;simpa using this
  have hmore:=M.more
  rw [uJ] at hmore
  have hget:(jv N3 t.root ⟨2,[],K,X,T⟩)[t.root.toNat]? = some (.inr ⟨2,[],K,X,T⟩):=uC _ (by rw [hl3];omega)
  have hnode:kh (jv N3 t.root ⟨2,[],K,X,T⟩) t.root=some ⟨2,[],K,X,T⟩:=by
   unfold kh
   rw [if_neg (by omega),hget];rfl
  rw [hrun,Option.bind_some,hnode,Option.bind_some]
  dsimp only
  by_cases h1:K.length=1
  · obtain⟨k,rfl⟩:=List.length_eq_one_iff.1 h1
    obtain⟨X0,hX0⟩ : ∃ X0,X0=X:=⟨_,rfl⟩
    have hXl:=M.ch.lens.1
    obtain rfl:X=[]:=List.eq_nil_of_length_eq_zero (by simpa using hXl)
    obtain⟨k',t',e1,e2,q⟩:=M.ch
    obtain rfl:k=k':=by simpa using e1
    have hkn : ∀ j∈ids (fN N3) h k,j≠t.root.toNat:=fun j hj e=>n1 (hZ.mem_iff.2 (List.mem_append_right _ (by rw [List.flatMap_singleton,← e];exact hj)))
    have hN:jv (ja (jv N3 t.root ⟨2,[],[k],[],T⟩) t.root) t.root zN=jv N3 t.root zN:=by
     unfold jv ja
     rw [List.set_set,List.set_set]
    obtain⟨a1,a2,a3,a4⟩:=ui.agree (N':=jv N3 t.root zN) (by rw [tY];exact Nat.le_refl _) q.1 fun j hj=>uh N3 (hkn j hj)
    rw [List.flatMap_singleton] at hMe hZ
    obtain⟨r1,r2⟩:=xx (root':=k) g (by rw [tY];exact hl3) (fun j hj=>by
     have:=M.out j (by rw [uJ];exact hj)
     rw [hids,List.mem_cons,not_or] at hj
     rw [uh N3 hj.1,this]) (M.chk.put CJ) (a1.weak (Fh 0 h)) ⟨t.root.toNat::Z,by rw [hids,a2];exact List.Perm.cons _ hZ,fun j hj=>by
     rcases List.mem_cons.1 hj with rfl | hj
     · exact uC _ (by rw [hl3];omega)
     · rw [uh N3 (show j≠t.root.toNat from fun e=>n1 (hZ.mem_iff.2 (List.mem_append_left _ (by rw [← e];exact hj))))]
       exact hz j hj⟩
    refine⟨k,jv N3 t.root zN,?_,r1,h,r2,by rw [a3,hMe,hels]⟩
    rw [show ((([k]:List Int).length:Int) == 1)=true from rfl,cond_true,wA (by rw [tX,tY,hl3];exact hr),Option.bind_some,show idx [k] 0=some k from rfl,Option.bind_some,Option.bind_some]
    dsimp only
    exact congrArg (fun q=>some (q,k)) hN
  · have P:=CY hlen c hc hnd M (by omega)
    have h2K:2≤K.length:=by omega
    have hck:=uF (n:=⟨2,[],K,X,T⟩) rfl (vE M.chk (by rw [hl3];exact hlen) M.ch h2K (by have:=M.few;rw [uJ] at this;have:=(c.inner hc).eight;rw [uJ] at this;omega) M.ord M.ok)
    have hnd2:=w8 hget
    have c' : ui (fN (jv N3 t.root ⟨2,[],K,X,T⟩)) (h+1) t.root (mOf 0 (h+1)) topS :=
     ⟨P.sub.1,P.sub.2.1,by rw [hnd2];unfold mOf;simpa using h2K,P.sub.2.2.2⟩
    obtain⟨r1,r2⟩:=xx g P.len (fun j hj=>P.out j (by rw [uJ];exact hj)) P.chk c' (by obtain ⟨Z,hZ,hz⟩:=P.perm;rw [uJ] at hZ;exact⟨Z,hZ,hz⟩)
    refine⟨t.root,_,?_,r1,h+1,r2,by rw [P.elems,uJ]⟩
    rw [show ((K.length:Int) == 1)=false by rw [beq_eq_false_iff_ne];omega,cond_false,Option.bind_some,BL hget]
theorem Dw {l:List DElem}{s:DSpot}(ho:l.Pairwise SpO)(hs : ∃ x∈l,tW x=s):(zO (l.filter (geB s)) s).2=0:=by
 obtain⟨x,hx,hxs⟩:=hs
 have hm:x∈l.filter (geB s):=List.mem_filter.2 ⟨hx,by unfold geB;rw [hxs,t8.refl];rfl⟩
 have ho' : (l.filter (geB s)).Pairwise SpO:=ho.filter _
 unfold zO
 cases hl:l.filter (geB s) with
 | nil=>rw [hl] at hm;cases hm
 | cons y r =>
  have hy:geB s y=true:=(List.mem_filter.1 (show y∈l.filter (geB s) by rw [hl];exact List.mem_cons_self)).2
  rw [hl] at hm ho'
  have e:tW y=s:=by
   rcases List.mem_cons.1 hm with rfl | hm
   · exact hxs
   · have h1:cmpS (tW y) (tW x)<0:=(List.pairwise_cons.1 ho').1 x hm
     unfold geB at hy
     have h2:0≤cmpS (tW y) s:=by simpa using hy
     rw [hxs] at h1
     omega
  show (if tW y=s then (y,(0:Int)) else (BW,4)).2=0
  rw [if_pos e]
omit [Big F] in
theorem vT (t:DTree)(s:DSpot):mg F t s=(nU F t s).bind fun r1=>bif (r1.2 != 0) then some (DTree.mk 0 [],r1.2) else
 (kP F t).bind fun r2=>(AV F s (nlT r2) r2.root).bind fun z=>match z with | (z1,z2)=>(m5 z1).bind fun l1=>some (DTree.mk z2 l1,0)
 := by
 unfold mg
 simp only [BZ]
 rfl
theorem ye {t:DTree}{h:Nat}{s:DSpot}(g:Good t h)(hs : ∃ x∈tV t.nodes h t.root,tW x=s) :
 ∃ t' h',mg F t s=some (t',0)∧Good t' h'∧tV t'.nodes h' t'.root=(tV t.nodes h t.root).filter (vK s):=by
 obtain⟨root,N,h1,h2,h',h3,h4⟩:=yU (F:=F) (sp:=s) g
 refine⟨⟨root,fN N⟩,h',?_,h3,h4⟩
 have hf:=Dw (yK g) hs
 rw [vT,xh (uE g) g,Option.bind_some,hf,sT rfl,cond_false,uM g.len g.chk,Option.bind_some,h1,Option.bind_some]
 dsimp only
 rw [h2,Option.bind_some]
theorem Fq {l:List DElem}{r:Nat}{x:DElem}(ho:l.Pairwise SpO)(hx:l[r]? = some x):l.filter (vK (tW x))=l.take r++l.drop (r+1):=by
 obtain⟨hr,he⟩:=List.getElem?_eq_some_iff.1 hx
 have e:=wQ l hr
 rw [he] at e
 have hnx:vK (tW x) x=false:=by unfold vK;simp
 have ho':=ho
 rw [e] at ho'
 obtain⟨o1,o2,o3⟩:=List.pairwise_append.1 ho'
 conv=>lhs;rw [e]
 rw [List.filter_append,List.filter_cons,if_neg (by rw [hnx];decide),yw,yw]
 · intro y hy hs
   have h1:cmpS (tW x) (tW y)<0:=(List.pairwise_cons.1 o2).1 y hy
   rw [hs,t8.refl] at h1;omega
 · intro y hy hs
   have h1:cmpS (tW y) (tW x)<0:=o3 y hy x List.mem_cons_self
   rw [hs,t8.refl] at h1;omega
end
section
def Ef {τ:Type}(ns:List DNode)(len:τ→Nat)(m:Nat)(x:τ × Int):Prop:=zd ns m x.2∧len x.1+(ue ns m x.2).length≤100000
theorem Dr {τ:Type}{t:DTree}{h:Nat}(hg:Good t h)(len:τ→Nat)(a:τ)(ha:len a=0){F:Nat}[Big F]:Ef t.nodes len F (a,t.root):=by
 have hF:=(inferInstance:Big F).le
 have h4:=vh hg
 refine⟨⟨h,0,topS,by omega,hg.ok⟩,?_⟩
 dsimp only
 rw [wG hg.chk h F t.root 0 topS hg.ok (by omega)]
 have:=vQ hg
 omega
theorem yJ {t:DTree}{h:Nat}(hg:Good t h){F:Nat}[Big F]:ue t.nodes F t.root=tV t.nodes h t.root:=by
 have hF:=(inferInstance:Big F).le
 have h4:=vh hg
 exact wG hg.chk h F t.root 0 topS hg.ok (by omega)
theorem CB {τ:Type}{ns:List DNode}{len:τ→Nat}{m:Nat}{a:τ}{i:Int}(h:Ef ns len (m+1) (a,i)){t:τ→DElem→τ × Nat}(ht : ∀ a e,len (t a e).1≤len a+1){k:Nat}{e:DElem}(hk:(nd ns i).elems[k]? = some e){st:τ}
 (hr:uv t ((nd ns i).elems.take k) a=(st,0)):len st≤100000:=by
 have h1:=wL t len ht ((nd ns i).elems.take k) a
 rw [hr] at h1
 have h2:=h.2
 dsimp only at h1 h2
 rw [ue,List.length_append] at h2
 have h3:=(List.take_sublist k (nd ns i).elems).length_le
 omega
theorem Eg {τ:Type}{ns:List DNode}(hns : ∀ n∈ns,ut n=0){len:τ→Nat}{m:Nat}{a b:τ}{i:Int}(h:Ef ns len (m+1) (a,i)){t:τ→DElem→τ × Nat}(ht : ∀ a e,len (t a e).1≤len a+1)
 (hb:uv t (nd ns i).elems a=(b,0)) {k:Nat} {e:Int} (hk:(nd ns i).kids[k]? = some e) {st:τ}
 (hr:uv (fun st k=>uv t (ue ns m k) st) ((nd ns i).kids.take k) b=(st,0)):Ef ns len m (st,e):=by
 have hkids:=(h.1.kids hns).2
 refine⟨hkids e (List.mem_of_getElem? hk),?_⟩
 rw [vl] at hr
 have q1:=wL t len ht (nd ns i).elems a
 rw [hb] at q1
 have q2:=wL t len ht (((nd ns i).kids.take k).flatMap (ue ns m)) b
 rw [hr] at q2
 have h2:=h.2
 dsimp only at q1 q2 h2 ⊢
 rw [ue,List.length_append] at h2
 obtain⟨hkl,rfl⟩:=List.getElem?_eq_some_iff.1 hk
 have h3:((nd ns i).kids.flatMap (ue ns m)).length=(((nd ns i).kids.take k).flatMap (ue ns m)).length+(((nd ns i).kids.drop k).flatMap (ue ns m)).length:=by
  rw [← List.length_append,← List.flatMap_append,List.take_append_drop]
 rw [List.drop_eq_getElem_cons hkl,List.flatMap_cons,List.length_append] at h3
 omega
end
section
variable {F:Nat} [Big F]
def yg (l:List Int):Int:=if 20<l.length then 2 else if l.all fun t=>decide (0≤t)&&decide (t≤2147483647) then 0 else 9
theorem BV {l:List Int}:yg l=0↔l.length≤20∧∀ t∈l,0≤t∧t≤2147483647:=by
 unfold yg
 split
 · constructor
   · intro h;cases h
   · intro h;omega
 · split
   · rename_i h1 h2
     rw [List.all_eq_true] at h2
     refine⟨fun _=>⟨by omega,fun t ht=>by simpa using h2 t ht⟩,fun _=>rfl⟩
   · rename_i h1 h2
     constructor
     · intro h;cases h
     · intro h;exfalso;apply h2;rw [List.all_eq_true];intro t ht;simpa using h.2 t ht
theorem xr (l:List Int):mO F l=some (yg l):=by
 unfold mO yg
 by_cases h:20<l.length
 · rw [if_pos h,decide_eq_true (by omega),cond_true]
 · rw [if_neg h,decide_eq_false (by omega),cond_false]
   rw [sV l (fun t=>if (decide (0≤t)&&decide (t≤2147483647))=true then none else some (Sum.inr 9)) (Sum.inl ()) (by omega) rfl (fun k e hk=>?_) (by simp)]
   · cases hf:l.findSome? fun t=>if (decide (0≤t)&&decide (t≤2147483647))=true then none else some (Sum.inr 9:Unit ⊕ Int) with
     | none =>
      rw [List.findSome?_eq_none_iff] at hf
      rw [if_pos (List.all_eq_true.2 fun t ht=>by
       have:=hf t ht
       split at this
       · assumption
       · cases this)];rfl
     | some r =>
      obtain⟨t,ht,hr⟩:=List.exists_of_findSome?_eq_some hf
      split at hr
      · cases hr
      · rename_i h1
        obtain rfl:=Option.some.inj hr
        rw [if_neg (fun h2=>h1 (List.all_eq_true.1 h2 t ht))];rfl
   · have hkl:=(List.getElem?_eq_some_iff.1 hk).1
     rw [decide_eq_true (by omega),cond_true,tw,hk,Option.bind_some,w64 (by omega) (by omega)]
     by_cases h1:0≤e∧e≤2147483647
     · rw [show (decide (e<0)||decide ((2147483647:Int)<e))=false by rw [Bool.or_eq_false_iff];simp;omega,cond_false,if_pos (by simpa using h1)]
     · rw [show (decide (e<0)||decide ((2147483647:Int)<e))=true by rw [Bool.or_eq_true];simp;omega,cond_true,if_neg (by simpa using h1)]
def yW (e:DElem)(ts:List Int):Bool:=(e.gone == 0)||ts.any fun t=>wg e t
theorem zK (e:DElem)(ts:List Int)(hl:ts.length≤9223372036854775807):mN F e ts=some (yW e ts):=by
 unfold mN yW
 by_cases h:e.gone=0
 · rw [beq_iff_eq.2 h];rfl
 · rw [beq_eq_false_iff_ne.2 h,cond_false,Bool.false_or]
   rw [sV ts (fun t=>if wg e t=true then some (Sum.inr true) else none) (Sum.inl ()) hl rfl (fun k x hk=>?_) (by simp)]
   · cases hf:ts.findSome? fun t=>if wg e t=true then some (Sum.inr true:Unit ⊕ Bool) else none with
     | none =>
      rw [List.findSome?_eq_none_iff] at hf
      rw [show (ts.any fun t=>wg e t)=false by
       rw [List.any_eq_false];intro t ht hv;have:=hf t ht;rw [if_pos hv] at this;cases this];rfl
     | some r =>
      obtain⟨t,ht,hr⟩:=List.exists_of_findSome?_eq_some hf
      split at hr
      · rename_i hv
        obtain rfl:=Option.some.inj hr
        rw [List.any_eq_true.2 ⟨t,ht,hv⟩];rfl
      · cases hr
   · have hkl:=(List.getElem?_eq_some_iff.1 hk).1
     rw [decide_eq_true (by omega),cond_true,tw,hk,Option.bind_some,w64 (by omega) (by omega),AK,Option.bind_some]
     cases wg e x <;> rfl
end
section
def D0 (F:Nat)(t:DTree)(keep:List Int)(n:Int):Option (List DSpot) :=
 (
  (
   (nV (σ:=(List DSpot) × Int) (ρ:=(List DSpot) × Nat) (fun rf2 x=>match x with
    | (x1,x2) =>
     (idx t.nodes x2).bind fun e1 =>
      (iter (σ:=(List DSpot) × Int) (ρ:=((List DSpot)) ⊕ ((List DSpot) × Nat)) (fun x=>match x with
       | (x3,x4) =>
        bif decide (x4<(e1.elems.length:Int)) then
         (idx e1.elems x4).bind fun e2 =>
         (
          (
           bif ((x3.length:Int) == n) then
            some (x3,(0+1))
            else
             (mN F e2 keep).bind fun r4 =>
             bif (!r4) then
              (jg e2).bind fun r5 =>
              (lq 32 x3 [r5]).bind fun _ =>
              some ((x3++[r5]),0)
             else
              some (x3,0):Option ((List DSpot) × Nat)).bind fun z=>match z with
           | (z6,k4) =>
            jO k4 (
             some (z6,0))
             fun k5 =>
             some (z6,(k5+1)):Option ((List DSpot) × Nat)).bind fun z=>match z with
          | (z5,k3) =>
           jO k3 (
            some (.inl (z5,IntKind.i64.wrap (x4+1))))
            fun k6 =>
            some (.inr (.inr (z5,(k6+1))))
         else
          some (.inr (.inl x3))) F (x1,0)).bind fun z=>match z with
       | .inl z4 =>
        (iter (σ:=(List DSpot) × Int) (ρ:=((List DSpot)) ⊕ ((List DSpot) × Nat)) (fun x=>match x with
         | (x5,x6) =>
          bif decide (x6<(e1.kids.length:Int)) then
           (idx e1.kids x6).bind fun e3 =>
           (
            (rf2 (x5,e3)).bind fun z=>match z with
             | (z9,z10) =>
              jO z10 (
               some (z9,0))
               fun k8 =>
               some (z9,(k8+1)):Option ((List DSpot) × Nat)).bind fun z=>match z with
            | (z8,k7) =>
             jO k7 (
              some (.inl (z8,IntKind.i64.wrap (x6+1))))
              fun k9 =>
              some (.inr (.inr (z8,(k9+1))))
           else
            some (.inr (.inl x5))) F (z4,0)).bind fun z=>match z with
         | .inl z7 =>
          some (z7,0)
         | .inr q=>some q
       | .inr q=>some q) F ([],t.root)).bind fun z=>match z with
    | (z11,z12) =>
     jO z12 (
      some (z11,0))
      fun k10 =>
      some (z11,(k10+1)):Option ((List DSpot) × Nat)).bind fun z=>match z with
   | (z2,k1) =>
    jO k1 (
     some z2)
     fun k11 =>
     some z2:Option ((List DSpot)))
def Ed (F:Nat)(gone:List DSpot)(t:DTree):Option (Int × NL) :=
 (iter (σ:=Int × (List (Int ⊕ DNode)) × Int) (ρ:=Int × (List (Int ⊕ DNode))) (fun x=>match x with
  | (x7,x8,x9) =>
   bif decide (x9<(gone.length:Int)) then
    (idx gone x9).bind fun e4 =>
    (AV F e4 x8 x7).bind fun z=>match z with
     | (z15,z16) =>
      some (.inl (z16,z15,IntKind.i64.wrap (x9+1)))
    else
     some (.inr (x7,x8))) F (t.root,(t.nodes.map Sum.inr),0))
variable {F:Nat} [Big F]
def EM (keep:List Int)(e:DElem):Bool:=!yW e keep
def wb (keep:List Int)(n:Int)(st:List DSpot)(e:DElem):List DSpot × Nat:=if (st.length:Int)=n then (st,1) else if yW e keep then (st,0) else (st++[tW e],0)
def xK (l:List DElem)(keep:List Int)(n:Nat):List DSpot:=((l.filter (EM keep)).take n).map tW
theorem Dx (keep:List Int)(n:Nat):∀(l:List DElem) (a:List DSpot),a.length≤n→(uv (wb keep n) l a).1=a++xK l keep (n-a.length):=by
 intro l
 induction l with
 | nil=>intro a _;simp [uv,xK]
 | cons e l ih =>
  intro a ha
  rw [uv]
  by_cases h1:a.length=n
  · have e1:wb keep n a e=(a,1):=by unfold wb;rw [if_pos (by omega)]
    rw [e1,if_neg (show ¬ (1:Nat)=0 by decide),h1,Nat.sub_self]
    simp [xK]
  · by_cases h2:yW e keep=true
    · have e1:wb keep n a e=(a,0):=by unfold wb;rw [if_neg (by omega),if_pos h2]
      rw [e1,if_pos rfl,ih a ha]
      unfold xK
      rw [List.filter_cons_of_neg (by unfold EM;simp [h2])]
    · have e1:wb keep n a e=(a++[tW e],0):=by unfold wb;rw [if_neg (by omega),if_neg h2]
      rw [e1,if_pos rfl,ih _ (by simp;omega)]
      unfold xK
      rw [List.filter_cons_of_pos (by unfold EM;simp [h2]),List.length_append,List.length_singleton,show n-a.length=(n-(a.length+1))+1 by omega,List.take_succ_cons,List.map_cons,List.append_assoc]
      rfl
theorem D1 {t:DTree}{h:Nat}(hg:Good t h)(keep:List Int)(hk:keep.length≤9223372036854775807)(n:Nat):D0 F t keep (n:Int)=some (xK (tV t.nodes h t.root) keep n):=by
 have hlen : ∀(a:List DSpot) (e:DElem),List.length (wb keep n a e).1≤List.length a+1:=fun a e=>by
  unfold wb
  split
  · show a.length≤_;omega
  · split
    · show a.length≤_;omega
    · simp
 unfold D0
 rw [vZ (σ:=List DSpot × Int) (fun m x=>Ef t.nodes List.length m x) (fun m x=>uv (wb keep n) (ue t.nodes m x.2) x.1) ?h0 ?hstep F _ (Dr hg List.length [] rfl)]
 case h0 =>
  rintro⟨x1,x2⟩ ⟨⟨h,d,s,hm,_⟩,_⟩
  omega
 case hstep =>
  rintro m self ih ⟨x1,x2⟩ hpre
  obtain⟨⟨h0,h1⟩,hkids⟩:=hpre.1.kids hg.chk
  dsimp only at h0 h1 hkids ⊢
  have hmem:=uX h0 h1
  obtain⟨h8,h8'⟩:=vf (hg.chk _ hmem)
  rw [wE h0 h1,Option.bind_some]
  rw [wo (wb keep n) (nd t.nodes x2).elems (fun (st:List DSpot) k=>(st,k)) Sum.inl (fun st n=>Sum.inr (st,n+1)) x1 (by omega) rfl ?hs ?he]
  case hs =>
   intro k e y hk' hr
   have hkl:=(List.getElem?_eq_some_iff.1 hk').1
   have hyl:=CB hpre hlen hk' hr
   dsimp only
   rw [decide_eq_true (by omega),cond_true,tw,hk',Option.bind_some,w64 (by omega) (by omega)]
   unfold wb
   by_cases hn:(y.length:Int)=n
   · rw [if_pos hn,show ((y.length:Int) == (n:Int))=true by rw [beq_iff_eq];exact hn,cond_true];rfl
   · rw [if_neg hn,show ((y.length:Int) == (n:Int))=false by rw [beq_eq_false_iff_ne];exact hn,cond_false,zK e keep hk,Option.bind_some]
     cases yW e keep with
     | true=>rfl
     | false =>
      rw [Bool.not_false,cond_true,tZ,Option.bind_some,tG (by simp;omega) (by simp;omega),Option.bind_some];rfl
  case he =>
   intro y hr
   dsimp only
   rw [decide_eq_false (by omega)];rfl
  rw [Option.bind_some,ue]
  cases hb:uv (wb keep n) (nd t.nodes x2).elems x1 with
  | mk b c =>
   rw [ve,hb]
   cases c with
   | succ c=>rfl
   | zero =>
    dsimp only [jO]
    rw [if_pos rfl]
    rw [wo (fun st k=>uv (wb keep n) (ue t.nodes m k) st) (nd t.nodes x2).kids (fun (st:List DSpot) k=>(st,k)) Sum.inl (fun st n=>Sum.inr (st,n+1)) b (by omega) rfl ?hs2 ?he2]
    case hs2 =>
     intro k e y hk2 hr
     have hkl:=(List.getElem?_eq_some_iff.1 hk2).1
     dsimp only
     rw [decide_eq_true (by omega),cond_true,tw,hk2,Option.bind_some,ih (y,e) (Eg hg.chk hpre hlen hb hk2 hr),Option.bind_some,w64 (by omega) (by omega)]
     dsimp only
     cases hc:uv (wb keep n) (ue t.nodes m e) y with
     | mk y c=>cases c <;> rfl
    case he2 =>
     intro y hr
     dsimp only
     rw [decide_eq_false (by omega)];rfl
    rw [Option.bind_some,vl]
    cases hc:uv (wb keep n) ((nd t.nodes x2).kids.flatMap (ue t.nodes m)) b with
    | mk y c=>cases c <;> rfl
 rw [Option.bind_some]
 dsimp only
 rw [yJ hg]
 have hrun:=Dx keep n (tV t.nodes h t.root) [] (Nat.zero_le _)
 rw [List.nil_append,List.length_nil,Nat.sub_zero] at hrun
 cases hc:uv (wb keep n) (tV t.nodes h t.root) [] with
 | mk y c =>
  rw [hc] at hrun
  rw [← hrun]
  cases c <;> rfl
def zH (g:List DSpot)(e:DElem):Bool:=!(decide (tW e∈g))
theorem Cn (A:List DSpot)(b:DSpot)(x:DElem):zH (A++[b]) x=(vK b x&&zH A x):=by
 unfold zH vK
 rw [Bool.eq_iff_iff]
 simp [not_or,and_comm]
theorem Cy {t:DTree}{h:Nat}(hg:Good t h)(g:List DSpot)(hl:g.length≤100000):∃(root:Int) (N:NL),Ed F g t=some (root,N)∧m5 N=some (fN N)∧∃ h',Good ⟨root,fN N⟩ h'∧tV (fN N) h' root=(tV t.nodes h t.root).filter (zH g):=by
 have hF:=(inferInstance:Big F).le
 unfold Ed
 generalize hf:(fun x:Int × (List (Int ⊕ DNode)) × Int=>match x with
  | (x7,x8,x9) =>
   bif decide (x9<(g.length:Int)) then
    (idx g x9).bind fun e4 =>
    (AV F e4 x8 x7).bind fun z=>match z with
     | (z15,z16) =>
      (some (.inl (z16,z15,IntKind.i64.wrap (x9+1))):Option ((Int × (List (Int ⊕ DNode)) × Int) ⊕ (Int × (List (Int ⊕ DNode)))))
    else
     some (.inr (x7,x8)))=f
 have key : ∀(k:Nat),k≤g.length→∃(t' : DTree) (h' : Nat),(∀ n:Nat,iter f (n+k) (t.root,nlT t,0)=iter f n (t'.root,nlT t',(k:Int)))∧Good t' h'∧tV t'.nodes h' t'.root=(tV t.nodes h t.root).filter (zH (g.take k)):=by
  intro k
  induction k with
  | zero =>
   intro _
   refine⟨t,h,fun n=>rfl,hg,?_⟩
   exact(List.filter_eq_self.2 fun x _=>by unfold zH;simp).symm
  | succ k ih =>
   intro hk
   obtain⟨t1,h1,i1,i2,i3⟩:=ih (by omega)
   obtain⟨root,N,o1,o2,h2,o3,o4⟩:=yU (F:=F) (sp:=g[k]'(by omega)) i2
   have hgk:g[k]? = some (g[k]'(by omega)):=List.getElem?_eq_getElem (by omega)
   have hN:nlT ⟨root,fN N⟩=N:=by
    have:=ji o2
    unfold nlT
    exact this.symm
   refine⟨⟨root,fN N⟩,h2,fun n=>?_,o3,?_⟩
   · rw [show n+(k+1)=(n+1)+k by omega,i1,iter]
     have hstep:f (t1.root,nlT t1,(k:Int))=some (.inl (root,N,((k+1:Nat):Int))):=by
      rw [← hf]
      dsimp only
      rw [decide_eq_true (by omega),cond_true,tw,hgk,Option.bind_some,o1,Option.bind_some]
      dsimp only
      rw [w64 (by omega) (by omega)];rfl
     rw [hstep,hN]
   · show tV (fN N) h2 root=_
     rw [o4,i3,List.filter_filter,List.take_add_one,hgk]
     congr 1
     funext x
     rw [Option.toList_some,Cn]
 obtain⟨t',h',i1,i2,i3⟩:=key g.length (Nat.le_refl _)
 rw [List.take_length] at i3
 refine⟨t'.root,nlT t',?_,?_,h',?_,?_⟩
 · show iter f F (t.root,nlT t,0)=_
   rw [show F=((F-g.length-1)+1)+g.length by omega,i1,iter]
   have hend:f (t'.root,nlT t',(g.length:Int))=some (.inr (t'.root,nlT t')):=by
    rw [← hf]
    dsimp only
    rw [decide_eq_false (by omega),cond_false]
   rw [hend]
 · rw [uJ];exact tu _
 · rw [uJ];exact i2
 · rw [uJ];exact i3
omit [Big F] in
theorem vX (t:DTree)(keep:List Int)(n:Int):nu F t keep n=(lO F t).bind fun r1=>bif (r1 != 0) then some ((DTree.mk 0 []),0,r1) else (mO F keep).bind fun r2=>bif (r2 != 0) then some ((DTree.mk 0 []),0,r2) else
 bif decide (n<0) then some ((DTree.mk 0 []),0,1) else (D0 F t keep n).bind fun z1=>(kP F t).bind fun r6=>(Ed F z1 r6).bind fun z=>match z with | (z13,z14)=>(m5 z14).bind fun l2=>some ((DTree.mk z13 l2),(z1.length:Int),0)
 := by
 unfold nu
 simp only [BZ]
 rfl
theorem xZ {t:DTree}{h:Nat}(hg:Good t h):lO F t=some (xJ (tV t.nodes h t.root)):=by
 unfold lO
 rw [vY (uE hg) hg,Option.bind_some]
 dsimp only
 rw [show ((0:Int) != 0)=false from rfl,cond_false,yA];rfl
theorem zj {t:DTree}{h:Nat}(hg:Good t h)(hr:xJ (tV t.nodes h t.root)=0){keep:List Int}(hk:yg keep=0)(n:Nat) :
 ∃ t' h',nu F t keep (n:Int)=some (t',((xK (tV t.nodes h t.root) keep n).length:Int),0)∧Good t' h'∧tV t'.nodes h' t'.root=(tV t.nodes h t.root).filter (zH (xK (tV t.nodes h t.root) keep n)):=by
 have hkl:=(BV.1 hk).1
 have hsm:=vQ hg
 have hgl:(xK (tV t.nodes h t.root) keep n).length≤100000:=by
  unfold xK
  rw [List.length_map,List.length_take]
  have:=List.length_filter_le (EM keep) (tV t.nodes h t.root)
  omega
 obtain⟨root,N,o1,o2,h',o3,o4⟩:=Cy (F:=F) hg _ hgl
 refine⟨⟨root,fN N⟩,h',?_,o3,o4⟩
 rw [vX,xZ hg,Option.bind_some,hr,sT rfl,cond_false,xr,Option.bind_some,hk,sT rfl,cond_false,decide_eq_false (by omega),cond_false,D1 hg keep (by omega),Option.bind_some,uM hg.len hg.chk,Option.bind_some,o1,Option.bind_some]
 dsimp only
 rw [o2,Option.bind_some]
end
section
variable {F:Nat} [Big F]
theorem zi {t:DTree}(hs : ∀ n∈t.nodes,Small n){h:Nat}(hg:Good t h):lO F t=some (xJ (tV t.nodes h t.root)):=by
 unfold lO
 rw [vY hs hg,Option.bind_some]
 dsimp only
 rw [show ((0:Int) != 0)=false from rfl,cond_false,yA];rfl
theorem wt {t:DTree}(hs : ∀ n∈t.nodes,Small n)(hc:vx F t≠0):lO F t=some (vx F t):=by
 unfold lO
 rw [yD hs hc,Option.bind_some]
 dsimp only
 rw [sY hc,cond_true]
theorem Fg {l:List DElem}(hp:l.Pairwise SpO){i j:Nat}{a b:DElem}(hij:i≤j)(ha:l[i]? = some a)(hb:l[j]? = some b):cmpK a.key b.key≤0:=by
 by_cases e:i=j
 · subst e
   rw [ha] at hb
   obtain rfl:=Option.some.inj hb
   rw [uj.refl];exact Int.le_refl _
 · have:=uT hp (show i<j by omega) ha hb
   unfold SpO at this
   rcases yj.1 this with h | ⟨h,_⟩
   · exact Int.le_of_lt h
   · unfold tW at h
     dsimp only at h
     rw [h,uj.refl];exact Int.le_refl _
theorem DK {l:List DElem}(ho : ∀ e∈l,ug e=0)(k:DKey)(u:Int):(l.filter (geB ⟨k,0⟩)).find? (fun e=>e.key == k&&wg e u)=atR l k u:=by
 unfold atR
 rw [List.find?_filter]
 have : ∀ m:List DElem,(∀ e∈m,e∈l)→m.find? (fun a=>decide (geB ⟨k,0⟩ a=true∧(a.key == k&&wg a u)=true))=m.find? fun e=>e.key == k&&wg e u:=by
  intro m
  induction m with
  | nil=>intro _;rfl
  | cons e m ih =>
   intro hm
   rw [List.find?_cons,List.find?_cons,ih fun x hx=>hm x (List.mem_cons_of_mem _ hx)]
   by_cases hk:e.key=k
   · obtain⟨_,h1,_⟩:=vV (ho e (hm e List.mem_cons_self))
     have hge:geB ⟨k,0⟩ e=true:=by
      refine decide_eq_true ?_
      have h2:=t8.neg (tW e) ⟨k,0⟩
      have:cmpS ⟨k,0⟩ (tW e)<0:=yj.2 (.inr ⟨hk.symm,by show (0:Int)<e.made;omega⟩)
      omega
     have hd:decide (geB ⟨k,0⟩ e=true∧(e.key == k&&wg e u)=true)=(e.key == k&&wg e u):=by cases hq:(e.key == k&&wg e u) <;> simp [hge]
     rw [hd]
   · have:(e.key == k)=false:=by simpa using hk
     rw [this];simp
 first
 | exact this l fun e he=>he
 | (simp only [Bool.decide_and,Bool.decide_eq_true] at this;exact this l fun e he=>he)
theorem Dd {l:List DElem}{k:DKey}:∀ e∈l.filter (geB ⟨k,0⟩),0≤cmpK e.key k:=fun e he=>by
 have h1:=(List.mem_filter.1 he).2
 unfold geB at h1
 have h1:=of_decide_eq_true h1
 by_cases h:cmpK e.key k<0
 · have:cmpS (tW e) ⟨k,0⟩<0:=yj.2 (.inl h)
   omega
 · omega
end
section
variable {F:Nat} [Big F]
abbrev FlatN:=Bool × Int × Int × Int × Int × Int × ByteArray
def flatN (e:DElem):FlatN:=(true,e.key.pfs,e.key.obj,e.key.off,e.made,e.gone,e.val)
def wu (k:DKey)(st:FlatN)(e:DElem):FlatN × Nat:=if e.key≠k then (st,1) else if e.gone=0 then (flatN e,2) else (st,0)
theorem BT {k:DKey}{st:FlatN}{e:DElem}(h:e.key≠k):wu k st e=(st,1):=if_pos h
theorem CH {k:DKey}{st:FlatN}{e:DElem}(h:e.key=k)(hl:e.gone=0):wu k st e=(flatN e,2):=by
 unfold wu;rw [if_neg (fun h'=>h' h),if_pos hl]
theorem CG {k:DKey}{st:FlatN}{e:DElem}(h:e.key=k)(hl : ¬ e.gone=0):wu k st e=(st,0):=by
 unfold wu;rw [if_neg (fun h'=>h' h),if_neg hl]
theorem EU (k:DKey)(u:Int):∀(l:List DElem),l.Pairwise SpO→(∀ e∈l,0≤cmpK e.key k)→(∀ e∈l,uP e≤u)→∀ a:FlatN,(∃ e,l.find? (fun e=>e.key == k&&wg e u)=some e∧uv (wu k) l a=(flatN e,2))∨(l.find? (fun e=>e.key == k&&wg e u)=none∧∃ c,c≤1∧uv (wu k) l a=(a,c)):=by
 intro l
 induction l with
 | nil=>intro _ _ _ a;exact .inr ⟨rfl,0,by omega,rfl⟩
 | cons e l ih =>
  intro hp hk hu a
  have hlv:=Ax (hu e List.mem_cons_self)
  rw [uv]
  by_cases he:e.key=k
  · have hb:(e.key == k)=true:=by simpa using he
    rw [List.find?_cons,hb,hlv]
    by_cases hl:e.gone=0
    · left
      rw [CH he hl,if_neg (by simp),show (e.gone == 0)=true by simpa using hl]
      exact⟨e,rfl,rfl⟩
    · rw [CG he hl,if_pos rfl,show (e.gone == 0)=false by simpa using hl]
      exact ih (List.pairwise_cons.1 hp).2 (fun x hx=>hk x (List.mem_cons_of_mem _ hx)) (fun x hx=>hu x (List.mem_cons_of_mem _ hx)) a
  · right
    rw [BT he,if_neg (by simp)]
    refine⟨?_,1,Nat.le_refl _,rfl⟩
    rw [List.find?_eq_none]
    intro x hx hq
    have hxk:x.key=k:=by
     have:=(Bool.and_eq_true_iff.1 hq).1
     simpa using this
    have h1:=hk e List.mem_cons_self
    obtain⟨j,hj⟩:=List.mem_iff_getElem?.1 hx
    have h2:=Fg hp (i:=0) (j:=j) (Nat.zero_le _) rfl hj
    rw [hxk] at h2
    exact he ((uj.zero _ _).1 (by omega))
def AU (o:Option DElem):DElem × Bool:=match o with
 | some e=>(e,true)
 | none=>(BW,false)
theorem vI {t:DTree}{h:Nat}(hg:Good t h)(hr:Run (tV t.nodes h t.root))(k:DKey):mZ F t k=some (AU (vc (tV t.nodes h t.root) k)):=by
 have hs:=uE hg
 have hlen : ∀(a:FlatN) (e:DElem),(fun _:FlatN=>0) (wu k a e).1≤(fun _:FlatN=>0) a+1:=fun _ _=>Nat.zero_le _
 unfold mZ
 rw [vZ (σ:=Bool × Int × Int × Int × Int × Int × ByteArray × Int) (fun m x=>match x with | (x0,x1,x2,x3,x4,x5,x6,x7)=>Eh t.nodes ⟨k,0⟩ (fun _:FlatN=>0) m ((x0,x1,x2,x3,x4,x5,x6),x7))
  (fun m x=>match x with | (x0,x1,x2,x3,x4,x5,x6,x7)=>let r:=uv (wu k) (uR t.nodes ⟨k,0⟩ m x7) (x0,x1,x2,x3,x4,x5,x6);(r.2,r.1)) ?h0 ?hstep F _ (Ay hg ⟨k,0⟩ (fun _=>0) _ rfl)]
 case h0 =>
  rintro⟨x0,x1,x2,x3,x4,x5,x6,x7⟩ ⟨⟨h,d,s,hm,_⟩,_⟩
  omega
 case hstep =>
  rintro m self ih ⟨x0,x1,x2,x3,x4,x5,x6,x7⟩ hpre
  dsimp only at hpre
  obtain⟨⟨h0,h1⟩,hkids⟩:=hpre.1.kids hg.chk
  dsimp only at h0 h1 hkids ⊢
  have hmem:=uX h0 h1
  obtain⟨h8,h8'⟩:=vf (hg.chk _ hmem)
  rw [wE h0 h1,Option.bind_some]
  rw [wo (fun st e=>if geB ⟨k,0⟩ e then wu k st e else (st,0)) (nd t.nodes x7).elems (fun (st:FlatN) j=>(st.1,st.2.1,st.2.2.1,st.2.2.2.1,st.2.2.2.2.1,st.2.2.2.2.2.1,st.2.2.2.2.2.2,j)) Sum.inl (fun st n=>Sum.inr (n+1,st)) (x0,x1,x2,x3,x4,x5,x6) (by omega) rfl ?hs ?he]
  case hs =>
   rintro j e ⟨y0,y1,y2,y3,y4,y5,y6⟩ hj hr
   have hkl:=(List.getElem?_eq_some_iff.1 hj).1
   dsimp only
   rw [decide_eq_true (by omega),cond_true,tw,hj,Option.bind_some,tZ,Option.bind_some,uk,Option.bind_some,w64 (by omega) (by omega)]
   unfold geB
   by_cases hge:0≤cmpS (tW e) ⟨k,0⟩
   · rw [decide_eq_true hge,cond_true,if_pos rfl]
     unfold wu
     by_cases hn:e.key=k
     · rw [if_neg (show ¬ e.key≠k by simpa using hn),show (!(e.key == k))=false by simpa using hn,cond_false]
       by_cases hz:e.gone=0
       · rw [if_pos hz,show (e.gone == 0)=true by simpa using hz];rfl
       · rw [if_neg hz,show (e.gone == 0)=false by simpa using hz];rfl
     · rw [if_pos hn,show (!(e.key == k))=true by simpa using hn];rfl
   · rw [decide_eq_false hge,cond_false,if_neg (by simp)];rfl
  case he =>
   rintro⟨y0,y1,y2,y3,y4,y5,y6⟩ hr
   dsimp only
   rw [decide_eq_false (by omega)];rfl
  rw [Option.bind_some,wy,uR]
  cases hb:uv (wu k) ((nd t.nodes x7).elems.filter (geB ⟨k,0⟩)) (x0,x1,x2,x3,x4,x5,x6) with
  | mk b c =>
   rw [ve,hb]
   cases c with
   | succ c=>rfl
   | zero =>
    obtain⟨b0,b1,b2,b3,b4,b5,b6⟩:=b
    dsimp only [jO]
    rw [if_pos rfl]
    by_cases hkd:(nd t.nodes x7).kind=1
    · rw [if_pos hkd,show ((nd t.nodes x7).kind == 1)=true by simpa using hkd];rfl
    · rw [if_neg hkd,show ((nd t.nodes x7).kind == 1)=false by simpa using hkd,cond_false]
      have hw:vH (nd t.nodes x7).seps ⟨k,0⟩≤(nd t.nodes x7).kids.length:=by
       rcases uw.1 (hg.chk _ hmem) with q | q | q
       · rw [q.2.2.2.1];exact Nat.zero_le _
       · exact absurd q.1 hkd
       · exact Ew q.2 ⟨k,0⟩
      rw [vB _ ⟨k,0⟩ (hs _ hmem),Option.bind_some,sL hw,Option.bind_some]
      rw [wo (fun st j=>uv (wu k) (uR t.nodes ⟨k,0⟩ m j) st) ((nd t.nodes x7).kids.drop (vH (nd t.nodes x7).seps ⟨k,0⟩)) (fun (st:FlatN) j=>(st.1,st.2.1,st.2.2.1,st.2.2.2.1,st.2.2.2.2.1,st.2.2.2.2.2.1,st.2.2.2.2.2.2,j)) Sum.inl (fun st n=>Sum.inr (n+1,st)) (b0,b1,b2,b3,b4,b5,b6) (by rw [List.length_drop];omega) rfl ?hs2 ?he2]
      case hs2 =>
       rintro j e ⟨y0,y1,y2,y3,y4,y5,y6⟩ hk2 hr
       have hkl:=(List.getElem?_eq_some_iff.1 hk2).1
       rw [List.length_drop] at hkl
       dsimp only
       rw [decide_eq_true (by rw [List.length_drop];omega),cond_true,tw,hk2,Option.bind_some,ih (y0,y1,y2,y3,y4,y5,y6,e) (BH hg.chk hpre hkd hlen hb hk2 hr),Option.bind_some,w64 (by omega) (by omega)]
       dsimp only
       cases hc:uv (wu k) (uR t.nodes ⟨k,0⟩ m e) (y0,y1,y2,y3,y4,y5,y6) with
       | mk y c=>cases c <;> rfl
      case he2 =>
       rintro⟨y0,y1,y2,y3,y4,y5,y6⟩ hr
       dsimp only
       rw [decide_eq_false (by omega)];rfl
      rw [Option.bind_some,vl]
      cases hc:uv (wu k) (((nd t.nodes x7).kids.drop (vH (nd t.nodes x7).seps ⟨k,0⟩)).flatMap (uR t.nodes ⟨k,0⟩ m)) (b0,b1,b2,b3,b4,b5,b6) with
      | mk y c=>cases c <;> rfl
 rw [Option.bind_some]
 dsimp only
 rw [Ar hg ⟨k,0⟩]
 obtain⟨hsort,hall⟩:=uV hg.chk h t.root 0 topS hg.ok
 have hlast:=hr.last_le
 have hat:=DK (fun e he=>(hall e he).2) k 2147483647 (l:=tV t.nodes h t.root)
 rw [EN hr hlast] at hat
 rcases EU k 2147483647 _ (hsort.filter _) Dd (fun e he=>by have:=wI (List.mem_filter.1 he).1;omega) (false,0,0,0,0,0,ByteArray.mk #[]) with ⟨e,h1,h2⟩ | ⟨h1,c,hc,h2⟩
 · rw [h2,← hat,h1];rfl
 · rw [h2,← hat,h1]
   have:c=0∨c=1:=by omega
   rcases this with rfl | rfl <;> rfl
theorem Df {ns:List DNode}(hns : ∀ n∈ns,ut n=0):∀ {h:Nat} {i:Int} {m:Nat} {s:Span},ui ns h i m s→uf (nd ns i)=vo (tV ns h i):=by
 intro h
 induction h with
 | zero =>
  intro i m s c
  have L:=c.leaf hns
  obtain⟨g1,g2,g3⟩:=xQ (nd ns i)
  have g0:=(xj (hns _ (uX c.range.1 c.range.2))).1
  have hnn:=yp (nd ns i).elems
  rw [tV]
  refine Int.le_antisymm ?_ (wH.2 ⟨g0,g1⟩)
  rcases g3 with g3 | ⟨e,he,g3⟩ | ⟨t,ht,_⟩
  · omega
  · rw [← g3];exact wI he
  · rw [L.tids] at ht;cases ht
 | succ h ih =>
  intro i m s c
  have L:=c.inner hns
  obtain⟨g1,g2,g3⟩:=xQ (nd ns i)
  have g0:=(xj (hns _ (uX c.range.1 c.range.2))).1
  have hch:=c.2.2.2
  rw [tV]
  have hnn:=yp ((nd ns i).kids.flatMap (tV ns h))
  refine Int.le_antisymm ?_ (wH.2 ⟨g0,fun e he=>?_⟩)
  · rcases g3 with g3 | ⟨e,he,_⟩ | ⟨t,ht,g3⟩
    · omega
    · rw [L.elems] at he;cases he
    · obtain⟨k,s',hk,x⟩:=hch.tmem t ht
      rw [← g3,← x.2,ih x.1]
      exact wH.2 ⟨hnn,fun e he=>wI (List.mem_flatMap.2 ⟨k,hk,he⟩)⟩
  · obtain⟨k,hk,he⟩:=List.mem_flatMap.1 he
    obtain⟨q,hq⟩:=List.mem_iff_getElem?.1 hk
    obtain⟨t,s',ht,x,_⟩:=hch.at_ q k hq
    have h1:=g2 t (List.mem_of_getElem? ht)
    have h2:=wI he
    rw [← ih x.1,x.2] at h2
    omega
theorem vv {t:DTree}{h:Nat}(hg:Good t h)(u:Int):mA F t u=some (decide (u<1∨2147483647<u∨u<vo (tV t.nodes h t.root))):=by
 have c:=xi hg
 rw [uJ] at c
 have hgr:=Df hg.chk c
 obtain⟨h0,h1⟩:=c.range
 unfold mA
 by_cases h2:u<1
 · rw [decide_eq_true h2,cond_true,Option.bind_some,decide_eq_true (.inl h2)]
 · rw [decide_eq_false h2,cond_false]
   by_cases h3:2147483647<u
   · rw [decide_eq_true h3,cond_true,Option.bind_some,decide_eq_true (.inr (.inl h3))]
   · rw [decide_eq_false h3,cond_false,wE h0 h1,Option.bind_some,uS _ (vD (hg.chk _ (uX h0 h1))),Option.bind_some,Option.bind_some,hgr]
     congr 1
     rw [Bool.eq_iff_iff,decide_eq_true_eq,decide_eq_true_eq]
     omega
theorem wh {t:DTree}{h:Nat}(hg:Good t h):nB F t=some (decide (400≤(tV t.nodes h t.root).length)):=by
 have hlen : ∀(a:Nat) (e:DElem),(fun a:Nat=>a) ((fun (a:Nat) (_:DElem)=>(a+1,0)) a e).1≤(fun a:Nat=>a) a+1:=fun _ _=>Nat.le_refl _
 unfold nB
 rw [vZ (σ:=Int × Int) (fun m x=>zd t.nodes m x.2∧0≤x.1∧x.1+((ue t.nodes m x.2).length:Int)≤100000) (fun m x=>x.1+((ue t.nodes m x.2).length:Int)) ?h0 ?hstep F _ ?hpre]
 case h0 =>
  rintro⟨x1,x2⟩ ⟨⟨h,d,s,hm,_⟩,_⟩
  omega
 case hpre =>
  have hF:=(inferInstance:Big F).le
  have h4:=vh hg
  refine⟨⟨h,0,topS,by omega,hg.ok⟩,Int.le_refl _,?_⟩
  dsimp only
  rw [yJ hg]
  have:=vQ hg
  omega
 case hstep =>
  rintro m self ih ⟨x1,x2⟩ ⟨hok,hc0,hc1⟩
  obtain⟨⟨h0,h1⟩,hkids⟩:=hok.kids hg.chk
  dsimp only at h0 h1 hkids hc0 hc1 ⊢
  obtain⟨h8,h8'⟩:=vf (hg.chk _ (uX h0 h1))
  rw [ue,List.length_append] at hc1
  rw [wE h0 h1,Option.bind_some]
  rw [rO (fun k=>(x1+(k:Int),(k:Int))) (nd t.nodes x2).elems.length (r:=x1+((nd t.nodes x2).elems.length:Int)) (by simp) (by omega) ?s1 ?e1]
  case s1 =>
   intro k hk
   dsimp only
   rw [decide_eq_true (by omega),cond_true,tw,List.getElem?_eq_getElem hk,Option.bind_some,w64 (by omega) (by omega),w64 (by omega) (by omega)]
   congr 3;omega
  case e1 =>
   dsimp only
   rw [decide_eq_false (by omega),cond_false]
  rw [Option.bind_some]
  have hlen:((nd t.nodes x2).kids.flatMap (ue t.nodes m)).length≤100000:=by omega
  rw [rO (fun k=>(x1+((nd t.nodes x2).elems.length:Int)+((((nd t.nodes x2).kids.take k).flatMap (ue t.nodes m)).length:Int),(k:Int))) (nd t.nodes x2).kids.length (r:=x1+((nd t.nodes x2).elems.length:Int)+(((nd t.nodes x2).kids.flatMap (ue t.nodes m)).length:Int)) (by simp) (by omega) ?s2 ?e2]
  case s2 =>
   intro k hk
   have hgk:(nd t.nodes x2).kids[k]? = some (nd t.nodes x2).kids[k]:=List.getElem?_eq_getElem hk
   obtain⟨q1,q2⟩:=Ap (ue t.nodes m) hk
   dsimp only
   rw [decide_eq_true (by omega),cond_true,tw,hgk,Option.bind_some,ih _ ⟨hkids _ (List.getElem_mem _),by dsimp only;omega,by dsimp only;omega⟩,Option.bind_some,w64 (by omega) (by omega)]
   dsimp only
   rw [q1,List.length_append]
   congr 3;omega
  case e2 =>
   dsimp only
   rw [decide_eq_false (by omega),cond_false,List.take_length]
  rw [Option.bind_some,ue,List.length_append]
  congr 1;omega
 rw [Option.bind_some,Option.bind_some]
 dsimp only
 rw [yJ hg]
 congr 1
 rw [Bool.eq_iff_iff,decide_eq_true_eq,decide_eq_true_eq]
 omega
theorem CZ {A B:List DElem}{e y:DElem}(hs:tW y=tW e)(ho:(A++e::B).Pairwise SpO):(A++e::B).map (vp y)=A++y::B:=by
 obtain⟨o1,o2,o3⟩:=List.pairwise_append.1 ho
 rw [List.map_append,List.map_cons,yd,yd]
 · unfold vp;rw [if_pos hs.symm]
 · intro x hx h
   have h1:cmpS (tW e) (tW x)<0:=(List.pairwise_cons.1 o2).1 x hx
   rw [h,hs,t8.refl] at h1;omega
 · intro x hx h
   have h1:cmpS (tW x) (tW e)<0:=o3 x hx e List.mem_cons_self
   rw [h,hs,t8.refl] at h1;omega
theorem ET {A B:List DElem}{e:DElem}(ho:(A++e::B).Pairwise SpO):(A++e::B).filter (vK (tW e))=A++B:=by
 have hg:(A++e::B)[A.length]? = some e:=by rw [List.getElem?_append_right (Nat.le_refl _)];simp
 rw [Fq ho hg,List.take_left' rfl,show A++e::B=(A++[e])++B by simp,List.drop_left' (by simp)]
section
variable {l:List DElem} {k:DKey} {t:Int} {v:ByteArray}
theorem yT (h:Run l){e:DElem}(hn:vc l k=some e):∃ a,l=(lo l k++a)++e::hi l k∧clo (hist l k) t=a++(if e.made=t then [] else [{ e with gone:=t }]):=by
 obtain⟨a,ha,hc⟩:=CN (t:=t) h.ord hn
 refine⟨a,?_,hc⟩
 conv=>lhs;rw [AZ k h.ord,ha]
 simp
theorem EQ (h:Run l){e:DElem}(hn:vc l k=some e)(hm:e.made=t):l.map (vp (vJ k v t))=putR l k v t:=by
 obtain⟨a,h1,h2⟩:=yT (t:=t) h hn
 have hk:=((wK h.ord).1 hn).2.1
 have ho:=xy h.ord
 rw [h1] at ho
 have hsp:tW (vJ k v t)=tW e:=by unfold tW vJ;rw [hk,hm]
 conv=>lhs;rw [h1]
 rw [CZ hsp ho]
 unfold putR upd
 rw [h2,if_pos hm]
 simp
theorem zp (h:Run l){e:DElem}(hn:vc l k=some e)(hm:e.made≠t):l.map (vp { e with gone:=t })=cutR l k t:=by
 obtain⟨a,h1,h2⟩:=yT (t:=t) h hn
 have ho:=xy h.ord
 rw [h1] at ho
 conv=>lhs;rw [h1]
 rw [CZ (e:=e) (y:={ e with gone:=t }) rfl ho]
 unfold cutR upd
 rw [h2,if_neg hm]
 simp
theorem Ey (h:Run l){e:DElem}(hn:vc l k=some e)(hm:e.made=t):l.filter (vK (tW e))=cutR l k t:=by
 obtain⟨a,h1,h2⟩:=yT (t:=t) h hn
 have ho:=xy h.ord
 rw [h1] at ho
 conv=>lhs;rw [h1]
 rw [ET ho]
 unfold cutR upd
 rw [h2,if_pos hm]
 simp
theorem Az (h:Run l)(ht:vo l≤t)(hc:ug (vJ k v t)=0):∀ x∈cutR l k t,tW x≠tW (vJ k v t):=by
 obtain⟨_,h0,h1,_⟩:=yv hc
 obtain⟨c1,c2,c3⟩:=h.clo ht h0 h1 k
 intro x hx hs
 unfold cutR at hx
 have hk:x.key=k:=congrArg DSpot.key hs
 have hmd:x.made=t:=congrArg DSpot.made hs
 rcases (xE h.ord).1 hx with hx | ⟨_,hx⟩
 · have:=(c3 x hx).2;omega
 · exact hx hk
theorem BI (h:Run l)(hn:vc l k=none):(putR l k v t).length=l.length+1:=by rw [yb h,hn]
theorem BJ (h:Run l){e:DElem}(hn:vc l k=some e)(hm:e.made=t):(putR l k v t).length=l.length:=by rw [yb h,hn];exact if_pos hm
theorem BK (h:Run l){e:DElem}(hn:vc l k=some e)(hm : ¬ e.made=t):(putR l k v t).length=l.length+1:=by rw [yb h,hn];exact if_neg hm
theorem EP (h:Run l)(ht:vo l≤t)(hc:ug (vJ k v t)=0)(hn:(putR l k v t).length≤400):AO (cutR l k t) (vJ k v t)=putR l k v t:=by
 obtain⟨_,h0,h1,_⟩:=yv hc
 have hcut:=h.cutR ht h0 h1 k
 have hput:=h.putR ht hc hn
 refine Ba (zc (xy hcut.ord) _) (xy hput.ord) fun x=>?_
 rw [BD]
 have hf:=Az h ht hc
 unfold putR
 rw [xE h.ord,List.mem_append,List.mem_singleton]
 constructor
 · rintro(rfl | ⟨hx,_⟩)
   · exact .inl (.inr rfl)
   · unfold cutR at hx
     rcases (xE h.ord).1 hx with hx | hx
     · exact .inl (.inl hx)
     · exact .inr hx
 · rintro((hx | rfl) | hx)
   · have hm:x∈cutR l k t:=by unfold cutR;exact(xE h.ord).2 (.inl hx)
     exact .inr ⟨hm,hf x hm⟩
   · exact .inl rfl
   · have hm:x∈cutR l k t:=by unfold cutR;exact(xE h.ord).2 (.inr hx)
     exact .inr ⟨hm,hf x hm⟩
end
theorem Fj {N:NL}(h:m5 N=some (fN N))(root:Int):nlT ⟨root,fN N⟩=N:=(ji h).symm
theorem wx {t:DTree}{h:Nat}(hg:Good t h):lO F t=some (xJ (tV t.nodes h t.root)):=zi (uE hg) hg
omit [Big F] in
theorem wU (t:DTree)(k:DKey)(v:ByteArray)(u:Int):oe F t k v u=(lO F t).bind fun r1=>bif (r1 != 0) then some ((DTree.mk 0 []),r1) else (kJ (DElem.mk k u 0 v)).bind fun r2=>bif (r2 != 0) then some ((DTree.mk 0 []),r2) else
 (mA F t u).bind fun r3=>bif r3 then some ((DTree.mk 0 []),9) else (mZ F t k).bind fun r4=>(kP F t).bind fun r5 =>
 bif (r4.2&&(r4.1.made == u)) then (nV (σ:=NL × Int) (ρ:=NL) (xc F (DElem.mk k u 0 v)) F (nlT r5,r5.root)).bind fun q1=>(m5 q1).bind fun l1=>some ((DTree.mk r5.root l1),0)
 else (nB F t).bind fun r16=>bif r16 then some ((DTree.mk 0 []),8) else
  (bif r4.2 then (nV (σ:=NL × Int) (ρ:=NL) (xc F (DElem.mk r4.1.key r4.1.made u r4.1.val)) F (nlT r5,r5.root)).bind fun q2=>some q2 else some (nlT r5):Option NL).bind fun z5 =>
  (Bi F (DElem.mk k u 0 v) z5 r5.root).bind fun z=>match z with | (z10,z11)=>(m5 z11).bind fun l2=>some ((DTree.mk z10 l2),0)
 := by
 unfold oe
 simp only [yG,DG]
 rfl
theorem Bh {t:DTree}{h:Nat}(hg:Good t h)(k:DKey)(v:ByteArray)(u:Int)(hz:CE (tV t.nodes h t.root) k v u≠0):oe F t k v u=some (zT,CE (tV t.nodes h t.root) k v u):=by
 rw [wU,wx hg,Option.bind_some]
 unfold CE at hz ⊢
 by_cases h1:xJ (tV t.nodes h t.root)=0
 rotate_left
 · rw [sY h1,cond_true,if_pos h1];rfl
 have hrun:=wm.1 h1
 rw [if_neg (by simpa using h1)] at hz ⊢
 rw [sT h1,cond_false,uI,Option.bind_some]
 by_cases h2:ug (vJ k v u)=0
 rotate_left
 · rw [show DElem.mk k u 0 v=vJ k v u from rfl,sY h2,cond_true,if_pos h2];rfl
 rw [if_neg (by simpa using h2)] at hz ⊢
 obtain⟨_,u0,u1,_⟩:=yv h2
 rw [show DElem.mk k u 0 v=vJ k v u from rfl,sT h2,cond_false,vv hg,Option.bind_some]
 by_cases h3:u<vo (tV t.nodes h t.root)
 · rw [decide_eq_true (.inr (.inr h3)),cond_true,if_pos h3];rfl
 rw [if_neg h3] at hz ⊢
 rw [decide_eq_false (by omega),cond_false,vI hg hrun,Option.bind_some,uM hg.len hg.chk,Option.bind_some]
 have hl:=hrun.len
 by_cases h4:400<(putR (tV t.nodes h t.root) k v u).length
 rotate_left
 · exact absurd (if_neg h4) hz
 rw [if_pos h4]
 have hnm:((AU (vc (tV t.nodes h t.root) k)).2&&((AU (vc (tV t.nodes h t.root) k)).1.made == u))=false:=by
  cases hn:vc (tV t.nodes h t.root) k with
  | none=>rfl
  | some e =>
   show (true&&(e.made == u))=false
   rw [Bool.true_and,beq_eq_false_iff_ne]
   intro hm
   have hpl:=BJ (v:=v) hrun hn hm
   omega
 have h5:400≤(tV t.nodes h t.root).length:=by
  cases hn:vc (tV t.nodes h t.root) k with
  | none=>have hpl:=BI (v:=v) (t:=u) hrun hn;omega
  | some e =>
   by_cases hm:e.made=u
   · have hpl:=BJ (v:=v) hrun hn hm;omega
   · have hpl:=BK (v:=v) hrun hn hm;omega
 rw [hnm,cond_false,wh hg,Option.bind_some,decide_eq_true h5,cond_true];rfl
theorem zZ {t:DTree}{h:Nat}(hg:Good t h)(k:DKey)(v:ByteArray)(u:Int)(hz:CE (tV t.nodes h t.root) k v u=0) :
 ∃ t' h',oe F t k v u=some (t',0)∧Good t' h'∧tV t'.nodes h' t'.root=putR (tV t.nodes h t.root) k v u:=by
 obtain⟨hrun,hc,hlast,hput⟩:=Du.1 hz
 obtain⟨_,u0,u1,_⟩:=yv hc
 have hl:=hrun.len
 have hcut:=hrun.cutR hlast u0 u1 k
 have pre : ∀ r,((bif ((AU (vc (tV t.nodes h t.root) k)).2&&((AU (vc (tV t.nodes h t.root) k)).1.made == u)) then (nV (σ:=NL × Int) (ρ:=NL) (xc F (vJ k v u)) F (nlT t,t.root)).bind fun q1=>(m5 q1).bind fun l1=>some ((DTree.mk t.root l1),(0:Int))
  else (nB F t).bind fun r16=>bif r16 then some ((DTree.mk 0 []),8) else
   (bif (AU (vc (tV t.nodes h t.root) k)).2 then (nV (σ:=NL × Int) (ρ:=NL) (xc F (DElem.mk (AU (vc (tV t.nodes h t.root) k)).1.key (AU (vc (tV t.nodes h t.root) k)).1.made u (AU (vc (tV t.nodes h t.root) k)).1.val)) F (nlT t,t.root)).bind fun q2=>some q2 else some (nlT t):Option NL).bind fun z5 =>
   (Bi F (vJ k v u) z5 t.root).bind fun z=>match z with | (z10,z11)=>(m5 z11).bind fun l2=>some ((DTree.mk z10 l2),0))=r)→oe F t k v u=r:=fun r hh=>by
  rw [wU,wx hg,Option.bind_some,sT (wm.2 hrun),cond_false,show DElem.mk k u 0 v=vJ k v u from rfl,uI,Option.bind_some,sT hc,cond_false,vv hg,Option.bind_some,decide_eq_false (by omega),cond_false,vI hg hrun,Option.bind_some,uM hg.len hg.chk,Option.bind_some]
  exact hh
 have add : ∀(t1:DTree),Good t1 h→t1.root=t.root→tV t1.nodes h t1.root=cutR (tV t.nodes h t.root) k u→∃ t' h',((Bi F (vJ k v u) (nlT t1) t.root).bind fun z=>match z with | (z10,z11)=>(m5 z11).bind fun l2=>some ((DTree.mk z10 l2),(0:Int)))=some (t',0)∧Good t' h'∧tV t'.nodes h' t'.root=putR (tV t.nodes h t.root) k v u:=fun t1 g1 hr1 he1=>by
  obtain⟨root,N,a1,a2,h',a3,a4⟩:=Al (F:=F) (e:=vJ k v u) g1 hc (by rw [he1];exact Az hrun hlast hc) (by rw [he1];exact hcut.len)
  rw [hr1] at a1
  refine⟨⟨root,fN N⟩,h',?_,a3,?_⟩
  · rw [a1,Option.bind_some]
    dsimp only
    rw [a2,Option.bind_some]
  · rw [a4,he1];exact EP hrun hlast hc hput
 cases hn:vc (tV t.nodes h t.root) k with
 | none =>
  have hpl:=BI (v:=v) (t:=u) hrun hn
  rw [hn] at pre
  obtain⟨t',h',a1,a2,a3⟩:=add t hg rfl (DT hrun hn).symm
  refine⟨t',h',pre _ ?_,a2,a3⟩
  show (bif false then _ else _)=_
  rw [cond_false,wh hg,Option.bind_some,decide_eq_false (by omega),cond_false]
  show ((bif false then _ else some (nlT t):Option NL).bind _)=_
  rw [cond_false,Option.bind_some]
  exact a1
 | some e =>
  rw [hn] at pre
  have hem:=(wK hrun.ord).1 hn
  by_cases hm:e.made=u
  · obtain⟨N,c1,c2,c3,c4⟩:=yi (F:=F) (e:=vJ k v u) hg hc
    refine⟨⟨t.root,fN N⟩,h,pre _ ?_,c3,by rw [c4];exact EQ hrun hn hm⟩
    show (bif (true&&(e.made == u)) then _ else _)=_
    rw [Bool.true_and,show (e.made == u)=true by rw [beq_iff_eq];exact hm,cond_true,c1,Option.bind_some,c2,Option.bind_some]
  · have hce : ug { e with gone := u } = 0 := by
     have h1:=hcut.ok { e with gone:=u }
     refine h1 ?_
     rw [← zp hrun hn hm]
     exact List.mem_map.2 ⟨e,hem.1,if_pos rfl⟩
    obtain⟨N,c1,c2,c3,c4⟩:=yi (F:=F) (e:={ e with gone:=u }) hg hce
    obtain⟨t',h',a1,a2,a3⟩:=add ⟨t.root,fN N⟩ c3 rfl (by rw [← zp hrun hn hm];exact c4)
    rw [Fj c2] at a1
    refine⟨t',h',pre _ ?_,a2,a3⟩
    have hpl:=BK (v:=v) hrun hn hm
    show (bif (true&&(e.made == u)) then _ else _)=_
    rw [Bool.true_and,show (e.made == u)=false by rw [beq_eq_false_iff_ne];exact hm,cond_false,wh hg,Option.bind_some,decide_eq_false (by omega),cond_false]
    show ((bif true then (nV (σ:=NL × Int) (ρ:=NL) (xc F { e with gone:=u }) F (nlT t,t.root)).bind _ else _:Option NL).bind _)=_
    rw [cond_true,c1,Option.bind_some,Option.bind_some]
    exact a1
theorem Ak {t:DTree}(hs : ∀ n∈t.nodes,Small n)(hc:vx F t≠0)(k:DKey)(v:ByteArray)(u:Int):oe F t k v u=some (zT,vx F t):=by
 rw [wU,wt hs hc,Option.bind_some,sY hc,cond_true];rfl
omit [Big F] in
theorem wT (t:DTree)(k:DKey)(u:Int):od F t k u=(lO F t).bind fun r1=>bif (r1 != 0) then some ((DTree.mk 0 []),r1) else (mX k).bind fun r2=>bif (r2 != 0) then some ((DTree.mk 0 []),r2) else
 (mA F t u).bind fun r3=>bif r3 then some ((DTree.mk 0 []),9) else (mZ F t k).bind fun r4=>bif (!r4.2) then some ((DTree.mk 0 []),4) else
 bif (r4.1.made == u) then (kP F t).bind fun r5=>(jg r4.1).bind fun r7=>(AV F r7 (nlT r5) r5.root).bind fun z=>match z with | (z1,z2)=>(m5 z1).bind fun l1=>some ((DTree.mk z2 l1),0)
 else (kP F t).bind fun r43=>(nV (σ:=NL × Int) (ρ:=NL) (xc F (DElem.mk r4.1.key r4.1.made u r4.1.val)) F (nlT r43,r43.root)).bind fun q11=>(m5 q11).bind fun l2=>some ((DTree.mk r43.root l2),0)
 := by
 unfold od
 simp only [yG,BZ]
 rfl
theorem Aj {t:DTree}(hs : ∀ n∈t.nodes,Small n)(hc:vx F t≠0)(k:DKey)(u:Int):od F t k u=some (zT,vx F t):=by
 rw [wT,wt hs hc,Option.bind_some,sY hc,cond_true];rfl
theorem Bg {t:DTree}{h:Nat}(hg:Good t h)(k:DKey)(u:Int)(hz:Cb (tV t.nodes h t.root) k u≠0):od F t k u=some (zT,Cb (tV t.nodes h t.root) k u):=by
 rw [wT,wx hg,Option.bind_some]
 unfold Cb at hz ⊢
 by_cases h1:xJ (tV t.nodes h t.root)=0
 rotate_left
 · rw [sY h1,cond_true,if_pos h1];rfl
 have hrun:=wm.1 h1
 rw [if_neg (by simpa using h1)] at hz ⊢
 rw [sT h1,cond_false,wP,Option.bind_some]
 by_cases h2:yI k=0
 rotate_left
 · rw [sY h2,cond_true,if_pos h2];rfl
 rw [if_neg (by simpa using h2)] at hz ⊢
 rw [sT h2,cond_false,vv hg,Option.bind_some]
 by_cases h3:u<1∨2147483647<u∨u<vo (tV t.nodes h t.root)
 · rw [decide_eq_true h3,cond_true,if_pos h3];rfl
 rw [if_neg h3] at hz ⊢
 rw [decide_eq_false h3,cond_false,vI hg hrun,Option.bind_some]
 cases hn:vc (tV t.nodes h t.root) k with
 | none=>rfl
 | some e=>rw [hn] at hz;exact absurd rfl hz
theorem zY {t:DTree}{h:Nat}(hg:Good t h)(k:DKey)(u:Int)(hz:Cb (tV t.nodes h t.root) k u=0) :
 ∃ t' h',od F t k u=some (t',0)∧Good t' h'∧tV t'.nodes h' t'.root=cutR (tV t.nodes h t.root) k u:=by
 obtain⟨hrun,hk,u0,u1,hlast,hnow⟩:=C9.1 hz
 obtain⟨e,hn⟩:=Option.isSome_iff_exists.1 hnow
 have hem:=(wK hrun.ord).1 hn
 have hcut:=hrun.cutR hlast u0 u1 k
 rw [wT,wx hg,Option.bind_some,sT (wm.2 hrun),cond_false,wP,Option.bind_some,sT hk,cond_false,vv hg,Option.bind_some,decide_eq_false (by omega),cond_false,vI hg hrun,Option.bind_some,hn]
 show ∃ t' h',(bif (!true) then _ else bif (e.made == u) then _ else _)=_∧_
 rw [Bool.not_true,cond_false]
 by_cases hm:e.made=u
 · obtain⟨root,N,o1,o2,h',o3,o4⟩:=yU (F:=F) (sp:=tW e) hg
   refine⟨⟨root,fN N⟩,h',?_,o3,by rw [o4];exact Ey hrun hn hm⟩
   rw [show (e.made == u)=true by rw [beq_iff_eq];exact hm,cond_true,uM hg.len hg.chk,Option.bind_some,tZ,Option.bind_some]
   show (AV F (tW e) (nlT t) t.root).bind _=_
   rw [o1,Option.bind_some]
   dsimp only
   rw [o2,Option.bind_some]
 · have hce : ug { e with gone := u } = 0 := by
    refine hcut.ok { e with gone:=u } ?_
    rw [← zp hrun hn hm]
    exact List.mem_map.2 ⟨e,hem.1,if_pos rfl⟩
   obtain⟨N,c1,c2,c3,c4⟩:=yi (F:=F) (e:={ e with gone:=u }) hg hce
   refine⟨⟨t.root,fN N⟩,h,?_,c3,by rw [c4];exact zp hrun hn hm⟩
   rw [show (e.made == u)=false by rw [beq_eq_false_iff_ne];exact hm,cond_false,uM hg.len hg.chk,Option.bind_some]
   show (nV (σ:=NL × Int) (ρ:=NL) (xc F { e with gone:=u }) F (nlT t,t.root)).bind _=_
   rw [c1,Option.bind_some,c2,Option.bind_some]
end
section
variable {F:Nat} [Big F]
theorem Cd {α:Type}[DecidableEq α](test:α→α→Bool)(ht : ∀ x y,test x y=true↔x=y)(p q:List α)(hp:p.length≤9223372036854775807) :
 (bif ((p.length:Int) != (q.length:Int)) then
  some false
 else
  (iter (σ:=Int) (ρ:=(Unit) ⊕ Bool) (fun x1 =>
   bif decide (x1<(p.length:Int)) then
    (idx p x1).bind fun e1 =>
    (idx q x1).bind fun e2 =>
    bif (!(test e1 e2)) then
     some (.inr (.inr false))
    else
     some (.inl (IntKind.i64.wrap (x1+1)))
    else
     some (.inr (.inl ()))) F 0).bind fun z=>match z with
  | .inl _ =>
   some true
  | .inr q=>some q)=some (decide (p=q)):=by
 by_cases hl:p.length=q.length
 · rw [show ((p.length:Int) != (q.length:Int))=false by rw [bne_eq_false_iff_eq];omega,cond_false]
   obtain⟨W,hW⟩ : ∃ W:Nat→α→Option (Unit ⊕ Bool),∀ k e,W k e=if q[k]? = some e then none else some (Sum.inr false):=⟨_,fun _ _=>rfl⟩
   rw [rn p W (Sum.inl ()) hp rfl (fun k e hk _=>?_) (by simp)]
   · by_cases he:p=q
     · subst he
       rw [sZ.2 fun k e hk=>by rw [hW,if_pos hk],decide_eq_true rfl];rfl
     · rw [decide_eq_false he]
       cases hf:p.zipIdx.findSome? fun a=>W a.2 a.1 with
       | some r =>
        obtain⟨k,e,_,hr⟩:=s9 hf
        rw [hW] at hr
        split at hr
        · cases hr
        · obtain rfl:=Option.some.inj hr;rfl
       | none =>
        exfalso
        apply he
        rw [sZ] at hf
        apply List.ext_getElem?
        intro k
        cases hk:p[k]? with
        | none=>rw [List.getElem?_eq_none_iff] at hk;rw [List.getElem?_eq_none (by omega)]
        | some e =>
         have:=hf k e hk
         rw [hW] at this
         split at this
         · rename_i h;exact h.symm
         · cases this
   · have hkl:=(List.getElem?_eq_some_iff.1 hk).1
     have hq:q[k]? = some (q[k]'(by omega)):=List.getElem?_eq_getElem (by omega)
     rw [decide_eq_true (by omega),cond_true,tw,tw,hk,hq,Option.bind_some,Option.bind_some,w64 (by omega) (by omega),hW]
     by_cases he:q[k]'(by omega)=e
     · rw [if_pos (by rw [hq,he]),(ht _ _).2 he.symm];rfl
     · have hf : test e (q[k]'(by omega)) = false := by
        cases hx:test e (q[k]'(by omega))
        · rfl
        · exact absurd ((ht _ _).1 hx).symm he
       rw [if_neg (by rw [hq];simpa using he),hf];rfl
 · rw [show ((p.length:Int) != (q.length:Int))=true by rw [bne_iff_ne];omega,cond_true,decide_eq_false (fun e=>hl (by rw [e]))]
theorem Fa (p q:List DElem)(hp:p.length≤9223372036854775807):lc F p q=some (decide (p=q)):=Cd (fun x y=>x == y) (fun x y=>by simp) p q hp
theorem EX (p q:List Int)(hp:p.length≤9223372036854775807):kO F p q=some (decide (p=q)):=Cd (fun x y=>x == y) (fun x y=>by simp) p q hp
end
section
variable {F:Nat} [Big F]
theorem DO {l:List DElem}(h : ¬ 400<l.length)(hb:B4 l=none):ofR l=(vN l,0):=by
 unfold ofR;rw [if_neg h,hb]
theorem of_eq {l:List DElem}(hl:l.length≤400)(ho : ∀ e∈l,ug e=0)(hp:l.Pairwise SpO):ms F l=some (vN l):=by
 unfold ms
 rw [za,Option.bind_some,DO (by omega) (yH.2 ⟨ho,hp⟩)]
 dsimp only
 rw [tu];rfl
theorem Ec {l:List DElem}(hl:l.length≤8)(ho : ∀ e∈l,ug e=0)(hp:l.Pairwise SpO):Good (vN l) 0∧tV (vN l).nodes 0 (vN l).root=l∧(vN l).nodes.length=1:=by
 obtain⟨h,hg,he,hn,h1,hm⟩:=yZ (by omega) ho hp
 have h0:h=0:=by
  cases h with
  | zero=>rfl
  | succ h=>have:=hm 0 (by omega);rw [cN,CT hl] at this;omega
 subst h0
 exact⟨hg,he,by rw [hn,sNk,cN,CT hl]⟩
def Ft (off:Int)(v:ByteArray):DElem:=⟨⟨0,0,off⟩,1,0,v⟩
theorem E8 {off:Int}{v:ByteArray}(h0:0≤off)(h1:off≤1000)(hv:v.size≤40):ug (Ft off v)=0:=by
 unfold ug Ft yI
 dsimp only
 rw [if_neg (by rw [if_neg (by omega)];simp),if_neg (by omega),if_neg (by omega)]
theorem Fk {e:DElem}(h:ug e=0):(∀ x∈[e],ug x=0)∧[e].Pairwise SpO:=⟨fun x hx=>by rw [List.mem_singleton.1 hx];exact h,List.pairwise_singleton _ _⟩
end
section
open Go.ChangeShapes
variable {F:Nat} [Big F]
theorem Fb (p q:List DSpot)(hp:p.length≤9223372036854775807):ld F p q=some (decide (p=q)):=Cd (fun x y=>x == y) (fun x y=>by simp) p q hp
theorem Ag (n:DNode)(h:Small n):kX F n n=some true:=by
 unfold kX
 have h1:=h.elems;have h2:=h.kids;have h3:=h.seps;have h4:=h.tids
 rw [Fa _ _ (by omega),EX _ _ (by omega),Fb _ _ (by omega),EX _ _ (by omega)]
 simp
theorem wF (t:DTree)(hs : ∀ n∈t.nodes,Small n)(hl:t.nodes.length≤9000000000000000000):kG F t t=some true:=by
 unfold kG
 rw [show (t.root == t.root)=true by simp,cond_true,show ((t.nodes.length:Int) != (t.nodes.length:Int))=false by simp,cond_false]
 rw [rO (s:=(0:Int)) (fun k=>(k:Int)) t.nodes.length (r:=.inl ()) rfl (by omega) (fun k hk=>?_) ?_]
 · rfl
 · rw [decide_eq_false (by omega),cond_false]
 · have hn:t.nodes[k]? = some t.nodes[k]:=List.getElem?_eq_getElem hk
   rw [decide_eq_true (by omega),cond_true,tw,hn,Option.bind_some,Option.bind_some,Ag _ (hs _ (List.getElem_mem hk)),Option.bind_some,Bool.not_true,cond_false,w64 (by omega) (by omega)]
   rfl
theorem Eb {n:DNode}(h:ut n=0):n.elems.length≤8∧n.kids.length≤8∧n.seps.length≤8∧n.tids.length≤8:=by
 obtain⟨h1,h2⟩:=vf h
 rcases uw.1 h with h | h | h
 · obtain⟨_,a,b,c,d⟩:=h
   rw [a,b,c,d];simp
 · have:=h.2;rw [this.kids,this.seps,this.tids];simpa using this.len
 · have:=h.2;have a:=this.eight;have b:=this.seps;have c:=this.tids
   exact⟨h1,h2,by omega,by omega⟩
theorem AX {n:DNode}(h:n.elems.length≤8∧n.kids.length≤8∧n.seps.length≤8∧n.tids.length≤8):nK n=true:=by
 obtain⟨h1,h2,h3,h4⟩:=h
 unfold nK
 rw [decide_eq_true (by omega),decide_eq_true (by omega),decide_eq_true (by omega),decide_eq_true (by omega)];rfl
theorem vO {t:DTree}{h:Nat}(g:Good t h):qT F t=true:=by
 have hl:=g.len
 unfold qT qp
 rw [wF t (uE g) (by omega),decide_eq_true (by omega),List.all_eq_true.2 (fun n hn=>AX (Eb (g.chk n hn)))];rfl
theorem uB:qT F zT=true:=by
 unfold qT
 rw [show kG F zT zT=some true from wF _ (fun n hn=>by cases hn) (Nat.zero_le _)];rfl
theorem DX {t:DTree}(h:okTree t):qT F t=true:=by
 have h1:=h.2.1
 unfold reachBytes at h1
 unfold qT qp
 rw [wF t (zM h) (by omega),decide_eq_true (by omega),List.all_eq_true.2 (fun n hn=>?_)]
 · rfl
 · obtain⟨_,a,b,c,d⟩:=h.2.2 n hn
   have a:=a.1;have b:=b.1;have c:=c.1;have d:=d.1
   unfold reachBytes at a b c d
   unfold nK
   rw [decide_eq_true (by omega),decide_eq_true (by omega),decide_eq_true (by omega),decide_eq_true (by omega)];rfl
variable {t:DTree} (hs : ∀ n∈t.nodes,Small n)
include hs
theorem Bu (e:DElem):∃ r,mJ F t e=some r∧qT F r.1=true:=by
 rcases yl (F:=F) hs e with ⟨x,_,h⟩ | ⟨_,t',h',_,_,_,_,h,g,_⟩
 · exact⟨_,h,uB⟩
 · exact⟨_,h,vO g⟩
theorem Em (e:DElem):∃ r,oU F t e=some r∧qT F r.1=true:=by
 by_cases hc:vx F t=0
 · obtain⟨h,g⟩:=uQ.1 hc
   by_cases he:ug e=0
   · cases ha:wd e (tV t.nodes h t.root) with
     | true =>
      obtain⟨t',h1,g',_⟩:=Ac (F:=F) g he ha
      exact⟨_,h1,vO g'⟩
     | false =>
      refine⟨(zT,4),?_,uB⟩
      unfold oU
      rw [u9 (uE g) g he,Option.bind_some]
      dsimp only
      rw [sT rfl,cond_false,ha,Bool.not_false,cond_true];rfl
   · exact⟨_,Bp g he,uB⟩
 · refine⟨(zT,vx F t),?_,uB⟩
   unfold oU
   rw [xL hs hc,Option.bind_some]
   dsimp only
   rw [sY hc,cond_true];rfl
theorem BN (s:DSpot):∃ r,mg F t s=some r∧qT F r.1=true:=by
 by_cases hc:vx F t=0
 · obtain⟨h,g⟩:=uQ.1 hc
   by_cases hz:(zO ((tV t.nodes h t.root).filter (geB s)) s).2=0
   · have hx : ∃ x ∈ tV t.nodes h t.root, tW x = s := by
      unfold zO at hz
      cases hh:((tV t.nodes h t.root).filter (geB s)).head? with
      | none=>rw [hh] at hz;simp at hz
      | some e =>
       rw [hh] at hz
       dsimp only at hz
       have hm:e∈(tV t.nodes h t.root).filter (geB s):=List.mem_of_mem_head? hh
       refine⟨e,(List.mem_filter.1 hm).1,?_⟩
       split at hz
       · assumption
       · simp at hz
     obtain⟨t',h',h1,g',_⟩:=ye (F:=F) g hx
     exact⟨_,h1,vO g'⟩
   · refine⟨(zT,(zO ((tV t.nodes h t.root).filter (geB s)) s).2),?_,uB⟩
     rw [vT,xh (uE g) g,Option.bind_some,sY hz,cond_true];rfl
 · refine⟨(zT,vx F t),?_,uB⟩
   rw [vT,Ab hs hc,Option.bind_some]
   dsimp only
   rw [sY hc,cond_true];rfl
theorem Ej (k:DKey)(v:ByteArray)(u:Int):∃ r,oe F t k v u=some r∧qT F r.1=true:=by
 by_cases hc:vx F t=0
 · obtain⟨h,g⟩:=uQ.1 hc
   by_cases hz:CE (tV t.nodes h t.root) k v u=0
   · obtain⟨t',h',h1,g',_⟩:=zZ (F:=F) g k v u hz
     exact⟨_,h1,vO g'⟩
   · exact⟨_,Bh g k v u hz,uB⟩
 · exact⟨_,Ak hs hc k v u,uB⟩
theorem DS (k:DKey)(u:Int):∃ r,od F t k u=some r∧qT F r.1=true:=by
 by_cases hc:vx F t=0
 · obtain⟨h,g⟩:=uQ.1 hc
   by_cases hz:Cb (tV t.nodes h t.root) k u=0
   · obtain⟨t',h',h1,g',_⟩:=zY (F:=F) g k u hz
     exact⟨_,h1,vO g'⟩
   · exact⟨_,Bg g k u hz,uB⟩
 · exact⟨_,Aj hs hc k u,uB⟩
theorem Dp : ∃ r,nl F t=some r∧qT F r.1=true:=by
 unfold nl
 by_cases hc:vx F t=0
 · obtain⟨h,g⟩:=uQ.1 hc
   rw [vY hs g,Option.bind_some]
   dsimp only
   rw [sT rfl,cond_false,za,Option.bind_some,tu,Option.bind_some]
   refine⟨_,rfl,?_⟩
   show qT F ⟨(ofR (tV t.nodes h t.root)).1.root,(ofR (tV t.nodes h t.root)).1.nodes⟩=true
   show qT F (ofR (tV t.nodes h t.root)).1=true
   unfold ofR
   by_cases hl:400<(tV t.nodes h t.root).length
   · rw [if_pos hl];exact uB
   · rw [if_neg hl,yH.2 ⟨Bo g,yK g⟩]
     obtain⟨h',g',_⟩:=yZ (by omega) (Bo g) (yK g)
     exact vO g'
 · rw [yD hs hc,Option.bind_some]
   dsimp only
   rw [sY hc,cond_true]
   exact⟨_,rfl,uB⟩
theorem Dy (keep:List Int):∃ r,nu F t keep 3=some r∧qT F r.1=true:=by
 by_cases hc:vx F t=0
 · obtain⟨h,g⟩:=uQ.1 hc
   by_cases hr:xJ (tV t.nodes h t.root)=0
   · by_cases hk:yg keep=0
     · obtain⟨t',h',h1,g',_⟩:=zj (F:=F) g hr hk 3
       exact⟨_,h1,vO g'⟩
     · refine⟨(zT,0,yg keep),?_,uB⟩
       rw [vX,xZ g,Option.bind_some,hr,sT rfl,cond_false,xr,Option.bind_some,sY hk,cond_true];rfl
   · refine⟨(zT,0,xJ (tV t.nodes h t.root)),?_,uB⟩
     rw [vX,xZ g,Option.bind_some,sY hr,cond_true];rfl
 · refine⟨(zT,0,vx F t),?_,uB⟩
   rw [vX,wt hs hc,Option.bind_some,sY hc,cond_true];rfl
omit hs in
theorem wO (F:Nat)[Big F](p0:DTree)(p1:DElem)(p2:List Int)(k0:okTree p0)(_:okElem p1)(_:vn 8 (vd .i64) p2):lV F p0 p1 p2=some true:=by
 have hs:=zM k0
 obtain⟨r1,e1,f1⟩:=Bu (F:=F) hs p1
 obtain⟨r2,e2,f2⟩:=Em (F:=F) hs p1
 obtain⟨r3,e3,f3⟩:=BN (F:=F) hs (DSpot.mk p1.key p1.made)
 obtain⟨r4,e4,f4⟩:=Ej (F:=F) hs p1.key p1.val p1.made
 obtain⟨r5,e5,f5⟩:=DS (F:=F) hs p1.key p1.made
 obtain⟨r6,e6,f6⟩:=Dp (F:=F) hs
 obtain⟨r7,e7,f7⟩:=Dy (F:=F) hs p2
 have hc:ug rF=0:=E8 (off:=1) (by decide) (by decide) (by decide)
 obtain⟨o1,o2⟩:=Fk hc
 obtain⟨g,hg,_⟩:=Ec (l:=[rF]) (by decide) o1 o2
 unfold lV
 rw [e1,Option.bind_some,e2,Option.bind_some,e3,Option.bind_some,e4,Option.bind_some,e5,Option.bind_some,e6,Option.bind_some,e7,Option.bind_some,of_eq (by decide) o1 o2,Option.bind_some,vY (uE g) g,Option.bind_some,hg,DX k0]
 have hall : [r1.1,r2.1,r3.1,r4.1,r5.1,r6.1,r7.1].all (qT F)=true:=by
  simp only [List.all_cons,List.all_nil,f1,f2,f3,f4,f5,f6,f7];rfl
 rw [hall];rfl
end
section
open Go.RowKit
theorem Ei:ownKnob Tryz.prog.godebug=none:=by kernel_rfl
theorem Ds:laidOutB Tryz.prog=true:=by kernel_rfl
theorem Fv:uD Tryz.prog 26 tU okKey:=Dm Tryz.underlying26 (by kernel_rfl) rfl (by kernel_rfl) (vk Tryz.underlying3) rfl (by kernel_rfl) (vk Tryz.underlying3) rfl (by kernel_rfl) (vk Tryz.underlying3)
theorem Fw:uD Tryz.prog 28 eElem okElem:=Ct Tryz.underlying28 (by kernel_rfl) rfl (by kernel_rfl) Fv rfl (by kernel_rfl) (vk Tryz.underlying3) rfl (by kernel_rfl) (vk Tryz.underlying3) rfl (by kernel_rfl) (Dn Tryz.underlying9)
theorem FB:uD Tryz.prog 47 (og eElem) (vn 56 okElem):=wS Tryz.underlying47 (by kernel_rfl) (by kernel_rfl) Fw
theorem Fl:uD Tryz.prog 29 (og hO) (vn 8 (vd .i64)):=wS Tryz.underlying29 (by kernel_rfl) (by kernel_rfl) (vk Tryz.underlying3)
theorem FA:uD Tryz.prog 36 eSpot okSpot:=Cv Tryz.underlying36 (by kernel_rfl) rfl (by kernel_rfl) Fv rfl (by kernel_rfl) (vk Tryz.underlying3)
theorem FC:uD Tryz.prog 53 (og eSpot) (vn 32 okSpot):=wS Tryz.underlying53 (by kernel_rfl) (by kernel_rfl) FA
theorem FD:uD Tryz.prog 55 ko okNode:=Cu Tryz.underlying55 (by kernel_rfl) rfl (by kernel_rfl) (vk Tryz.underlying3) rfl (by kernel_rfl) FB rfl (by kernel_rfl) Fl rfl (by kernel_rfl) FC rfl (by kernel_rfl) Fl
theorem Fy:uD Tryz.prog 22 (og ko) (vn 104 okNode):=wS Tryz.underlying22 (by kernel_rfl) (by kernel_rfl) FD
theorem Fz:uD Tryz.prog 24 tT okTree:=Cw Tryz.underlying24 (by kernel_rfl) rfl (by kernel_rfl) (vk Tryz.underlying3) rfl (by kernel_rfl) Fy
set_option maxRecDepth 100000
def orderSigns:List Char:=[.ofNat 104,.ofNat 97,.ofNat 114,.ofNat 110,.ofNat 101,.ofNat 115,.ofNat 115,.ofNat 32,.ofNat 54,.ofNat 101,.ofNat 98,.ofNat 97,.ofNat 52,.ofNat 97,.ofNat 98,.ofNat 51,.ofNat 102,.ofNat 51,.ofNat 48,.ofNat 48,.ofNat 53,.ofNat 52,.ofNat 56,.ofNat 51,.ofNat 99,.ofNat 57,.ofNat 99,.ofNat 51,.ofNat 99,.ofNat 98,.ofNat 51,.ofNat 54,.ofNat 101,.ofNat 56,.ofNat 97,.ofNat 101,.ofNat 48,.ofNat 101,.ofNat 51,.ofNat 54,.ofNat 48,.ofNat 102,.ofNat 55,.ofNat 48,.ofNat 54,.ofNat 101,.ofNat 51,.ofNat 102,.ofNat 50,.ofNat 56,.ofNat 99,.ofNat 101,.ofNat 54,.ofNat 50,.ofNat 100,.ofNat 52,.ofNat 48,.ofNat 102,.ofNat 98,.ofNat 102,.ofNat 100,.ofNat 53,.ofNat 55,.ofNat 48,.ofNat 49,.ofNat 101,.ofNat 55,.ofNat 52,.ofNat 57,.ofNat 100,.ofNat 100,.ofNat 49,.ofNat 32,.ofNat 99,.ofNat 117,.ofNat 116,.ofNat 32,.ofNat 97,.ofNat 116,.ofNat 32,.ofNat 97,.ofNat 110,.ofNat 110,.ofNat 97,.ofNat 108,.ofNat 105,.ofNat 115,.ofNat 116,.ofNat 47,.ofNat 97,.ofNat 110,.ofNat 110,.ofNat 97,.ofNat 108,.ofNat 107,.ofNat 101,.ofNat 101,.ofNat 112,.ofNat 46,.ofNat 84,.ofNat 114,.ofNat 101,.ofNat 101,.ofNat 79,.ofNat 119,.ofNat 110]
theorem Cx : Tryz.prog.initOrder = "harness 6eba4ab3f3005483c9c3cb36e8ae0e360f706e3f28ce62d40fbfd5701e749dd1 cut at annalist/annalkeep.TreeOwn" := by kernel_rfl
theorem BG : ("harness 6eba4ab3f3005483c9c3cb36e8ae0e360f706e3f28ce62d40fbfd5701e749dd1 cut at annalist/annalkeep.TreeOwn" : String) = String.ofList orderSigns := by kernel_rfl
theorem ya:Tryz.prog.initOrder.toList=orderSigns:=by rw [Cx,BG];exact String.toList_ofList
theorem EK (P:Program)(h:P.initOrder.toList=orderSigns):P.make=some .cut:=by
 unfold Program.make Program.headLifts
 rw [h]
 kernel_rfl
theorem D8 (P:Program)(h:P.initOrder.toList=orderSigns):P.liftsFinal=false:=by
 unfold Program.liftsFinal Program.headLifts
 rw [h]
 kernel_rfl
theorem DU (P:Program)(h:P.initOrder.toList=orderSigns)(h1:P.laysLater=false)(h2:P.bearsReflect=false)(h3:P.doorFits []=true):P.mayEnter=true:=by
 unfold Program.mayEnter
 rw [h,h1,h2]
 have e:(stripLifts liftWords (behindMainWord (wordsSigns orderSigns))).1=[]:=by kernel_rfl
 have e0 : behindMainWord (wordsSigns orderSigns) = "cut".toList :: (behindMainWord (wordsSigns orderSigns)).tail := by kernel_rfl
 rw [e0] at e ⊢
 dsimp only
 rw [e,h3]
 clear h h1 h2 h3
 change _=true
 kernel_rfl
theorem Dt:Tryz.prog.make=some .cut:=EK _ ya
theorem CD:Tryz.prog.liftsFinal=false:=D8 _ ya
theorem CC:Tryz.prog.mayEnter=true:=DU _ ya (by kernel_rfl) (by kernel_rfl) (by kernel_rfl)
end
end Go.Proofs.YtfbpiogbhkgieaaGreat
