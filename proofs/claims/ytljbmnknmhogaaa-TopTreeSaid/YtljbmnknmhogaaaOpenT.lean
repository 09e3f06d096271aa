/- Plain Lean: what the editors' contracts compute is what the plain laws speak of. Its conditions: none. -/
import Derived.Test.YtljbmnknmhogaaaFrFT
import Derived.Test.YtljbmnknmhogaaaPRemT
import Derived.Test.YtljbmnknmhogaaaCpFT
import Derived.Test.YtljbmnknmhogaaaRangeT
import Derived.Test.YtljbmnknmhogaaaPastAFT
import Derived.Test.YtljbmnknmhogaaaMTreeT
import Derived.Test.YtljbmnknmhogaaaWrHFT
import Derived.Test.YtljbmnknmhogaaaWrPFT
import Derived.Test.YtljbmnknmhogaaaWrCFT
import Derived.Test.YtljbmnknmhogaaaPruneFT
import Derived.Test.YtljbmnknmhogaaaStepFT
import Derived.Test.YtljbmnknmhogaaaEqsFT
import Derived.Test.YtljbmnknmhogaaaPackFT
import Derived.Test.YtljbmnknmhogaaaWTopTreeFT
import Derived.Test.YtljbmnknmhogaaaRows
namespace Go.Proofs.Ytljbmnknmhogaaa
set_option linter.unusedSimpArgs false
set_option linter.unusedVariables false
section
variable {F:Nat}
theorem yV {α:Type}(x:Option α):(x.bind fun z=>some z)=x:=by cases x <;> rfl
theorem yz (root:Int)(N:NL)(i:Int)(e:DElem):jK F root N i e=nN (vH F e) F (N,i):=yV _
theorem BQ (root:Int)(N:NL)(i:Int)(e:DElem):kw F root N i e=nN (ww F e) F (N,i):=by
 refine Eq.trans ?_ (yV (nN (ww F e) F (N,i)))
 refine congrArg (fun g=>(nN g F (N,i)).bind fun z=>some z) (funext fun rf=>funext fun x=>?_)
 rfl
theorem DA (root:Int)(N:NL)(e:DElem):kJ F root N e=Aw F e N root:=by
 unfold kJ Aw
 rw [BQ]
 rfl
theorem wA (N:NL)(i:Int):(iY N i).length=N.length:=List.length_set
theorem Dq {N:NL}{a b:Int}{x y:DNode}(h:a.toNat≠b.toNat):js (js (iY (iY N a) b) a x) b y=js (js (iY N a) a x) b y:=by
 unfold js
 rw [show iY (iY N a) b=(iY N a).set b.toNat (.inl ((((iY N a)[b.toNat]?).map p9).getD 0)) from rfl,List.set_comm _ _ (Ne.symm h),List.set_set]
theorem Bv {N M:NL}{i:Int}(h:N.length=M.length):kG N i=kG M i:=by unfold kG;rw [h]
theorem DL {N:NL}{a b:Int}{n:DNode}(h:kj (iY N a) b=some n):a.toNat≠b.toNat:=fun e=>by
 obtain⟨_,h2⟩:=mD h
 rw [← e] at h2
 have hl:a.toNat<N.length:=by
  have:=(ggs.1 h2).1
  rwa [wA] at this
 unfold iY at h2
 rw [List.getElem?_set_self hl] at h2
 cases h2
theorem Di (n m:DNode)(s:DSpot):lP n.kind n.elems n.kids n.seps n.tids m.kind m.elems m.kids m.seps m.tids s=zL n m s:=rfl
theorem Db (root:Int)(n:DNode)(r10 r11:Int)(N:NL):kx F root N n.kind n.elems n.kids n.seps (n.tids.set r10.toNat r11) r10=(xV F n r10 r11 N).bind fun z=>some (z.2.2.2,z.1,z.2.1,z.2.2.1):=by
 unfold kx xV
 rw [Option.bind_assoc]
 refine congrArg (Option.bind _) (funext fun z=>?_)
 rw [Option.bind_assoc]
 refine congrArg (Option.bind _) (funext fun a=>?_)
 rw [Option.bind_assoc]
 refine congrArg (Option.bind _) (funext fun b=>?_)
 rw [Option.bind_assoc]
 cases h1:kj N a with
 | none=>rfl
 | some n1 =>
 rw [obs,obs,Option.bind_assoc]
 cases h2:kj (iY N a) b with
 | none=>rfl
 | some n2 =>
 have hne:=DL h2
 rw [obs,obs,Option.bind_assoc]
 refine congrArg (Option.bind _) (funext fun x=>?_)
 rw [Option.bind_assoc,Di]
 refine congrArg (Option.bind _) (funext fun X=>?_)
 rw [Option.bind_assoc]
 have hh : ∀ q,kG (iY (iY N a) b) q=kG (iY N a) q:=fun q=>Bv (wA _ _)
 have hp : ∀ q y,kG (js (iY (iY N a) b) a y) q=kG (js (iY N a) a y) q:=fun q y=>Bv (by rw [rV,rV,wA])
 simp only [hh,hp,Dq hne]
 refine Eq.trans (b:=(CM F n r10 r11 N z a b n1 n2 X).bind fun z'=>(kj z'.2.2.2 a).bind fun n7=>(jm F n7).bind fun r24=>(idx z'.2.2.1 z).bind fun _=>some (z'.2.2.2,z'.1,z'.2.1,z'.2.2.1.set z.toNat r24)) rfl ?_
 refine congrArg (Option.bind _) (funext fun q=>?_)
 obtain⟨q1,q2,q3,q4⟩:=q
 dsimp only
 rw [Option.bind_assoc]
 refine congrArg (Option.bind _) (funext fun n7=>?_)
 rw [Option.bind_assoc]
 refine congrArg (Option.bind _) (funext fun g=>?_)
 rw [Option.bind_assoc]
 rfl
set_option maxHeartbeats 4000000 in
theorem B6 (root:Int)(N:NL)(i:Int)(s:DSpot):km F root N i s=nN (xF F s) F (N,i):=by
 refine Eq.trans ?_ (yV (nN (xF F s) F (N,i)))
 refine congrArg (fun g=>(nN g F (N,i)).bind fun z=>some z) (funext fun rf=>funext fun x=>?_)
 obtain⟨x1,x2⟩:=x
 show Option.bind (kj x1 x2) _=Option.bind (kj x1 x2) _
 cases kj x1 x2 with
 | none=>rfl
 | some n =>
 rw [obs,obs]
 refine congr (congrArg (fun a b=>bif n.kind == 1 then a else b) ?_) ?_
 · exact congrArg (fun q=>Option.bind q _) (show _=C8 F n.elems s from rfl)
 · refine congrArg (Option.bind _) (funext fun w=>?_)
   refine congrArg (Option.bind _) (funext fun k=>?_)
   refine congrArg (Option.bind _) (funext fun N2=>?_)
   refine congrArg (Option.bind _) (funext fun k2=>?_)
   refine congrArg (Option.bind _) (funext fun n4=>?_)
   refine congrArg (Option.bind _) (funext fun g=>?_)
   refine congrArg (Option.bind _) (funext fun t=>?_)
   refine congrFun (congrArg Option.bind ?_) _
   unfold Dr
   cases decide ((IntKind.i64.wrap ((n4.elems.length:Int)+(n4.kids.length:Int)))<4) with
   | false=>rfl
   | true =>
    rw [cond_true,cond_true,Db,Option.bind_assoc]
    refine congrArg (Option.bind _) (funext fun q=>?_)
    obtain⟨q1,q2,q3,q4⟩:=q
    rfl
theorem Cf (root:Int)(N:NL)(s:DSpot):lc F root N s=Ad F s N root:=by
 unfold lc Ad
 rw [B6]
end
section
variable {F:Nat} [Big F]
theorem zh {n:DNode}(h:sC n=0):nv n=some n:=by
 obtain⟨h1,h2⟩:=tV h
 have h3:n.seps.length≤8∧n.tids.length≤8:=by
  rcases sG.1 h with h | h | h
  · rw [h.2.2.2.1,h.2.2.2.2];simp
  · rw [h.2.seps,h.2.tids];simp
  · have:=h.2.seps;have:=h.2.tids;omega
 unfold nv
 rw [sk (by simp;omega) (by simp;omega),obs,sk (by simp;omega) (by simp;omega),obs,sk (by simp;omega) (by simp;omega),obs,sk (by simp;omega) (by simp;omega),obs]
 rfl
theorem xG {N:NL}(h : ∀(j:Nat) (k:Int),N[j]?≠some (.inl k)):oH N=some (fN N):=by
 have e:N=(fN N).map Sum.inr:=List.ext_getElem? fun j=>by
  rw [List.getElem?_map,vI]
  cases hj:N[j]? with
  | none=>rfl
  | some x =>
   cases x with
   | inl k=>exact absurd hj (h j k)
   | inr n=>rfl
 conv=>lhs;rw [e]
 exact ry _
theorem ui {t:DTree}(hl:t.nodes.length≤400)(hc : ∀ n∈t.nodes,sC n=0):lD F t=some t:=by
 unfold lD
 rw [sU (fun k=>((t.nodes.take k).map (Sum.inr:DNode→Int ⊕ DNode),(k:Int))) t.nodes.length (by simp) (by omega) (fun k hk=>?_) (r:=t.nodes.map Sum.inr) ?_,obs,ry,obs]
 · dsimp only
   rw [decide_eq_false (by omega),cond_false,List.take_length]
 · have hg:t.nodes[k]? = some t.nodes[k]:=gge hk
   have hr:qa 104 (((t.nodes.take k).map (Sum.inr:DNode→Int ⊕ DNode)).length+1)=some ():=by
    unfold qa;rw [List.length_map,List.length_take,if_pos ⟨by omega,by unfold maxLen;omega⟩]
   dsimp only
   rw [decide_eq_true (by omega),cond_true,rQ,hg,obs,zh (hc _ (List.getElem_mem _)),obs,hr,obs,w64 (by omega) (by omega),List.take_add_one,hg,List.map_append]
   rfl
def nlT (t:DTree):NL:=t.nodes.map Sum.inr
theorem sQ (t:DTree):fN (nlT t)=t.nodes:=DE _
theorem xq {t:DTree}{j:Nat}{x:Int ⊕ DNode}(h:(nlT t)[j]? = some x):∃ n,t.nodes[j]? = some n∧x = .inr n:=by
 unfold nlT at h
 rw [List.getElem?_map] at h
 obtain⟨n,hn,rfl⟩:=Option.map_eq_some_iff.1 h
 exact⟨n,hn,rfl⟩
theorem xX {t:DTree}{h:Nat}(g:Good t h):tz (nlT t):=fun n hn=>by rw [sQ] at hn;exact g.chk n hn
theorem vJ {t:DTree}{h:Nat}(g:Good t h):sj (fN (nlT t)) h t.root (mOf 0 h) topS:=by
 rw [sQ];exact(xO g.chk h t.root 0 topS (Int.le_refl _)).1 g.ok
theorem zG {α:Type}{p:α→Bool}:∀ {N:List α} {K:List Nat},K.Nodup→(∀(j:Nat) (x:α),N[j]? = some x→p x=true→j∈K)→N.countP p≤K.length
 | [],K,_,_=>Nat.zero_le _
 | a::N,K,hn,h=>by
  have hK : ∀(j:Nat) (x:α),N[j]? = some x→p x=true→j∈(K.filter (fun j=>j != 0)).map (· - 1):=fun j x hx hp =>
   List.mem_map.2 ⟨j+1,List.mem_filter.2 ⟨h (j+1) x (by simpa using hx) hp,by simp⟩,by simp⟩
  have hnd:((K.filter (fun j=>j != 0)).map (· - 1)).Nodup:=by
   unfold List.Nodup
   rw [List.pairwise_map]
   refine((hn.filter _).imp_of_mem fun {a b} ha hb hab e=>hab ?_)
   have h1:=(List.mem_filter.1 ha).2
   have h2:=(List.mem_filter.1 hb).2
   simp only [bne_iff_ne,ne_eq] at h1 h2
   omega
  have ih:=zG hnd hK
  rw [List.length_map] at ih
  rw [List.countP_cons]
  by_cases hp:p a=true
  · have h0:0∈K:=h 0 a rfl hp
    have hlt:(K.filter (fun j=>j != 0)).length<K.length:=List.length_filter_lt_length_iff_exists.2 ⟨0,h0,by simp⟩
    rw [if_pos hp];omega
  · have:=List.length_filter_le (fun j=>j != 0) K
    rw [if_neg hp];omega
theorem BO {t:DTree}{h:Nat}(g:Good t h):used (nlT t)≤(ids t.nodes h t.root).length:=by
 refine zG g.nodup fun j x hx hp=>?_
 obtain⟨n,hn,rfl⟩:=xq hx
 have hlt:=(ggs.1 hn).1
 exact g.all j hlt (by rw [wV hn];exact uv.1 hp)
theorem Dd {ns:List DNode}(hns : ∀ n∈ns,sC n=0):∀ {h:Nat} {i:Int} {s:Span},sj ns h i 4 s→3*(ids ns h i).length+1≤(rO ns h i).length:=by
 intro h
 induction h with
 | zero =>
  intro i s c
  have:=c.2.2.1
  simp only [ids,rO,List.length_singleton];omega
 | succ h ih =>
  intro i s c
  rw [ids,rO,List.length_cons,List.length_flatMap,List.length_flatMap]
  have key : ∀ l:List Int,(∀ k∈l,3*(ids ns h k).length+1≤(rO ns h k).length)→3*(l.map fun a=>(ids ns h a).length).sum+l.length≤(l.map fun a=>(rO ns h a).length).sum:=by
   intro l
   induction l with
   | nil=>intro _;simp
   | cons a l ihl =>
    intro hk
    have:=ihl fun k h=>hk k (List.mem_cons_of_mem _ h)
    have:=hk a List.mem_cons_self
    simp only [List.map_cons,List.sum_cons,List.length_cons];omega
  have:=key (nd ns i).kids fun k hk=>by obtain ⟨t,s',x,_⟩:=c.2.2.2.mem k hk;exact ih x.1
  have:=c.2.2.1
  omega
theorem CC {t:DTree}{h:Nat}(g:Good t h)(hl:(rO t.nodes h t.root).length≤400):(ids t.nodes h t.root).length≤134∧h<134:=by
 have hh:=wu g.chk h t.root 0 topS g.ok
 have c:=vJ g
 rw [sQ] at c
 have:(ids t.nodes h t.root).length≤134:=by
  cases h with
  | zero=>simp [ids]
  | succ h =>
   have key : ∀ l:List Int,(∀ k∈l,3*(ids t.nodes h k).length+1≤(rO t.nodes h k).length)→3*(l.map fun a=>(ids t.nodes h a).length).sum+l.length≤(l.map fun a=>(rO t.nodes h a).length).sum:=by
    intro l
    induction l with
    | nil=>intro _;simp
    | cons a l ihl =>
     intro hk
     have:=ihl fun k h=>hk k (List.mem_cons_of_mem _ h)
     have:=hk a List.mem_cons_self
     simp only [List.map_cons,List.sum_cons,List.length_cons];omega
   have h1:=key (nd t.nodes t.root).kids fun k hk=>by obtain ⟨t',s',x,_⟩:=c.2.2.2.mem k hk;exact Dd g.chk x.1
   have h2:2≤(nd t.nodes t.root).kids.length:=by have:=c.2.2.1;unfold mOf at this;simpa using this
   rw [rO,List.length_flatMap] at hl
   rw [ids,List.length_cons,List.length_flatMap]
   omega
 omega
theorem xM {N:NL}{h:Nat}{root:Int}(hc:tz N)(hl:N.length≤400)(c:sj (fN N) h root (mOf 0 h) topS)(hn:(ids (fN N) h root).Nodup)(hall : ∀(j:Nat) (x:Int ⊕ DNode),N[j]? = some x→p9 x≠0→j∈ids (fN N) h root):Good ⟨root,fN N⟩ h:=by
 refine⟨by show (fN N).length≤400;rw [rX];exact hl,hc,(xO hc h root 0 topS (Int.le_refl _)).2 c,hn,fun i hi hk=>?_⟩
 have hi' : i<(fN N).length:=hi
 rw [rX] at hi'
 have hg:N[i]? = some N[i]:=gge hi'
 refine hall i _ hg fun h0=>hk ?_
 have:nd (fN N) (i:Int)=fN1 N[i]:=by unfold nd;rw [Int.toNat_natCast,vI,hg];rfl
 rw [this]
 cases hx:N[i] with
 | inl k=>rfl
 | inr n=>rw [hx] at h0;exact h0
theorem DI (d:Int)(h:Nat):mOf d h≤4:=by
 unfold mOf
 split
 · exact Nat.le_refl _
 · split <;> omega
theorem zY {t:DTree}{h:Nat}(g:Good t h){N' : NL}{K:List Nat}{c:Nat}(f:Fr2 (nlT t) N' (ids (fN (nlT t)) h t.root) K c)(hK : ∀ j∈K,∃ n:DNode,N'[j]? = some (.inr n)∧n.kind≠0):∀(j:Nat) (k:Int),N'[j]?≠some (.inl k):=fun j k hj=>by
 have hold : ∀(j:Nat) (x:Int ⊕ DNode),(nlT t)[j]? = some x→p9 x≠0→j∈ids (fN (nlT t)) h t.root:=fun j x hx hk=>by
  obtain⟨n,hn,rfl⟩:=xq hx
  rw [sQ]
  exact g.all j (ggs.1 hn).1 (by rw [wV hn];exact hk)
 by_cases hk:k=0
 · subst hk
   obtain⟨n,_,h⟩:=xq (f.zero j hj)
   cases h
 · rcases f.all j _ hj hk with h | ⟨h,y,hy,hyk⟩
   · obtain⟨n,hn,_⟩:=hK j h
     rw [hn] at hj;cases hj
   · exact h (hold j y hy hyk)
theorem Br {t:DTree}{h:Nat}(g:Good t h){N' : NL}{K:List Nat}{c:Nat}(f:Fr2 (nlT t) N' (ids (fN (nlT t)) h t.root) K c):∀(j:Nat) (x:Int ⊕ DNode),N'[j]? = some x→p9 x≠0→j∈K:=fun j x hx hk=>by
 rcases f.all j x hx hk with h | ⟨h,y,hy,hyk⟩
 · exact h
 · obtain⟨n,hn,rfl⟩:=xq hy
   exact absurd (by rw [sQ];exact g.all j (ggs.1 hn).1 (by rw [wV hn];exact hyk)) h
theorem BI {t:DTree}{h:Nat}{e:DElem}(g:Good t h)(he:sd e=0)(hne : ∀ x∈rO t.nodes h t.root,rP x≠rP e)(hl:(rO t.nodes h t.root).length≤400) :
 ∃(root:Int) (N:NL),Aw F e (nlT t) t.root=some (root,N)∧oH N=some (fN N)∧∃ h',Good ⟨root,fN N⟩ h'∧rO (fN N) h' root=AK (rO t.nodes h t.root) e:=by
 obtain⟨f1,f2⟩:=CC g hl
 have hu:=BO g
 have hF:=(inferInstance:Big F).le
 have c:=vJ g
 have hsort:=(tq g.chk h t.root 0 topS g.ok).1
 have hlen:(nlT t).length≤400:=by unfold nlT;rw [List.length_map];exact g.len
 obtain⟨N',sp,r,b,hrun,hpost⟩:=CD (F:=F) he h F (nlT t) t.root (mOf 0 h) topS (by omega) (xX g) hlen (by omega) c (by rw [sQ];exact g.nodup) rfl (by rw [sQ];exact hne)
 have sorted : ∀ {ns:List DNode} {h' : Nat} {root:Int},Good ⟨root,ns⟩ h'→(∀ x,x∈rO ns h' root↔x=e∨x∈rO t.nodes h t.root)→rO ns h' root=AK (rO t.nodes h t.root) e:=fun {ns h' root} gg hm=>by
  refine zo (tq gg.chk h' root 0 topS gg.ok).1 (xy hsort e) fun x=>?_
  rw [hm x,zX]
  constructor
  · rintro(h | h)
    · exact .inl h
    · exact .inr ⟨h,hne x h⟩
  · rintro(h | h)
    · exact .inl h
    · exact .inr h.1
 unfold Aw
 rw [hrun,obs]
 dsimp only
 rcases hpost with ⟨rfl,P⟩ | ⟨rfl,hsp,P⟩
 · obtain⟨k,t',e1,e2,x⟩:=P.ch
   obtain rfl:t.root=k:=by simpa using e1
   have hK : [t.root].flatMap (ids (fN N') h)=ids (fN N') h t.root:=List.flatMap_singleton ..
   have fr:=P.fr
   rw [hK] at fr
   have hcap:N'.length≤400:=by have:=fr.cap;have:=fr.use;omega
   have gg:=xM fr.chk hcap x.1 fr.nodup (Br g fr)
   refine⟨t.root,N',rfl,xG (zY g fr x.1.used),h,gg,sorted gg fun y=>?_⟩
   have:=P.elems y
   rw [List.flatMap_singleton,sQ] at this
   exact this
 · obtain⟨k,ks',t',ts',e1,e2,i1,x,k2,t2,e3,e4,y⟩:=P.ch
   obtain⟨rfl,rfl⟩ : t.root=k∧[r]=ks':=by simpa using e1
   obtain rfl:r=k2:=by simpa using e3
   have hK : [t.root,r].flatMap (ids (fN N') h)=ids (fN N') h t.root++ids (fN N') h r:=by simp
   have fr:=P.fr
   rw [hK] at fr
   have hcap:N'.length≤400:=by have:=fr.cap;have:=fr.use;omega
   have hKu : ∀ q∈ids (fN N') h t.root++ids (fN N') h r,∃ n:DNode,N'[q]? = some (.inr n)∧n.kind≠0:=fun q hq=>by
    rcases List.mem_append.1 hq with hq | hq
    · exact x.1.used q hq
    · exact y.1.used q hq
   obtain⟨N2,j,hT,tk⟩:=Ar (F:=F) (N:=N') ⟨2,[],[t.root,r],[sp],[rY (nd (fN N') t.root),rY (nd (fN N') r)]⟩ (by omega)
   have cc:Ch (wI (fN N') h) [sp] topS [t.root,r] [rY (nd (fN N') t.root),rY (nd (fN N') r)]:=⟨t.root,[r],_,_,rfl,rfl,i1,⟨x.1,rfl⟩,r,_,rfl,rfl,⟨y.1,rfl⟩⟩
   have hck:=sK (n:=⟨2,[],[t.root,r],[sp],[rY (nd (fN N') t.root),rY (nd (fN N') r)]⟩) rfl (uf fr.chk hcap cc (by simp) (by simp) (List.pairwise_singleton _ _) (by simpa using hsp))
   have fr2:=fr.take tk (xv _ _ _ _) hck fun q hq=>by obtain ⟨n,hn,hk⟩:=hKu q hq;exact⟨_,hn,hk⟩
   have hlen2:N'.length≤N2.length:=by rcases tk.len with h | ⟨h,_⟩ <;> omega
   have hjK : ∀ q∈ids (fN N') h t.root++ids (fN N') h r,N2[q]? = N'[q]?:=fun q hq=>tk.same q fun e=>by
    subst e
    obtain⟨n,hn,hk⟩:=hKu q hq
    exact absurd (tk.free _ hn) hk
   obtain⟨a1,a2,a3⟩:=tA hlen2 cc fun q hq=>hjK q (by rw [hK] at hq;exact hq)
   have hnd:nd (fN N2) (j:Int)=⟨2,[],[t.root,r],[sp],[rY (nd (fN N') t.root),rY (nd (fN N') r)]⟩:=vB (by rw [Int.toNat_natCast];exact tk.at_)
   have hjl:j<N2.length:=(ggs.1 tk.at_).1
   have hids:ids (fN N2) (h+1) (j:Int)=j::(ids (fN N') h t.root++ids (fN N') h r):=by
    rw [ids,hnd,Int.toNat_natCast]
    show j::[t.root,r].flatMap _=_
    rw [a2,hK]
   have sub:sj (fN N2) (h+1) (j:Int) (mOf 0 (h+1)) topS:=⟨by rw [rX];omega,by rw [hnd],by rw [hnd];unfold mOf;simp,by rw [hnd];exact a1⟩
   rw [← hids] at fr2
   have hcap2:N2.length≤400:=by have:=fr2.cap;have:=fr2.use;omega
   have gg:=xM fr2.chk hcap2 sub fr2.nodup (Br g fr2)
   refine⟨(j:Int),N2,?_,xG (zY g fr2 sub.used),h+1,gg,sorted gg fun z=>?_⟩
   · rw [Bool.not_true,cond_false,x.1.node.1,obs,y.1.node.1,obs,sX fr.chk x.1.range,obs,sX fr.chk y.1.range,obs,zp,hT,obs]
   · have:=P.elems z
     rw [sQ] at this
     rw [← this,rO,hnd]
     show z∈[t.root,r].flatMap _↔_
     rw [a3]
theorem xS {t:DTree}{h:Nat}{e:DElem}(g:Good t h)(he:sd e=0) :
 ∃ N:NL,nN (vH F e) F (nlT t,t.root)=some N∧oH N=some (fN N)∧Good ⟨t.root,fN N⟩ h∧rO (fN N) h t.root=(rO t.nodes h t.root).map (tU e):=by
 have hF:=(inferInstance:Big F).le
 have hh:=tX g
 obtain⟨N,hrun,P⟩:=Cn (F:=F) he h F (nlT t) t.root (mOf 0 h) topS (by omega) (xX g) (vJ g) (by rw [sQ];exact g.nodup) rfl
 have hn:(ids (fN N) h t.root).Nodup:=by rw [P.ids,sQ];exact g.nodup
 have hin : ∀(j:Nat) (x:Int ⊕ DNode),N[j]? = some x→(∃ n,x = .inr n)∧(p9 x≠0→j∈ids (fN N) h t.root):=fun j x hx=>by
  by_cases hj:j∈ids (fN N) h t.root
  · obtain⟨n,hn,_⟩:=P.sub.used j hj
    rw [hn] at hx
    exact⟨⟨n,(Option.some.inj hx).symm⟩,fun _=>hj⟩
  · rw [P.out j (by rw [← P.ids];exact hj)] at hx
    obtain⟨n,hn,rfl⟩:=xq hx
    exact⟨⟨n,rfl⟩,fun hk=>by
     rw [P.ids,sQ]
     exact g.all j (ggs.1 hn).1 (by rw [wV hn];exact hk)⟩
 refine⟨N,hrun,xG fun j k hj=>?_,xM P.chk ?_ P.sub hn fun j x hx=>(hin j x hx).2,?_⟩
 · obtain⟨⟨n,hn⟩,_⟩:=hin j _ hj
   cases hn
 · rw [P.len];unfold nlT;rw [List.length_map];exact g.len
 · rw [P.elems,sQ]
theorem BM {α β:Type}(f:α→List β){l:List α}{k:Nat}(hk:k<l.length):(l.take (k+1)).flatMap f=(l.take k).flatMap f++f l[k]∧((l.take k).flatMap f).length+(f l[k]).length≤(l.flatMap f).length:=by
 have h1:(l.take (k+1)).flatMap f=(l.take k).flatMap f++f l[k]:=by
  rw [List.take_add_one,gge hk,List.flatMap_append];simp
 refine⟨h1,?_⟩
 have h2:l.flatMap f=(l.take (k+1)).flatMap f++(l.drop (k+1)).flatMap f:=by rw [← List.flatMap_append,List.take_append_drop]
 rw [h2,h1,List.length_append,List.length_append];omega
theorem xj {t:DTree}{h:Nat}(g:Good t h):(rO t.nodes h t.root).Pairwise SpO:=(tq g.chk h t.root 0 topS g.ok).1
theorem xh {t:DTree}{h:Nat}(g:Good t h):∀ n∈t.nodes,Small n:=fun n hn=>tK (g.chk n hn)
def zT:DTree:=⟨0,[]⟩
def AV:DTree:=⟨0,[⟨1,[],[],[],[]⟩]⟩
theorem BV:Good AV 0:=by
 have hc:sC ⟨1,[],[],[],[]⟩=0:=sG.2 (.inr (.inl ⟨rfl,⟨rfl,rfl,rfl,Nat.zero_le _,fun e he=>(by cases he),List.Pairwise.nil⟩⟩))
 refine⟨by simp [AV],fun n hn=>?_,⟨⟨by decide,by simp [AV]⟩,rfl,fun h=>absurd h (by decide),fun x hx=>(by cases hx)⟩,by simp [AV,ids],fun i hi _=>?_⟩
 · obtain rfl:n=⟨1,[],[],[],[]⟩:=by simpa [AV] using hn
   exact hc
 · simp [AV,ids] at hi ⊢;exact hi
end
section
variable {F:Nat} [Big F]
theorem vW {t:DTree}{h h' : Nat}{root' : Int}{N' : NL}(g:Good t h)(len:N'.length=(nlT t).length)(out : ∀ j:Nat,j ∉ ids t.nodes h t.root→N'[j]? = (nlT t)[j]?)(chk:tz N')(sub:sj (fN N') h' root' (mOf 0 h') topS)
 (perm : ∃ Z,(ids t.nodes h t.root).Perm (Z++ids (fN N') h' root')∧∀ j∈Z,N'[j]? = some (.inr zN)):oH N' = some (fN N')∧Good ⟨root',fN N'⟩ h':=by
 obtain⟨Z,hZ,hz⟩:=perm
 have key : ∀(j:Nat) (x:Int ⊕ DNode),N'[j]? = some x→(∃ n,x = .inr n)∧(p9 x≠0→j∈ids (fN N') h' root'):=fun j x hx=>by
  by_cases hj:j∈ids t.nodes h t.root
  · rcases List.mem_append.1 (hZ.mem_iff.1 hj) with hj | hj
    · rw [hz j hj] at hx
      obtain rfl:=Option.some.inj hx
      exact⟨⟨_,rfl⟩,fun hk=>absurd rfl hk⟩
    · obtain⟨n,hn,_⟩:=sub.used j hj
      rw [hn] at hx
      exact⟨⟨n,(Option.some.inj hx).symm⟩,fun _=>hj⟩
  · rw [out j hj] at hx
    obtain⟨n,hn,rfl⟩:=xq hx
    exact⟨⟨n,rfl⟩,fun hk=>absurd (g.all j (ggs.1 hn).1 (by rw [wV hn];exact hk)) hj⟩
 refine⟨xG fun j k hj=>?_,xM chk ?_ sub ?_ fun j x hx=>(key j x hx).2⟩
 · obtain⟨⟨n,hn⟩,_⟩:=key j _ hj
   cases hn
 · rw [len];unfold nlT;rw [List.length_map];exact g.len
 · exact(List.nodup_append.1 (hZ.nodup_iff.1 g.nodup)).2.1
theorem Ai {N:NL}{i:Int}{n:DNode}(h:N[i.toNat]? = some (.inr n)):js (iY N i) i n=N:=by
 refine List.ext_getElem? fun j=>?_
 by_cases hj:j=i.toNat
 · subst hj
   rw [sJ _ (by rw [rR];exact(ggs.1 h).1),h]
 · rw [sg _ hj,sB _ hj]
theorem yN {t:DTree}{h:Nat}{sp:DSpot}(g:Good t h) :
 ∃(root:Int) (N:NL),Ad F sp (nlT t) t.root=some (N,root)∧oH N=some (fN N)∧∃ h',Good ⟨root,fN N⟩ h'∧rO (fN N) h' root=(rO t.nodes h t.root).filter (uu sp):=by
 have hF:=(inferInstance:Big F).le
 have hfu:=tX g
 have hc:=xX g
 have c:=vJ g
 have hlen:(nlT t).length≤400:=by unfold nlT;rw [List.length_map];exact g.len
 have hnd:(ids (fN (nlT t)) h t.root).Nodup:=by rw [sQ];exact g.nodup
 have hr:=c.range
 rw [rX] at hr
 unfold Ad
 cases h with
 | zero =>
  obtain⟨N',hrun,P⟩:=Aj (F:=F) sp 0 F (nlT t) t.root 0 topS (by omega) hc hlen (.inl rfl) c hnd rfl
  have c' : sj (fN N') 0 t.root 0 topS:=P.sub
  have L:=c'.leaf P.chk
  obtain⟨q1,q2⟩:=c'.node
  obtain⟨r1,r2⟩:=vW g P.len (fun j hj=>P.out j (by rw [sQ];exact hj)) P.chk c' (by obtain ⟨Z,hZ,hz⟩:=P.perm;rw [sQ] at hZ;exact⟨Z,hZ,hz⟩)
  refine⟨t.root,N',?_,r1,0,r2,by rw [P.elems,sQ]⟩
  rw [hrun,obs,q1,obs,L.kids,show (((([]:List Int).length:Int)) == 1)=false from rfl,cond_false,obs,Ai q2]
 | succ h =>
  obtain⟨f,hf⟩ : ∃ f,F=f+1:=⟨F-1,by omega⟩
  obtain⟨N3,K,X,T,hrun,M⟩:=BD (F:=F) (Aj sp h) (mf:=f) (by omega) hc hlen c hnd rfl
  rw [← hf] at hrun
  have hids:ids t.nodes (h+1) t.root=t.root.toNat::(nd t.nodes t.root).kids.flatMap (ids t.nodes h):=rfl
  have hels:rO t.nodes (h+1) t.root=(nd t.nodes t.root).kids.flatMap (rO t.nodes h):=rfl
  have hMe:=M.elems
  obtain⟨Z,hZ,hz⟩:=M.perm
  rw [sQ] at hMe hZ
  have hn1:=g.nodup
  rw [hids] at hn1
  obtain⟨n1,n2⟩:=List.nodup_cons.1 hn1
  have hl3:=M.len
  have h2:2≤(nd t.nodes t.root).kids.length:=by have:=c.2.2.1;rw [sQ] at this;unfold mOf at this;simpa using this
  have hmore:=M.more
  rw [sQ] at hmore
  have hget:(js N3 t.root ⟨2,[],K,X,T⟩)[t.root.toNat]? = some (.inr ⟨2,[],K,X,T⟩):=sJ _ (by rw [hl3];omega)
  have hnode:kj (js N3 t.root ⟨2,[],K,X,T⟩) t.root=some ⟨2,[],K,X,T⟩:=by
   unfold kj
   rw [if_neg (by omega),hget];rfl
  rw [hrun,obs,hnode,obs]
  dsimp only
  by_cases h1:K.length=1
  · obtain⟨k,rfl⟩:=List.length_eq_one_iff.1 h1
    obtain⟨X0,hX0⟩ : ∃ X0,X0=X:=⟨_,rfl⟩
    have hXl:=M.ch.lens.1
    obtain rfl:X=[]:=List.eq_nil_of_length_eq_zero (by simpa using hXl)
    obtain⟨k',t',e1,e2,q⟩:=M.ch
    obtain rfl:k=k':=by simpa using e1
    have hkn : ∀ j∈ids (fN N3) h k,j≠t.root.toNat:=fun j hj e=>n1 (hZ.mem_iff.2 (List.mem_append_right _ (by rw [List.flatMap_singleton,← e];exact hj)))
    have hN:js (iY (js N3 t.root ⟨2,[],[k],[],T⟩) t.root) t.root zN=js N3 t.root zN:=by
     unfold js iY
     rw [List.set_set,List.set_set]
    obtain⟨a1,a2,a3,a4⟩:=sj.agree (N':=js N3 t.root zN) (by rw [rV];exact Nat.le_refl _) q.1 fun j hj=>sg N3 (hkn j hj)
    rw [List.flatMap_singleton] at hMe hZ
    obtain⟨r1,r2⟩:=vW (root':=k) g (by rw [rV];exact hl3) (fun j hj=>by
     have:=M.out j (by rw [sQ];exact hj)
     rw [hids,List.mem_cons,not_or] at hj
     rw [sg N3 hj.1,this]) (M.chk.put Bo) (a1.weak (DI 0 h)) ⟨t.root.toNat::Z,by rw [hids,a2];exact List.Perm.cons _ hZ,fun j hj=>by
     rcases List.mem_cons.1 hj with rfl | hj
     · exact sJ _ (by rw [hl3];omega)
     · rw [sg N3 (show j≠t.root.toNat from fun e=>n1 (hZ.mem_iff.2 (List.mem_append_left _ (by rw [← e];exact hj))))]
       exact hz j hj⟩
    refine⟨k,js N3 t.root zN,?_,r1,h,r2,by rw [a3,hMe,hels]⟩
    rw [show ((([k]:List Int).length:Int) == 1)=true from rfl,cond_true,uY (by rw [rR,rV,hl3];exact hr),obs,show idx [k] 0=some k from rfl,obs,obs]
    dsimp only
    exact congrArg (fun q=>some (q,k)) hN
  · have P:=BE hlen c hc hnd M (by omega)
    have h2K:2≤K.length:=by omega
    have hck:=sK (n:=⟨2,[],K,X,T⟩) rfl (uf M.chk (by rw [hl3];exact hlen) M.ch h2K (by have:=M.few;rw [sQ] at this;have:=(c.inner hc).eight;rw [sQ] at this;omega) M.ord M.ok)
    have hnd2:=vB hget
    have c' : sj (fN (js N3 t.root ⟨2,[],K,X,T⟩)) (h+1) t.root (mOf 0 (h+1)) topS :=
     ⟨P.sub.1,P.sub.2.1,by rw [hnd2];unfold mOf;simpa using h2K,P.sub.2.2.2⟩
    obtain⟨r1,r2⟩:=vW g P.len (fun j hj=>P.out j (by rw [sQ];exact hj)) P.chk c' (by obtain ⟨Z,hZ,hz⟩:=P.perm;rw [sQ] at hZ;exact⟨Z,hZ,hz⟩)
    refine⟨t.root,_,?_,r1,h+1,r2,by rw [P.elems,sQ]⟩
    rw [show ((K.length:Int) == 1)=false by rw [beq_eq_false_iff_ne];omega,cond_false,obs,Ai hget]
theorem DO {l:List DElem}{r:Nat}{x:DElem}(ho:l.Pairwise SpO)(hx:l[r]? = some x):l.filter (uu (rP x))=l.take r++l.drop (r+1):=by
 obtain⟨hr,he⟩:=ggs.1 hx
 have e:=vm l hr
 rw [he] at e
 have hnx:uu (rP x) x=false:=by unfold uu;simp
 have ho':=ho
 rw [e] at ho'
 obtain⟨o1,o2,o3⟩:=List.pairwise_append.1 ho'
 conv=>lhs;rw [e]
 rw [List.filter_append,List.filter_cons,if_neg (by rw [hnx];decide),wW,wW]
 · intro y hy hs
   have h1:cmpS (rP x) (rP y)<0:=(List.pairwise_cons.1 o2).1 y hy
   rw [hs,rW.refl] at h1;omega
 · intro y hy hs
   have h1:cmpS (rP y) (rP x)<0:=o3 y hy x List.mem_cons_self
   rw [hs,rW.refl] at h1;omega
end
end Go.Proofs.Ytljbmnknmhogaaa
namespace Go.Proofs.Ytljbmnknmhogaaa
set_option linter.unusedVariables false
set_option linter.unusedSimpArgs false
section walks
variable {τ α β:Type} {F:Nat}
def sE (t:τ→α→τ × Nat):List α→τ→τ × Nat
 | [],a=>(a,0)
 | e::l,a=>if (t a e).2=0 then sE t l (t a e).1 else t a e
theorem tD (t:τ→α→τ × Nat):∀(l m:List α) (a:τ),sE t (l++m) a=if (sE t l a).2=0 then sE t m (sE t l a).1 else sE t l a
 | [],m,a=>by simp [sE]
 | e::l,m,a=>by
  rw [List.cons_append,sE,sE]
  by_cases h:(t a e).2=0
  · rw [if_pos h,if_pos h,tD t l m]
  · rw [if_neg h,if_neg h,if_neg h]
theorem uV (t:τ→α→τ × Nat)(p:α→Bool):∀(l:List α) (a:τ),sE (fun st e=>if p e then t st e else (st,0)) l a=sE t (l.filter p) a
 | [],a=>rfl
 | e::l,a=>by
  rw [sE]
  by_cases h:p e=true
  · rw [if_pos h,List.filter_cons_of_pos h,sE]
    by_cases h0:(t a e).2=0
    · rw [if_pos h0,if_pos h0,uV t p l]
    · rw [if_neg h0,if_neg h0]
  · rw [if_neg h,if_pos rfl,List.filter_cons_of_neg h,uV t p l]
theorem tI (t:τ→α→τ × Nat)(g:β→List α):∀(l:List β) (a:τ),sE (fun st k=>sE t (g k) st) l a=sE t (l.flatMap g) a
 | [],a=>rfl
 | b::l,a=>by
  rw [sE,List.flatMap_cons,tD,tI t g l]
theorem vg (t:τ→α→τ × Nat)(len:τ→Nat)(ht : ∀ a e,len (t a e).1≤len a+1):∀(l:List α) (a:τ),len (sE t l a).1≤len a+l.length
 | [],a=>Nat.le_refl _
 | e::l,a=>by
  rw [sE,List.length_cons]
  have h1:=ht a e
  by_cases h:(t a e).2=0
  · rw [if_pos h]
    have:=vg t len ht l (t a e).1
    omega
  · rw [if_neg h];omega
theorem uG {S R:Type}[Big F]{f:S→Option (S ⊕ R)}(t:τ→α→τ × Nat)(l:List α)(enc:τ→Int→S)(o0:τ→R)(o1:τ→Nat→R)(a:τ)(hn:l.length≤9223372036854775807){s:S}(h0:s=enc a 0)
 (hs : ∀(k:Nat) (e:α) (st:τ),l[k]? = some e→sE t (l.take k) a=(st,0)→f (enc st (k:Int))=some (jJ (t st e).2 (.inl (enc (t st e).1 ((k:Int)+1))) (fun n=>.inr (o1 (t st e).1 n))))
 (he : ∀ st,sE t l a=(st,0)→f (enc st (l.length:Int))=some (.inr (o0 st))) :
 iter f F s=some (jJ (sE t l a).2 (o0 (sE t l a).1) (fun n=>o1 (sE t l a).1 n)):=by
 subst h0
 have key : ∀(m k N:Nat) (st:τ),k+m=l.length→m<N→sE t (l.take k) a=(st,0)→iter f N (enc st (k:Int))=some (jJ (sE t l a).2 (o0 (sE t l a).1) (fun n=>o1 (sE t l a).1 n)):=by
  intro m
  induction m with
  | zero =>
   intro k N st hk hN hr
   obtain⟨N,rfl⟩ : ∃ M,N=M+1:=⟨N-1,by omega⟩
   rw [List.take_of_length_le (by omega)] at hr
   rw [iter,show k=l.length by omega,he st hr,hr];rfl
  | succ m ih =>
   intro k N st hk hN hr
   obtain⟨N,rfl⟩ : ∃ M,N=M+1:=⟨N-1,by omega⟩
   have hkl:k<l.length:=by omega
   have hg:=gge hkl
   have hsplit:sE t l a=sE t (l[k]::l.drop (k+1)) st:=by
    have h1:=tD t (l.take k) (l.drop k) a
    rw [List.take_append_drop,hr,if_pos rfl,List.drop_eq_getElem_cons hkl] at h1
    exact h1
   rw [iter,hs k l[k] st hg hr]
   rw [sE] at hsplit
   cases hz:(t st l[k]).2 with
   | zero =>
    rw [iD]
    refine ih (k+1) N _ (by omega) (by omega) ?_
    rw [List.take_add_one,hg,tD,hr,if_pos rfl]
    show sE t [l[k]] st=_
    rw [sE,if_pos hz];rfl
   | succ n =>
    rw [if_neg (by omega)] at hsplit
    rw [iF,hsplit,hz,iF]
 exact key l.length 0 F a (by omega) (xo hn) rfl
end walks
def geB (s:DSpot)(e:DElem):Bool:=decide (0≤cmpS (rP e) s)
def sZ (ns:List DNode)(s:DSpot):Nat→Int→List DElem
 | 0,_=>[]
 | m+1,i=>(nd ns i).elems.filter (geB s)++(if (nd ns i).kind=1 then [] else ((nd ns i).kids.drop (uj (nd ns i).seps s)).flatMap (sZ ns s m))
theorem BN (ns:List DNode)(s:DSpot):∀(m:Nat) (i:Int),(sZ ns s m i).Sublist (se ns m i):=by
 intro m
 induction m with
 | zero=>intro i;exact List.Sublist.refl _
 | succ m ih =>
  intro i
  rw [sZ,se]
  refine List.Sublist.append List.filter_sublist ?_
  split
  · exact List.nil_sublist _
  · have h1 : ∀ l : List Int, (l.flatMap (sZ ns s m)).Sublist (l.flatMap (se ns m)) := by
     intro l
     induction l with
     | nil=>exact List.Sublist.refl _
     | cons a l ihl=>rw [List.flatMap_cons,List.flatMap_cons];exact(ih a).append ihl
    refine(h1 _).trans ?_
    have h2 : ∀(l:List Int) (k:Nat),((l.drop k).flatMap (se ns m)).Sublist (l.flatMap (se ns m)):=by
     intro l k
     conv=>rhs;rw [← List.take_append_drop k l,List.flatMap_append]
     exact List.sublist_append_right _ _
    exact h2 _ _
theorem vy {α β:Type}(p:β→Bool)(f:α→List β):∀ l:List α,(l.flatMap f).filter p=l.flatMap fun a=>(f a).filter p
 | []=>rfl
 | a::l=>by rw [List.flatMap_cons,List.flatMap_cons,List.filter_append,vy p f l]
theorem Cy {ns:List DNode}(hns : ∀ n∈ns,sC n=0)(s:DSpot):∀(h m:Nat) (i d:Int) (sp:Span),okN ns h i d sp→h<m→sZ ns s m i=(rO ns h i).filter (geB s):=by
 intro h
 induction h with
 | zero =>
  intro m i d sp hok hm
  obtain⟨m,rfl⟩ : ∃ q,m=q+1:=⟨m-1,by omega⟩
  rw [sZ,rO,if_pos hok.2.1,List.append_nil]
 | succ h ih =>
  intro m i d sp hok hm
  obtain⟨m,rfl⟩ : ∃ q,m=q+1:=⟨m-1,by omega⟩
  have hI:=(ug hns hok.1 hok.2.1).2
  rw [sZ,rO,if_neg hok.2.1.2,hI.elems,List.filter_nil,List.nil_append,vy]
  have hk : ∀ k∈(nd ns i).kids,sZ ns s m k=(rO ns h k).filter (geB s):=fun k hk=>by
   obtain⟨q,hq⟩:=List.mem_iff_getElem?.1 hk
   exact ih m k _ _ (hok.2.2.2 (k,q) (vv hq)).1 (by omega)
  have hcong : ∀ l:List Int,(∀ k∈l,k∈(nd ns i).kids)→l.flatMap (sZ ns s m)=l.flatMap fun k=>(rO ns h k).filter (geB s):=by
   intro l
   induction l with
   | nil=>intro _;rfl
   | cons a l ihl=>intro hl;rw [List.flatMap_cons,List.flatMap_cons,hk a (hl a List.mem_cons_self),ihl fun k hk=>hl k (List.mem_cons_of_mem _ hk)]
  rw [hcong _ fun k hk=>List.mem_of_mem_drop hk]
  have hnil:((nd ns i).kids.take (uj (nd ns i).seps s)).flatMap (fun k=>(rO ns h k).filter (geB s))=[]:=by
   rw [List.flatMap_eq_nil_iff]
   intro k hk
   rw [List.mem_take_iff_getElem] at hk
   obtain⟨q,hq,rfl⟩:=hk
   rw [List.filter_eq_nil_iff]
   intro e he
   have hqk:(nd ns i).kids[q]? = some (nd ns i).kids[q]:=gge (by omega)
   have h1:=(hok.2.2.2 (_,q) (vv hqk)).1
   have h2:=((tq hns h _ _ _ h1).2 e he).1
   have hw:=xQ (nd ns i).seps s
   have hx:(nd ns i).seps[q]? = some (nd ns i).seps[q]:=gge (by omega)
   have h3:=yd hx h2
   have h4:=(zu (nd ns i).seps s).1 q _ (by omega) hx
   have h5:=tS h3 h4
   unfold geB
   rw [decide_eq_true_eq]
   omega
  conv=>rhs;rw [← List.take_append_drop (uj (nd ns i).seps s) (nd ns i).kids,List.flatMap_append,hnil,List.nil_append]
def CP {τ:Type}(ns:List DNode)(s:DSpot)(len:τ→Nat)(m:Nat)(x:τ × Int):Prop:=yc ns m x.2∧len x.1+(sZ ns s m x.2).length≤100000
theorem yO {τ:Type}{t:DTree}{h:Nat}(hg:Good t h)(s:DSpot)(len:τ→Nat)(a:τ)(ha:len a=0){F:Nat}[Big F]:CP t.nodes s len F (a,t.root):=by
 have hF:=(inferInstance:Big F).le
 have h4:=tX hg
 refine⟨⟨h,0,topS,by omega,hg.ok⟩,?_⟩
 dsimp only
 have h1:=(BN t.nodes s F t.root).length_le
 rw [v9 hg.chk h F t.root 0 topS hg.ok (by omega)] at h1
 have:=uI hg
 omega
theorem yG {t:DTree}{h:Nat}(hg:Good t h)(s:DSpot){F:Nat}[Big F]:sZ t.nodes s F t.root=(rO t.nodes h t.root).filter (geB s):=by
 have hF:=(inferInstance:Big F).le
 have h4:=tX hg
 exact Cy hg.chk s h F t.root 0 topS hg.ok (by omega)
theorem Ae {τ:Type}{ns:List DNode}(hns : ∀ n∈ns,sC n=0){s:DSpot}{len:τ→Nat}{m:Nat}{a b:τ}{i:Int}(h:CP ns s len (m+1) (a,i))(h1:(nd ns i).kind≠1){t:τ→DElem→τ × Nat}(ht : ∀ a e,len (t a e).1≤len a+1)
 (hb:sE t ((nd ns i).elems.filter (geB s)) a=(b,0)) {k:Nat} {e:Int} (hk:((nd ns i).kids.drop (uj (nd ns i).seps s))[k]? = some e) {st:τ}
 (hr:sE (fun st k=>sE t (sZ ns s m k) st) (((nd ns i).kids.drop (uj (nd ns i).seps s)).take k) b=(st,0)):CP ns s len m (st,e):=by
 have hkids:=(h.1.kids hns).2
 refine⟨hkids e (List.mem_of_mem_drop (List.mem_of_getElem? hk)),?_⟩
 rw [tI] at hr
 have q1:=vg t len ht ((nd ns i).elems.filter (geB s)) a
 rw [hb] at q1
 have q2:=vg t len ht ((((nd ns i).kids.drop (uj (nd ns i).seps s)).take k).flatMap (sZ ns s m)) b
 rw [hr] at q2
 have h2:=h.2
 dsimp only at q1 q2 h2 ⊢
 rw [sZ,if_neg h1,List.length_append] at h2
 obtain⟨hkl,rfl⟩:=ggs.1 hk
 have h3:(((nd ns i).kids.drop (uj (nd ns i).seps s)).flatMap (sZ ns s m)).length=((((nd ns i).kids.drop (uj (nd ns i).seps s)).take k).flatMap (sZ ns s m)).length+(((((nd ns i).kids.drop (uj (nd ns i).seps s)).drop k)).flatMap (sZ ns s m)).length:=by
  rw [← List.length_append,← List.flatMap_append,List.take_append_drop]
 rw [List.drop_eq_getElem_cons hkl,List.flatMap_cons,List.length_append] at h3
 omega
theorem C5 {ns:List DNode}{i:Int}(hI:Inner (nd ns i))(s:DSpot):uj (nd ns i).seps s≤(nd ns i).kids.length:=by
 have:=xQ (nd ns i).seps s
 have:=hI.seps
 omega
end Go.Proofs.Ytljbmnknmhogaaa
namespace Go.Proofs.Ytljbmnknmhogaaa
set_option linter.unusedSimpArgs false
set_option linter.unusedVariables false
section
def CN {τ:Type}(ns:List DNode)(len:τ→Nat)(m:Nat)(x:τ × Int):Prop:=yc ns m x.2∧len x.1+(se ns m x.2).length≤100000
theorem B3 {τ:Type}{t:DTree}{h:Nat}(hg:Good t h)(len:τ→Nat)(a:τ)(ha:len a=0){F:Nat}[Big F]:CN t.nodes len F (a,t.root):=by
 have hF:=(inferInstance:Big F).le
 have h4:=tX hg
 refine⟨⟨h,0,topS,by omega,hg.ok⟩,?_⟩
 dsimp only
 rw [v9 hg.chk h F t.root 0 topS hg.ok (by omega)]
 have:=uI hg
 omega
theorem xi {t:DTree}{h:Nat}(hg:Good t h){F:Nat}[Big F]:se t.nodes F t.root=rO t.nodes h t.root:=by
 have hF:=(inferInstance:Big F).le
 have h4:=tX hg
 exact v9 hg.chk h F t.root 0 topS hg.ok (by omega)
theorem Bd {τ:Type}{ns:List DNode}{len:τ→Nat}{m:Nat}{a:τ}{i:Int}(h:CN ns len (m+1) (a,i)){t:τ→DElem→τ × Nat}(ht : ∀ a e,len (t a e).1≤len a+1){k:Nat}{e:DElem}(hk:(nd ns i).elems[k]? = some e){st:τ}
 (hr:sE t ((nd ns i).elems.take k) a=(st,0)):len st≤100000:=by
 have h1:=vg t len ht ((nd ns i).elems.take k) a
 rw [hr] at h1
 have h2:=h.2
 dsimp only at h1 h2
 rw [se,List.length_append] at h2
 have h3:=(List.take_sublist k (nd ns i).elems).length_le
 omega
theorem CO {τ:Type}{ns:List DNode}(hns : ∀ n∈ns,sC n=0){len:τ→Nat}{m:Nat}{a b:τ}{i:Int}(h:CN ns len (m+1) (a,i)){t:τ→DElem→τ × Nat}(ht : ∀ a e,len (t a e).1≤len a+1)
 (hb:sE t (nd ns i).elems a=(b,0)) {k:Nat} {e:Int} (hk:(nd ns i).kids[k]? = some e) {st:τ}
 (hr:sE (fun st k=>sE t (se ns m k) st) ((nd ns i).kids.take k) b=(st,0)):CN ns len m (st,e):=by
 have hkids:=(h.1.kids hns).2
 refine⟨hkids e (List.mem_of_getElem? hk),?_⟩
 rw [tI] at hr
 have q1:=vg t len ht (nd ns i).elems a
 rw [hb] at q1
 have q2:=vg t len ht (((nd ns i).kids.take k).flatMap (se ns m)) b
 rw [hr] at q2
 have h2:=h.2
 dsimp only at q1 q2 h2 ⊢
 rw [se,List.length_append] at h2
 obtain⟨hkl,rfl⟩:=ggs.1 hk
 have h3:((nd ns i).kids.flatMap (se ns m)).length=(((nd ns i).kids.take k).flatMap (se ns m)).length+(((nd ns i).kids.drop k).flatMap (se ns m)).length:=by
  rw [← List.length_append,← List.flatMap_append,List.take_append_drop]
 rw [List.drop_eq_getElem_cons hkl,List.flatMap_cons,List.length_append] at h3
 omega
end
section
variable {F:Nat} [Big F]
theorem vC {t:DTree}(hs : ∀ n∈t.nodes,Small n){h:Nat}(hg:Good t h):kX F t=some (tQ (rO t.nodes h t.root)):=by
 unfold kX
 rw [tN hs hg,obs]
 dsimp only
 rw [show ((0:Int) != 0)=false from rfl,cond_false,tJ];rfl
abbrev FlatP:=Int × Int × Int × Int × Int × ByteArray
def Cw (e:DElem):FlatP:=(e.key.pfs,e.key.obj,e.key.off,e.made,e.gone,e.val)
def uN (k:DKey)(u:Int)(st:FlatP)(e:DElem):FlatP × Nat:=if e.key≠k then (st,1) else if tu e u=true then (Cw e,2) else (st,0)
theorem Aq {k:DKey}{u:Int}{st:FlatP}{e:DElem}(h:e.key≠k):uN k u st e=(st,1):=if_pos h
theorem Bm {k:DKey}{u:Int}{st:FlatP}{e:DElem}(h:e.key=k)(hl:tu e u=true):uN k u st e=(Cw e,2):=by
 unfold uN;rw [if_neg (fun h'=>h' h),if_pos hl]
theorem Bl {k:DKey}{u:Int}{st:FlatP}{e:DElem}(h:e.key=k)(hl : ¬ tu e u=true):uN k u st e=(st,0):=by
 unfold uN;rw [if_neg (fun h'=>h' h),if_neg hl]
theorem CF {l:List DElem}(hp:l.Pairwise SpO){i j:Nat}{a b:DElem}(hij:i≤j)(ha:l[i]? = some a)(hb:l[j]? = some b):cmpK a.key b.key≤0:=by
 by_cases e:i=j
 · subst e
   rw [ha] at hb
   obtain rfl:=Option.some.inj hb
   rw [si.refl];exact Int.le_refl _
 · have:=tj hp (show i<j by omega) ha hb
   unfold SpO at this
   rcases ux.1 this with h | ⟨h,_⟩
   · exact Int.le_of_lt h
   · unfold rP at h
     dsimp only at h
     rw [h,si.refl];exact Int.le_refl _
theorem Du (k:DKey)(u:Int):∀(l:List DElem),l.Pairwise SpO→(∀ e∈l,0≤cmpK e.key k)→∀ a:FlatP,(∃ e,l.find? (fun e=>e.key == k&&tu e u)=some e∧sE (uN k u) l a=(Cw e,2))∨(l.find? (fun e=>e.key == k&&tu e u)=none∧∃ c,c≤1∧sE (uN k u) l a=(a,c)):=by
 intro l
 induction l with
 | nil=>intro _ _ a;exact .inr ⟨rfl,0,by omega,rfl⟩
 | cons e l ih =>
  intro hp hk a
  rw [sE]
  by_cases he:e.key=k
  · have hb:(e.key == k)=true:=by simpa using he
    rw [List.find?_cons,hb]
    by_cases hl:tu e u=true
    · left
      rw [Bm he hl,if_neg (by simp),hl]
      exact⟨e,rfl,rfl⟩
    · rw [Bl he hl,if_pos rfl,show tu e u=false by simpa using hl]
      exact ih (List.pairwise_cons.1 hp).2 (fun x hx=>hk x (List.mem_cons_of_mem _ hx)) a
  · right
    rw [Aq he,if_neg (by simp)]
    refine⟨?_,1,Nat.le_refl _,rfl⟩
    rw [List.find?_eq_none]
    intro x hx hq
    have hxk:x.key=k:=by
     have:=(Bool.and_eq_true_iff.1 hq).1
     simpa using this
    have h1:=hk e List.mem_cons_self
    obtain⟨j,hj⟩:=List.mem_iff_getElem?.1 hx
    have h2:=CF hp (i:=0) (j:=j) (Nat.zero_le _) rfl hj
    rw [hxk] at h2
    exact he ((si.zero _ _).1 (by omega))
theorem zx {l:List DElem}(ho : ∀ e∈l,sd e=0)(k:DKey)(u:Int):(l.filter (geB ⟨k,0⟩)).find? (fun e=>e.key == k&&tu e u)=atR l k u:=by
 unfold atR
 rw [List.find?_filter]
 have : ∀ m:List DElem,(∀ e∈m,e∈l)→m.find? (fun a=>decide (geB ⟨k,0⟩ a=true∧(a.key == k&&tu a u)=true))=m.find? fun e=>e.key == k&&tu e u:=by
  intro m
  induction m with
  | nil=>intro _;rfl
  | cons e m ih =>
   intro hm
   rw [List.find?_cons,List.find?_cons,ih fun x hx=>hm x (List.mem_cons_of_mem _ hx)]
   by_cases hk:e.key=k
   · obtain⟨_,h1,_⟩:=uw (ho e (hm e List.mem_cons_self))
     have hge:geB ⟨k,0⟩ e=true:=by
      refine decide_eq_true ?_
      have h2:=rW.neg (rP e) ⟨k,0⟩
      have:cmpS ⟨k,0⟩ (rP e)<0:=ux.2 (.inr ⟨hk.symm,by show (0:Int)<e.made;omega⟩)
      omega
     have hd:decide (geB ⟨k,0⟩ e=true∧(e.key == k&&tu e u)=true)=(e.key == k&&tu e u):=by cases hq:(e.key == k&&tu e u) <;> simp [hge]
     rw [hd]
   · have:(e.key == k)=false:=by simpa using hk
     rw [this];simp
 first
 | exact this l fun e he=>he
 | (simp only [Bool.decide_and,Bool.decide_eq_true] at this;exact this l fun e he=>he)
theorem yF {l:List DElem}{k:DKey}:∀ e∈l.filter (geB ⟨k,0⟩),0≤cmpK e.key k:=fun e he=>by
 have h1:=(List.mem_filter.1 he).2
 unfold geB at h1
 have h1:=of_decide_eq_true h1
 by_cases h:cmpK e.key k<0
 · have:cmpS (rP e) ⟨k,0⟩<0:=ux.2 (.inl h)
   omega
 · omega
theorem zk {t:DTree}(hs : ∀ n∈t.nodes,Small n){h:Nat}(hg:Good t h)(k:DKey)(u:Int):oY F t k u=some (atV (rO t.nodes h t.root) k u,atE (rO t.nodes h t.root) k u):=by
 have hlen : ∀(a:FlatP) (e:DElem),(fun _:FlatP=>0) (uN k u a e).1≤(fun _:FlatP=>0) a+1:=fun _ _=>Nat.zero_le _
 unfold oY atE atV
 rw [vC hs hg,obs]
 by_cases hr:tQ (rO t.nodes h t.root)=0
 rotate_left
 · rw [sv hr,cond_true,if_neg (fun h=>hr h.1),if_pos hr];rfl
 rw [sc hr,cond_false,tG,obs,if_neg (show ¬ tQ (rO t.nodes h t.root)≠0 by simpa using hr)]
 by_cases hk:uX k=0
 rotate_left
 · rw [sv hk,cond_true,if_neg (fun h=>hk h.2),if_pos hk];rfl
 rw [sc hk,cond_false,if_pos (show tQ (rO t.nodes h t.root)=0∧uX k=0 from ⟨hr,hk⟩),if_neg (show ¬ uX k≠0 by simpa using hk)]
 rw [uH (σ:=Int × Int × Int × Int × Int × ByteArray × Int) (fun m x=>match x with | (x1,x2,x3,x4,x5,x6,x7)=>CP t.nodes ⟨k,0⟩ (fun _:FlatP=>0) m ((x1,x2,x3,x4,x5,x6),x7))
  (fun m x=>match x with | (x1,x2,x3,x4,x5,x6,x7)=>let r:=sE (uN k u) (sZ t.nodes ⟨k,0⟩ m x7) (x1,x2,x3,x4,x5,x6);(r.2,r.1)) ?h0 ?hstep F _ (yO hg ⟨k,0⟩ (fun _=>0) _ rfl)]
 case h0 =>
  rintro⟨x1,x2,x3,x4,x5,x6,x7⟩ ⟨⟨h,d,s,hm,_⟩,_⟩
  omega
 case hstep =>
  rintro m self ih ⟨x1,x2,x3,x4,x5,x6,x7⟩ hpre
  dsimp only at hpre
  obtain⟨⟨h0,h1⟩,hkids⟩:=hpre.1.kids hg.chk
  dsimp only at h0 h1 hkids ⊢
  have hmem:=tC h0 h1
  obtain⟨h8,h8'⟩:=tV (hg.chk _ hmem)
  rw [vo h0 h1,obs]
  rw [uG (fun st e=>if geB ⟨k,0⟩ e then uN k u st e else (st,0)) (nd t.nodes x7).elems (fun (st:FlatP) j=>(st.1,st.2.1,st.2.2.1,st.2.2.2.1,st.2.2.2.2.1,st.2.2.2.2.2,j)) Sum.inl (fun st n=>Sum.inr (n+1,st)) (x1,x2,x3,x4,x5,x6) (by omega) rfl ?hs ?he]
  case hs =>
   rintro j e ⟨y1,y2,y3,y4,y5,y6⟩ hj hr
   have hkl:=(ggs.1 hj).1
   dsimp only
   rw [decide_eq_true (by omega),cond_true,rQ,hj,obs,rZ,obs,su,obs,w64 (by omega) (by omega)]
   unfold geB
   by_cases hge:0≤cmpS (rP e) ⟨k,0⟩
   · rw [decide_eq_true hge,cond_true,if_pos rfl]
     unfold uN
     by_cases hn:e.key=k
     · rw [if_neg (show ¬ e.key≠k by simpa using hn),show (!(e.key == k))=false by simpa using hn,cond_false,vl,obs]
       cases tu e u <;> rfl
     · rw [if_pos hn,show (!(e.key == k))=true by simpa using hn];rfl
   · rw [decide_eq_false hge,cond_false,if_neg (by simp)];rfl
  case he =>
   rintro⟨y1,y2,y3,y4,y5,y6⟩ hr
   dsimp only
   rw [decide_eq_false (by omega)];rfl
  rw [obs,uV,sZ]
  cases hb:sE (uN k u) ((nd t.nodes x7).elems.filter (geB ⟨k,0⟩)) (x1,x2,x3,x4,x5,x6) with
  | mk b c =>
   rw [tD,hb]
   cases c with
   | succ c=>rfl
   | zero =>
    obtain⟨b1,b2,b3,b4,b5,b6⟩:=b
    dsimp only [jJ]
    rw [if_pos rfl]
    by_cases hkd:(nd t.nodes x7).kind=1
    · rw [if_pos hkd,show ((nd t.nodes x7).kind == 1)=true by simpa using hkd];rfl
    · rw [if_neg hkd,show ((nd t.nodes x7).kind == 1)=false by simpa using hkd,cond_false]
      have hw:uj (nd t.nodes x7).seps ⟨k,0⟩≤(nd t.nodes x7).kids.length:=by
       rcases sG.1 (hg.chk _ hmem) with q | q | q
       · rw [q.2.2.2.1];exact Nat.zero_le _
       · exact absurd q.1 hkd
       · exact C5 q.2 ⟨k,0⟩
      rw [uc _ ⟨k,0⟩ (hs _ hmem),obs,sA hw,obs]
      rw [uG (fun st j=>sE (uN k u) (sZ t.nodes ⟨k,0⟩ m j) st) ((nd t.nodes x7).kids.drop (uj (nd t.nodes x7).seps ⟨k,0⟩)) (fun (st:FlatP) j=>(st.1,st.2.1,st.2.2.1,st.2.2.2.1,st.2.2.2.2.1,st.2.2.2.2.2,j)) Sum.inl (fun st n=>Sum.inr (n+1,st)) (b1,b2,b3,b4,b5,b6) (by rw [List.length_drop];omega) rfl ?hs2 ?he2]
      case hs2 =>
       rintro j e ⟨y1,y2,y3,y4,y5,y6⟩ hk2 hr
       have hkl:=(ggs.1 hk2).1
       rw [List.length_drop] at hkl
       dsimp only
       rw [decide_eq_true (by rw [List.length_drop];omega),cond_true,rQ,hk2,obs,ih (y1,y2,y3,y4,y5,y6,e) (Ae hg.chk hpre hkd hlen hb hk2 hr),obs,w64 (by omega) (by omega)]
       dsimp only
       cases hc:sE (uN k u) (sZ t.nodes ⟨k,0⟩ m e) (y1,y2,y3,y4,y5,y6) with
       | mk y c=>cases c <;> rfl
      case he2 =>
       rintro⟨y1,y2,y3,y4,y5,y6⟩ hr
       dsimp only
       rw [decide_eq_false (by omega)];rfl
      rw [obs,tI]
      cases hc:sE (uN k u) (((nd t.nodes x7).kids.drop (uj (nd t.nodes x7).seps ⟨k,0⟩)).flatMap (sZ t.nodes ⟨k,0⟩ m)) (b1,b2,b3,b4,b5,b6) with
      | mk y c=>cases c <;> rfl
 rw [obs]
 dsimp only
 rw [yG hg ⟨k,0⟩]
 obtain⟨hsort,hall⟩:=tq hg.chk h t.root 0 topS hg.ok
 have hat:=zx (fun e he=>(hall e he).2) k u (l:=rO t.nodes h t.root)
 rcases Du k u _ (hsort.filter _) yF (0,0,0,0,0,ByteArray.mk #[]) with ⟨e,h1,h2⟩ | ⟨h1,c,hc,h2⟩
 · rw [h2,← hat,h1];rfl
 · rw [h2,← hat,h1]
   have:c=0∨c=1:=by omega
   rcases this with rfl | rfl <;> rfl
end
section
variable {F:Nat} [Big F]
abbrev FlatN:=Bool × Int × Int × Int × Int × Int × ByteArray
def flatN (e:DElem):FlatN:=(true,e.key.pfs,e.key.obj,e.key.off,e.made,e.gone,e.val)
def uM (k:DKey)(st:FlatN)(e:DElem):FlatN × Nat:=if e.key≠k then (st,1) else if e.gone=0 then (flatN e,2) else (st,0)
theorem Ap {k:DKey}{st:FlatN}{e:DElem}(h:e.key≠k):uM k st e=(st,1):=if_pos h
theorem Bk {k:DKey}{st:FlatN}{e:DElem}(h:e.key=k)(hl:e.gone=0):uM k st e=(flatN e,2):=by
 unfold uM;rw [if_neg (fun h'=>h' h),if_pos hl]
theorem Bj {k:DKey}{st:FlatN}{e:DElem}(h:e.key=k)(hl : ¬ e.gone=0):uM k st e=(st,0):=by
 unfold uM;rw [if_neg (fun h'=>h' h),if_neg hl]
theorem Dt (k:DKey)(u:Int):∀(l:List DElem),l.Pairwise SpO→(∀ e∈l,0≤cmpK e.key k)→(∀ e∈l,sP e≤u)→∀ a:FlatN,(∃ e,l.find? (fun e=>e.key == k&&tu e u)=some e∧sE (uM k) l a=(flatN e,2))∨(l.find? (fun e=>e.key == k&&tu e u)=none∧∃ c,c≤1∧sE (uM k) l a=(a,c)):=by
 intro l
 induction l with
 | nil=>intro _ _ _ a;exact .inr ⟨rfl,0,by omega,rfl⟩
 | cons e l ih =>
  intro hp hk hu a
  have hlv:=yL (hu e List.mem_cons_self)
  rw [sE]
  by_cases he:e.key=k
  · have hb:(e.key == k)=true:=by simpa using he
    rw [List.find?_cons,hb,hlv]
    by_cases hl:e.gone=0
    · left
      rw [Bk he hl,if_neg (by simp),show (e.gone == 0)=true by simpa using hl]
      exact⟨e,rfl,rfl⟩
    · rw [Bj he hl,if_pos rfl,show (e.gone == 0)=false by simpa using hl]
      exact ih (List.pairwise_cons.1 hp).2 (fun x hx=>hk x (List.mem_cons_of_mem _ hx)) (fun x hx=>hu x (List.mem_cons_of_mem _ hx)) a
  · right
    rw [Ap he,if_neg (by simp)]
    refine⟨?_,1,Nat.le_refl _,rfl⟩
    rw [List.find?_eq_none]
    intro x hx hq
    have hxk:x.key=k:=by
     have:=(Bool.and_eq_true_iff.1 hq).1
     simpa using this
    have h1:=hk e List.mem_cons_self
    obtain⟨j,hj⟩:=List.mem_iff_getElem?.1 hx
    have h2:=CF hp (i:=0) (j:=j) (Nat.zero_le _) rfl hj
    rw [hxk] at h2
    exact he ((si.zero _ _).1 (by omega))
def zj (o:Option DElem):DElem × Bool:=match o with
 | some e=>(e,true)
 | none=>(As,false)
theorem uk {t:DTree}{h:Nat}(hg:Good t h)(hr:Run (rO t.nodes h t.root))(k:DKey):mM F t k=some (zj (tg (rO t.nodes h t.root) k)):=by
 have hs:=xh hg
 have hlen : ∀(a:FlatN) (e:DElem),(fun _:FlatN=>0) (uM k a e).1≤(fun _:FlatN=>0) a+1:=fun _ _=>Nat.zero_le _
 unfold mM
 rw [uH (σ:=Bool × Int × Int × Int × Int × Int × ByteArray × Int) (fun m x=>match x with | (x0,x1,x2,x3,x4,x5,x6,x7)=>CP t.nodes ⟨k,0⟩ (fun _:FlatN=>0) m ((x0,x1,x2,x3,x4,x5,x6),x7))
  (fun m x=>match x with | (x0,x1,x2,x3,x4,x5,x6,x7)=>let r:=sE (uM k) (sZ t.nodes ⟨k,0⟩ m x7) (x0,x1,x2,x3,x4,x5,x6);(r.2,r.1)) ?h0 ?hstep F _ (yO hg ⟨k,0⟩ (fun _=>0) _ rfl)]
 case h0 =>
  rintro⟨x0,x1,x2,x3,x4,x5,x6,x7⟩ ⟨⟨h,d,s,hm,_⟩,_⟩
  omega
 case hstep =>
  rintro m self ih ⟨x0,x1,x2,x3,x4,x5,x6,x7⟩ hpre
  dsimp only at hpre
  obtain⟨⟨h0,h1⟩,hkids⟩:=hpre.1.kids hg.chk
  dsimp only at h0 h1 hkids ⊢
  have hmem:=tC h0 h1
  obtain⟨h8,h8'⟩:=tV (hg.chk _ hmem)
  rw [vo h0 h1,obs]
  rw [uG (fun st e=>if geB ⟨k,0⟩ e then uM k st e else (st,0)) (nd t.nodes x7).elems (fun (st:FlatN) j=>(st.1,st.2.1,st.2.2.1,st.2.2.2.1,st.2.2.2.2.1,st.2.2.2.2.2.1,st.2.2.2.2.2.2,j)) Sum.inl (fun st n=>Sum.inr (n+1,st)) (x0,x1,x2,x3,x4,x5,x6) (by omega) rfl ?hs ?he]
  case hs =>
   rintro j e ⟨y0,y1,y2,y3,y4,y5,y6⟩ hj hr
   have hkl:=(ggs.1 hj).1
   dsimp only
   rw [decide_eq_true (by omega),cond_true,rQ,hj,obs,rZ,obs,su,obs,w64 (by omega) (by omega)]
   unfold geB
   by_cases hge:0≤cmpS (rP e) ⟨k,0⟩
   · rw [decide_eq_true hge,cond_true,if_pos rfl]
     unfold uM
     by_cases hn:e.key=k
     · rw [if_neg (show ¬ e.key≠k by simpa using hn),show (!(e.key == k))=false by simpa using hn,cond_false]
       by_cases hz:e.gone=0
       · rw [if_pos hz,show (e.gone == 0)=true by simpa using hz];rfl
       · rw [if_neg hz,show (e.gone == 0)=false by simpa using hz];rfl
     · rw [if_pos hn,show (!(e.key == k))=true by simpa using hn];rfl
   · rw [decide_eq_false hge,cond_false,if_neg (by simp)];rfl
  case he =>
   rintro⟨y0,y1,y2,y3,y4,y5,y6⟩ hr
   dsimp only
   rw [decide_eq_false (by omega)];rfl
  rw [obs,uV,sZ]
  cases hb:sE (uM k) ((nd t.nodes x7).elems.filter (geB ⟨k,0⟩)) (x0,x1,x2,x3,x4,x5,x6) with
  | mk b c =>
   rw [tD,hb]
   cases c with
   | succ c=>rfl
   | zero =>
    obtain⟨b0,b1,b2,b3,b4,b5,b6⟩:=b
    dsimp only [jJ]
    rw [if_pos rfl]
    by_cases hkd:(nd t.nodes x7).kind=1
    · rw [if_pos hkd,show ((nd t.nodes x7).kind == 1)=true by simpa using hkd];rfl
    · rw [if_neg hkd,show ((nd t.nodes x7).kind == 1)=false by simpa using hkd,cond_false]
      have hw:uj (nd t.nodes x7).seps ⟨k,0⟩≤(nd t.nodes x7).kids.length:=by
       rcases sG.1 (hg.chk _ hmem) with q | q | q
       · rw [q.2.2.2.1];exact Nat.zero_le _
       · exact absurd q.1 hkd
       · exact C5 q.2 ⟨k,0⟩
      rw [uc _ ⟨k,0⟩ (hs _ hmem),obs,sA hw,obs]
      rw [uG (fun st j=>sE (uM k) (sZ t.nodes ⟨k,0⟩ m j) st) ((nd t.nodes x7).kids.drop (uj (nd t.nodes x7).seps ⟨k,0⟩)) (fun (st:FlatN) j=>(st.1,st.2.1,st.2.2.1,st.2.2.2.1,st.2.2.2.2.1,st.2.2.2.2.2.1,st.2.2.2.2.2.2,j)) Sum.inl (fun st n=>Sum.inr (n+1,st)) (b0,b1,b2,b3,b4,b5,b6) (by rw [List.length_drop];omega) rfl ?hs2 ?he2]
      case hs2 =>
       rintro j e ⟨y0,y1,y2,y3,y4,y5,y6⟩ hk2 hr
       have hkl:=(ggs.1 hk2).1
       rw [List.length_drop] at hkl
       dsimp only
       rw [decide_eq_true (by rw [List.length_drop];omega),cond_true,rQ,hk2,obs,ih (y0,y1,y2,y3,y4,y5,y6,e) (Ae hg.chk hpre hkd hlen hb hk2 hr),obs,w64 (by omega) (by omega)]
       dsimp only
       cases hc:sE (uM k) (sZ t.nodes ⟨k,0⟩ m e) (y0,y1,y2,y3,y4,y5,y6) with
       | mk y c=>cases c <;> rfl
      case he2 =>
       rintro⟨y0,y1,y2,y3,y4,y5,y6⟩ hr
       dsimp only
       rw [decide_eq_false (by omega)];rfl
      rw [obs,tI]
      cases hc:sE (uM k) (((nd t.nodes x7).kids.drop (uj (nd t.nodes x7).seps ⟨k,0⟩)).flatMap (sZ t.nodes ⟨k,0⟩ m)) (b0,b1,b2,b3,b4,b5,b6) with
      | mk y c=>cases c <;> rfl
 rw [obs]
 dsimp only
 rw [yG hg ⟨k,0⟩]
 obtain⟨hsort,hall⟩:=tq hg.chk h t.root 0 topS hg.ok
 have hlast:=hr.last_le
 have hat:=zx (fun e he=>(hall e he).2) k 2147483647 (l:=rO t.nodes h t.root)
 rw [Dl hr hlast] at hat
 rcases Dt k 2147483647 _ (hsort.filter _) yF (fun e he=>by have:=ve (List.mem_filter.1 he).1;omega) (false,0,0,0,0,0,ByteArray.mk #[]) with ⟨e,h1,h2⟩ | ⟨h1,c,hc,h2⟩
 · rw [h2,← hat,h1];rfl
 · rw [h2,← hat,h1]
   have:c=0∨c=1:=by omega
   rcases this with rfl | rfl <;> rfl
theorem BP {ns:List DNode}(hns : ∀ n∈ns,sC n=0):∀ {h:Nat} {i:Int} {m:Nat} {s:Span},sj ns h i m s→rY (nd ns i)=sY (rO ns h i):=by
 intro h
 induction h with
 | zero =>
  intro i m s c
  have L:=c.leaf hns
  obtain⟨g1,g2,g3⟩:=wr (nd ns i)
  have g0:=(vK (hns _ (tC c.range.1 c.range.2))).1
  have hnn:=wP (nd ns i).elems
  rw [rO]
  refine Int.le_antisymm ?_ (vd.2 ⟨g0,g1⟩)
  rcases g3 with g3 | ⟨e,he,g3⟩ | ⟨t,ht,_⟩
  · omega
  · rw [← g3];exact ve he
  · rw [L.tids] at ht;cases ht
 | succ h ih =>
  intro i m s c
  have L:=c.inner hns
  obtain⟨g1,g2,g3⟩:=wr (nd ns i)
  have g0:=(vK (hns _ (tC c.range.1 c.range.2))).1
  have hch:=c.2.2.2
  rw [rO]
  have hnn:=wP ((nd ns i).kids.flatMap (rO ns h))
  refine Int.le_antisymm ?_ (vd.2 ⟨g0,fun e he=>?_⟩)
  · rcases g3 with g3 | ⟨e,he,_⟩ | ⟨t,ht,g3⟩
    · omega
    · rw [L.elems] at he;cases he
    · obtain⟨k,s',hk,x⟩:=hch.tmem t ht
      rw [← g3,← x.2,ih x.1]
      exact vd.2 ⟨hnn,fun e he=>ve (List.mem_flatMap.2 ⟨k,hk,he⟩)⟩
  · obtain⟨k,hk,he⟩:=List.mem_flatMap.1 he
    obtain⟨q,hq⟩:=List.mem_iff_getElem?.1 hk
    obtain⟨t,s',ht,x,_⟩:=hch.at_ q k hq
    have h1:=g2 t (List.mem_of_getElem? ht)
    have h2:=ve he
    rw [← ih x.1,x.2] at h2
    omega
theorem tP {t:DTree}{h:Nat}(hg:Good t h)(u:Int):mo F t u=some (decide (u<1∨2147483647<u∨u<sY (rO t.nodes h t.root))):=by
 have c:=vJ hg
 rw [sQ] at c
 have hgr:=BP hg.chk c
 obtain⟨h0,h1⟩:=c.range
 unfold mo
 by_cases h2:u<1
 · rw [decide_eq_true h2,cond_true,obs,decide_eq_true (.inl h2)]
 · rw [decide_eq_false h2,cond_false]
   by_cases h3:2147483647<u
   · rw [decide_eq_true h3,cond_true,obs,decide_eq_true (.inr (.inl h3))]
   · rw [decide_eq_false h3,cond_false,vo h0 h1,obs,tf _ (tK (hg.chk _ (tC h0 h1))),obs,obs,hgr]
     congr 1
     rw [Bool.eq_iff_iff,decide_eq_true_eq,decide_eq_true_eq]
     omega
theorem uD {t:DTree}{h:Nat}(hg:Good t h):m6 F t=some (decide (400≤(rO t.nodes h t.root).length)):=by
 have hlen : ∀(a:Nat) (e:DElem),(fun a:Nat=>a) ((fun (a:Nat) (_:DElem)=>(a+1,0)) a e).1≤(fun a:Nat=>a) a+1:=fun _ _=>Nat.le_refl _
 unfold m6
 rw [uH (σ:=Int × Int) (fun m x=>yc t.nodes m x.2∧0≤x.1∧x.1+((se t.nodes m x.2).length:Int)≤100000) (fun m x=>x.1+((se t.nodes m x.2).length:Int)) ?h0 ?hstep F _ ?hpre]
 case h0 =>
  rintro⟨x1,x2⟩ ⟨⟨h,d,s,hm,_⟩,_⟩
  omega
 case hpre =>
  have hF:=(inferInstance:Big F).le
  have h4:=tX hg
  refine⟨⟨h,0,topS,by omega,hg.ok⟩,Int.le_refl _,?_⟩
  dsimp only
  rw [xi hg]
  have:=uI hg
  omega
 case hstep =>
  rintro m self ih ⟨x1,x2⟩ ⟨hok,hc0,hc1⟩
  obtain⟨⟨h0,h1⟩,hkids⟩:=hok.kids hg.chk
  dsimp only at h0 h1 hkids hc0 hc1 ⊢
  obtain⟨h8,h8'⟩:=tV (hg.chk _ (tC h0 h1))
  rw [se,List.length_append] at hc1
  rw [vo h0 h1,obs]
  rw [sU (fun k=>(x1+(k:Int),(k:Int))) (nd t.nodes x2).elems.length (r:=x1+((nd t.nodes x2).elems.length:Int)) (by simp) (by omega) ?s1 ?e1]
  case s1 =>
   intro k hk
   dsimp only
   rw [decide_eq_true (by omega),cond_true,rQ,gge hk,obs,w64 (by omega) (by omega),w64 (by omega) (by omega)]
   congr 3;omega
  case e1 =>
   dsimp only
   rw [decide_eq_false (by omega),cond_false]
  rw [obs]
  have hlen:((nd t.nodes x2).kids.flatMap (se t.nodes m)).length≤100000:=by omega
  rw [sU (fun k=>(x1+((nd t.nodes x2).elems.length:Int)+((((nd t.nodes x2).kids.take k).flatMap (se t.nodes m)).length:Int),(k:Int))) (nd t.nodes x2).kids.length (r:=x1+((nd t.nodes x2).elems.length:Int)+(((nd t.nodes x2).kids.flatMap (se t.nodes m)).length:Int)) (by simp) (by omega) ?s2 ?e2]
  case s2 =>
   intro k hk
   have hgk:(nd t.nodes x2).kids[k]? = some (nd t.nodes x2).kids[k]:=gge hk
   obtain⟨q1,q2⟩:=BM (se t.nodes m) hk
   dsimp only
   rw [decide_eq_true (by omega),cond_true,rQ,hgk,obs,ih _ ⟨hkids _ (List.getElem_mem _),by dsimp only;omega,by dsimp only;omega⟩,obs,w64 (by omega) (by omega)]
   dsimp only
   rw [q1,List.length_append]
   congr 3;omega
  case e2 =>
   dsimp only
   rw [decide_eq_false (by omega),cond_false,List.take_length]
  rw [obs,se,List.length_append]
  congr 1;omega
 rw [obs,obs]
 dsimp only
 rw [xi hg]
 congr 1
 rw [Bool.eq_iff_iff,decide_eq_true_eq,decide_eq_true_eq]
 omega
theorem BF {A B:List DElem}{e y:DElem}(hs:rP y=rP e)(ho:(A++e::B).Pairwise SpO):(A++e::B).map (tU y)=A++y::B:=by
 obtain⟨o1,o2,o3⟩:=List.pairwise_append.1 ho
 rw [List.map_append,List.map_cons,wG,wG]
 · unfold tU;rw [if_pos hs.symm]
 · intro x hx h
   have h1:cmpS (rP e) (rP x)<0:=(List.pairwise_cons.1 o2).1 x hx
   rw [h,hs,rW.refl] at h1;omega
 · intro x hx h
   have h1:cmpS (rP x) (rP e)<0:=o3 x hx e List.mem_cons_self
   rw [h,hs,rW.refl] at h1;omega
theorem Ds {A B:List DElem}{e:DElem}(ho:(A++e::B).Pairwise SpO):(A++e::B).filter (uu (rP e))=A++B:=by
 have hg:(A++e::B)[A.length]? = some e:=by rw [List.getElem?_append_right (Nat.le_refl _)];simp
 rw [DO ho hg,List.take_left' rfl,show A++e::B=(A++[e])++B by simp,List.drop_left' (by simp)]
section
variable {l:List DElem} {k:DKey} {t:Int} {v:ByteArray}
theorem xr (h:Run l){e:DElem}(hn:tg l k=some e):∃ a,l=(lo l k++a)++e::hi l k∧clo (hist l k) t=a++(if e.made=t then [] else [{ e with gone:=t }]):=by
 obtain⟨a,ha,hc⟩:=xJ (t:=t) h.ord hn
 refine⟨a,?_,hc⟩
 conv=>lhs;rw [vX k h.ord,ha]
 simp
theorem Dp (h:Run l){e:DElem}(hn:tg l k=some e)(hm:e.made=t):l.map (tU (tw k v t))=putR l k v t:=by
 obtain⟨a,h1,h2⟩:=xr (t:=t) h hn
 have hk:=((ud h.ord).1 hn).2.1
 have ho:=vY h.ord
 rw [h1] at ho
 have hsp:rP (tw k v t)=rP e:=by unfold rP tw;rw [hk,hm]
 conv=>lhs;rw [h1]
 rw [BF hsp ho]
 unfold putR upd
 rw [h2,if_pos hm]
 simp
theorem xL (h:Run l){e:DElem}(hn:tg l k=some e)(hm:e.made≠t):l.map (tU { e with gone:=t })=cutR l k t:=by
 obtain⟨a,h1,h2⟩:=xr (t:=t) h hn
 have ho:=vY h.ord
 rw [h1] at ho
 conv=>lhs;rw [h1]
 rw [BF (e:=e) (y:={ e with gone:=t }) rfl ho]
 unfold cutR upd
 rw [h2,if_neg hm]
 simp
theorem C7 (h:Run l){e:DElem}(hn:tg l k=some e)(hm:e.made=t):l.filter (uu (rP e))=cutR l k t:=by
 obtain⟨a,h1,h2⟩:=xr (t:=t) h hn
 have ho:=vY h.ord
 rw [h1] at ho
 conv=>lhs;rw [h1]
 rw [Ds ho]
 unfold cutR upd
 rw [h2,if_pos hm]
 simp
theorem yQ (h:Run l)(ht:sY l≤t)(hc:sd (tw k v t)=0):∀ x∈cutR l k t,rP x≠rP (tw k v t):=by
 obtain⟨_,h0,h1,_⟩:=we hc
 obtain⟨c1,c2,c3⟩:=h.clo ht h0 h1 k
 intro x hx hs
 unfold cutR at hx
 have hk:x.key=k:=congrArg DSpot.key hs
 have hmd:x.made=t:=congrArg DSpot.made hs
 rcases (wd h.ord).1 hx with hx | ⟨_,hx⟩
 · have:=(c3 x hx).2;omega
 · exact hx hk
theorem Af (h:Run l)(hn:tg l k=none):(putR l k v t).length=l.length+1:=by rw [vq h,hn]
theorem Ag (h:Run l){e:DElem}(hn:tg l k=some e)(hm:e.made=t):(putR l k v t).length=l.length:=by rw [vq h,hn];exact if_pos hm
theorem Ah (h:Run l){e:DElem}(hn:tg l k=some e)(hm : ¬ e.made=t):(putR l k v t).length=l.length+1:=by rw [vq h,hn];exact if_neg hm
theorem Dn (h:Run l)(ht:sY l≤t)(hc:sd (tw k v t)=0)(hn:(putR l k v t).length≤400):AK (cutR l k t) (tw k v t)=putR l k v t:=by
 obtain⟨_,h0,h1,_⟩:=we hc
 have hcut:=h.cutR ht h0 h1 k
 have hput:=h.putR ht hc hn
 refine zo (xy (vY hcut.ord) _) (vY hput.ord) fun x=>?_
 rw [zX]
 have hf:=yQ h ht hc
 unfold putR
 rw [wd h.ord,List.mem_append,List.mem_singleton]
 constructor
 · rintro(rfl | ⟨hx,_⟩)
   · exact .inl (.inr rfl)
   · unfold cutR at hx
     rcases (wd h.ord).1 hx with hx | hx
     · exact .inl (.inl hx)
     · exact .inr hx
 · rintro((hx | rfl) | hx)
   · have hm:x∈cutR l k t:=by unfold cutR;exact(wd h.ord).2 (.inl hx)
     exact .inr ⟨hm,hf x hm⟩
   · exact .inl rfl
   · have hm:x∈cutR l k t:=by unfold cutR;exact(wd h.ord).2 (.inr hx)
     exact .inr ⟨hm,hf x hm⟩
end
theorem DJ {N:NL}(h:oH N=some (fN N))(root:Int):nlT ⟨root,fN N⟩=N:=(kL h).symm
theorem uU {t:DTree}{h:Nat}(hg:Good t h):kX F t=some (tQ (rO t.nodes h t.root)):=vC (xh hg) hg
omit [Big F] in
theorem xg (t:DTree)(k:DKey)(v:ByteArray)(u:Int):nE F t k v u=(kX F t).bind fun r1=>bif (r1 != 0) then some ((DTree.mk 0 []),r1) else (kA (DElem.mk k u 0 v)).bind fun r2=>bif (r2 != 0) then some ((DTree.mk 0 []),r2) else
 (mo F t u).bind fun r3=>bif r3 then some ((DTree.mk 0 []),9) else (mM F t k).bind fun r4=>(lD F t).bind fun r5 =>
 bif (r4.2&&(r4.1.made == u)) then (nN (σ:=NL × Int) (ρ:=NL) (vH F (DElem.mk k u 0 v)) F (nlT r5,r5.root)).bind fun q1=>(oH q1).bind fun l1=>some ((DTree.mk r5.root l1),0)
 else (m6 F t).bind fun r16=>bif r16 then some ((DTree.mk 0 []),8) else
  (bif r4.2 then (nN (σ:=NL × Int) (ρ:=NL) (vH F (DElem.mk r4.1.key r4.1.made u r4.1.val)) F (nlT r5,r5.root)).bind fun q2=>some q2 else some (nlT r5):Option NL).bind fun z5 =>
  (Aw F (DElem.mk k u 0 v) z5 r5.root).bind fun z=>match z with | (z10,z11)=>(oH z11).bind fun l2=>some ((DTree.mk z10 l2),0)
 := by
 unfold nE
 simp only [yz,DA]
 rfl
theorem zw {t:DTree}{h:Nat}(hg:Good t h)(k:DKey)(v:ByteArray)(u:Int)(hz:uL (rO t.nodes h t.root) k v u≠0):nE F t k v u=some (zT,uL (rO t.nodes h t.root) k v u):=by
 rw [xg,uU hg,obs]
 unfold uL at hz ⊢
 by_cases h1:tQ (rO t.nodes h t.root)=0
 rotate_left
 · rw [sv h1,cond_true,if_pos h1];rfl
 have hrun:=sR.1 h1
 rw [if_neg (by simpa using h1)] at hz ⊢
 rw [sc h1,cond_false,sW,obs]
 by_cases h2:sd (tw k v u)=0
 rotate_left
 · rw [show DElem.mk k u 0 v=tw k v u from rfl,sv h2,cond_true,if_pos h2];rfl
 rw [if_neg (by simpa using h2)] at hz ⊢
 obtain⟨_,u0,u1,_⟩:=we h2
 rw [show DElem.mk k u 0 v=tw k v u from rfl,sc h2,cond_false,tP hg,obs]
 by_cases h3:u<sY (rO t.nodes h t.root)
 · rw [decide_eq_true (.inr (.inr h3)),cond_true,if_pos h3];rfl
 rw [if_neg h3] at hz ⊢
 rw [decide_eq_false (by omega),cond_false,uk hg hrun,obs,ui hg.len hg.chk,obs]
 have hl:=hrun.len
 by_cases h4:400<(putR (rO t.nodes h t.root) k v u).length
 rotate_left
 · exact absurd (if_neg h4) hz
 rw [if_pos h4]
 have hnm:((zj (tg (rO t.nodes h t.root) k)).2&&((zj (tg (rO t.nodes h t.root) k)).1.made == u))=false:=by
  cases hn:tg (rO t.nodes h t.root) k with
  | none=>rfl
  | some e =>
   show (true&&(e.made == u))=false
   rw [Bool.true_and,beq_eq_false_iff_ne]
   intro hm
   have hpl:=Ag (v:=v) hrun hn hm
   omega
 have h5:400≤(rO t.nodes h t.root).length:=by
  cases hn:tg (rO t.nodes h t.root) k with
  | none=>have hpl:=Af (v:=v) (t:=u) hrun hn;omega
  | some e =>
   by_cases hm:e.made=u
   · have hpl:=Ag (v:=v) hrun hn hm;omega
   · have hpl:=Ah (v:=v) hrun hn hm;omega
 rw [hnm,cond_false,uD hg,obs,decide_eq_true h5,cond_true];rfl
theorem yq {t:DTree}{h:Nat}(hg:Good t h)(k:DKey)(v:ByteArray)(u:Int)(hz:uL (rO t.nodes h t.root) k v u=0) :
 ∃ t' h',nE F t k v u=some (t',0)∧Good t' h'∧rO t'.nodes h' t'.root=putR (rO t.nodes h t.root) k v u:=by
 obtain⟨hrun,hc,hlast,hput⟩:=yP.1 hz
 obtain⟨_,u0,u1,_⟩:=we hc
 have hl:=hrun.len
 have hcut:=hrun.cutR hlast u0 u1 k
 have pre : ∀ r,((bif ((zj (tg (rO t.nodes h t.root) k)).2&&((zj (tg (rO t.nodes h t.root) k)).1.made == u)) then (nN (σ:=NL × Int) (ρ:=NL) (vH F (tw k v u)) F (nlT t,t.root)).bind fun q1=>(oH q1).bind fun l1=>some ((DTree.mk t.root l1),(0:Int))
  else (m6 F t).bind fun r16=>bif r16 then some ((DTree.mk 0 []),8) else
   (bif (zj (tg (rO t.nodes h t.root) k)).2 then (nN (σ:=NL × Int) (ρ:=NL) (vH F (DElem.mk (zj (tg (rO t.nodes h t.root) k)).1.key (zj (tg (rO t.nodes h t.root) k)).1.made u (zj (tg (rO t.nodes h t.root) k)).1.val)) F (nlT t,t.root)).bind fun q2=>some q2 else some (nlT t):Option NL).bind fun z5 =>
   (Aw F (tw k v u) z5 t.root).bind fun z=>match z with | (z10,z11)=>(oH z11).bind fun l2=>some ((DTree.mk z10 l2),0))=r)→nE F t k v u=r:=fun r hh=>by
  rw [xg,uU hg,obs,sc (sR.2 hrun),cond_false,show DElem.mk k u 0 v=tw k v u from rfl,sW,obs,sc hc,cond_false,tP hg,obs,decide_eq_false (by omega),cond_false,uk hg hrun,obs,ui hg.len hg.chk,obs]
  exact hh
 have add : ∀(t1:DTree),Good t1 h→t1.root=t.root→rO t1.nodes h t1.root=cutR (rO t.nodes h t.root) k u→∃ t' h',((Aw F (tw k v u) (nlT t1) t.root).bind fun z=>match z with | (z10,z11)=>(oH z11).bind fun l2=>some ((DTree.mk z10 l2),(0:Int)))=some (t',0)∧Good t' h'∧rO t'.nodes h' t'.root=putR (rO t.nodes h t.root) k v u:=fun t1 g1 hr1 he1=>by
  obtain⟨root,N,a1,a2,h',a3,a4⟩:=BI (F:=F) (e:=tw k v u) g1 hc (by rw [he1];exact yQ hrun hlast hc) (by rw [he1];exact hcut.len)
  rw [hr1] at a1
  refine⟨⟨root,fN N⟩,h',?_,a3,?_⟩
  · rw [a1,obs]
    dsimp only
    rw [a2,obs]
  · rw [a4,he1];exact Dn hrun hlast hc hput
 cases hn:tg (rO t.nodes h t.root) k with
 | none =>
  have hpl:=Af (v:=v) (t:=u) hrun hn
  rw [hn] at pre
  obtain⟨t',h',a1,a2,a3⟩:=add t hg rfl (Cr hrun hn).symm
  refine⟨t',h',pre _ ?_,a2,a3⟩
  show (bif false then _ else _)=_
  rw [cond_false,uD hg,obs,decide_eq_false (by omega),cond_false]
  show ((bif false then _ else some (nlT t):Option NL).bind _)=_
  rw [cond_false,obs]
  exact a1
 | some e =>
  rw [hn] at pre
  have hem:=(ud hrun.ord).1 hn
  by_cases hm:e.made=u
  · obtain⟨N,c1,c2,c3,c4⟩:=xS (F:=F) (e:=tw k v u) hg hc
    refine⟨⟨t.root,fN N⟩,h,pre _ ?_,c3,by rw [c4];exact Dp hrun hn hm⟩
    show (bif (true&&(e.made == u)) then _ else _)=_
    rw [Bool.true_and,show (e.made == u)=true by rw [beq_iff_eq];exact hm,cond_true,c1,obs,c2,obs]
  · have hce : sd { e with gone := u } = 0 := by
     have h1:=hcut.ok { e with gone:=u }
     refine h1 ?_
     rw [← xL hrun hn hm]
     exact List.mem_map.2 ⟨e,hem.1,if_pos rfl⟩
    obtain⟨N,c1,c2,c3,c4⟩:=xS (F:=F) (e:={ e with gone:=u }) hg hce
    obtain⟨t',h',a1,a2,a3⟩:=add ⟨t.root,fN N⟩ c3 rfl (by rw [← xL hrun hn hm];exact c4)
    rw [DJ c2] at a1
    refine⟨t',h',pre _ ?_,a2,a3⟩
    have hpl:=Ah (v:=v) hrun hn hm
    show (bif (true&&(e.made == u)) then _ else _)=_
    rw [Bool.true_and,show (e.made == u)=false by rw [beq_eq_false_iff_ne];exact hm,cond_false,uD hg,obs,decide_eq_false (by omega),cond_false]
    show ((bif true then (nN (σ:=NL × Int) (ρ:=NL) (vH F { e with gone:=u }) F (nlT t,t.root)).bind _ else _:Option NL).bind _)=_
    rw [cond_true,c1,obs,obs]
    exact a1
omit [Big F] in
theorem xf (t:DTree)(k:DKey)(u:Int):nD F t k u=(kX F t).bind fun r1=>bif (r1 != 0) then some ((DTree.mk 0 []),r1) else (kV k).bind fun r2=>bif (r2 != 0) then some ((DTree.mk 0 []),r2) else
 (mo F t u).bind fun r3=>bif r3 then some ((DTree.mk 0 []),9) else (mM F t k).bind fun r4=>bif (!r4.2) then some ((DTree.mk 0 []),4) else
 bif (r4.1.made == u) then (lD F t).bind fun r5=>(ji r4.1).bind fun r7=>(Ad F r7 (nlT r5) r5.root).bind fun z=>match z with | (z1,z2)=>(oH z1).bind fun l1=>some ((DTree.mk z2 l1),0)
 else (lD F t).bind fun r43=>(nN (σ:=NL × Int) (ρ:=NL) (vH F (DElem.mk r4.1.key r4.1.made u r4.1.val)) F (nlT r43,r43.root)).bind fun q11=>(oH q11).bind fun l2=>some ((DTree.mk r43.root l2),0)
 := by
 unfold nD
 simp only [yz,Cf]
 rfl
theorem zv {t:DTree}{h:Nat}(hg:Good t h)(k:DKey)(u:Int)(hz:vF (rO t.nodes h t.root) k u≠0):nD F t k u=some (zT,vF (rO t.nodes h t.root) k u):=by
 rw [xf,uU hg,obs]
 unfold vF at hz ⊢
 by_cases h1:tQ (rO t.nodes h t.root)=0
 rotate_left
 · rw [sv h1,cond_true,if_pos h1];rfl
 have hrun:=sR.1 h1
 rw [if_neg (by simpa using h1)] at hz ⊢
 rw [sc h1,cond_false,tG,obs]
 by_cases h2:uX k=0
 rotate_left
 · rw [sv h2,cond_true,if_pos h2];rfl
 rw [if_neg (by simpa using h2)] at hz ⊢
 rw [sc h2,cond_false,tP hg,obs]
 by_cases h3:u<1∨2147483647<u∨u<sY (rO t.nodes h t.root)
 · rw [decide_eq_true h3,cond_true,if_pos h3];rfl
 rw [if_neg h3] at hz ⊢
 rw [decide_eq_false h3,cond_false,uk hg hrun,obs]
 cases hn:tg (rO t.nodes h t.root) k with
 | none=>rfl
 | some e=>rw [hn] at hz;exact absurd rfl hz
theorem yp {t:DTree}{h:Nat}(hg:Good t h)(k:DKey)(u:Int)(hz:vF (rO t.nodes h t.root) k u=0) :
 ∃ t' h',nD F t k u=some (t',0)∧Good t' h'∧rO t'.nodes h' t'.root=cutR (rO t.nodes h t.root) k u:=by
 obtain⟨hrun,hk,u0,u1,hlast,hnow⟩:=yC.1 hz
 obtain⟨e,hn⟩:=Option.isSome_iff_exists.1 hnow
 have hem:=(ud hrun.ord).1 hn
 have hcut:=hrun.cutR hlast u0 u1 k
 rw [xf,uU hg,obs,sc (sR.2 hrun),cond_false,tG,obs,sc hk,cond_false,tP hg,obs,decide_eq_false (by omega),cond_false,uk hg hrun,obs,hn]
 show ∃ t' h',(bif (!true) then _ else bif (e.made == u) then _ else _)=_∧_
 rw [Bool.not_true,cond_false]
 by_cases hm:e.made=u
 · obtain⟨root,N,o1,o2,h',o3,o4⟩:=yN (F:=F) (sp:=rP e) hg
   refine⟨⟨root,fN N⟩,h',?_,o3,by rw [o4];exact C7 hrun hn hm⟩
   rw [show (e.made == u)=true by rw [beq_iff_eq];exact hm,cond_true,ui hg.len hg.chk,obs,rZ,obs]
   show (Ad F (rP e) (nlT t) t.root).bind _=_
   rw [o1,obs]
   dsimp only
   rw [o2,obs]
 · have hce : sd { e with gone := u } = 0 := by
    refine hcut.ok { e with gone:=u } ?_
    rw [← xL hrun hn hm]
    exact List.mem_map.2 ⟨e,hem.1,if_pos rfl⟩
   obtain⟨N,c1,c2,c3,c4⟩:=xS (F:=F) (e:={ e with gone:=u }) hg hce
   refine⟨⟨t.root,fN N⟩,h,?_,c3,by rw [c4];exact xL hrun hn hm⟩
   rw [show (e.made == u)=false by rw [beq_eq_false_iff_ne];exact hm,cond_false,ui hg.len hg.chk,obs]
   show (nN (σ:=NL × Int) (ρ:=NL) (vH F { e with gone:=u }) F (nlT t,t.root)).bind _=_
   rw [c1,obs,c2,obs]
end
section
variable {F:Nat} [Big F]
def uO (l:List Int):Int:=if 20<l.length then 2 else if l.all fun t=>decide (0≤t)&&decide (t≤2147483647) then 0 else 9
theorem xC {l:List Int}:uO l=0↔l.length≤20∧∀ t∈l,0≤t∧t≤2147483647:=by
 unfold uO
 split
 · constructor
   · intro h;cases h
   · intro h;omega
 · split
   · rename_i h1 h2
     rw [List.all_eq_true] at h2
     refine⟨fun _=>⟨by omega,fun t ht=>by simpa using h2 t ht⟩,fun _=>rfl⟩
   · rename_i h1 h2
     constructor
     · intro h;cases h
     · intro h;exfalso;apply h2;rw [List.all_eq_true];intro t ht;simpa using h.2 t ht
theorem vT (l:List Int):lV F l=some (uO l):=by
 unfold lV uO
 by_cases h:20<l.length
 · rw [if_pos h,decide_eq_true (by omega),cond_true]
 · rw [if_neg h,decide_eq_false (by omega),cond_false]
   rw [vn l (fun t=>if (decide (0≤t)&&decide (t≤2147483647))=true then none else some (Sum.inr 9)) (Sum.inl ()) (by omega) rfl (fun k e hk=>?_) (by simp)]
   · cases hf:l.findSome? fun t=>if (decide (0≤t)&&decide (t≤2147483647))=true then none else some (Sum.inr 9:Unit ⊕ Int) with
     | none =>
      rw [List.findSome?_eq_none_iff] at hf
      rw [if_pos (List.all_eq_true.2 fun t ht=>by
       have:=hf t ht
       split at this
       · assumption
       · cases this)];rfl
     | some r =>
      obtain⟨t,ht,hr⟩:=List.exists_of_findSome?_eq_some hf
      split at hr
      · cases hr
      · rename_i h1
        obtain rfl:=Option.some.inj hr
        rw [if_neg (fun h2=>h1 (List.all_eq_true.1 h2 t ht))];rfl
   · have hkl:=(ggs.1 hk).1
     rw [decide_eq_true (by omega),cond_true,rQ,hk,obs,w64 (by omega) (by omega)]
     by_cases h1:0≤e∧e≤2147483647
     · rw [show (decide (e<0)||decide ((2147483647:Int)<e))=false by rw [Bool.or_eq_false_iff];simp;omega,cond_false,if_pos (by simpa using h1)]
     · rw [show (decide (e<0)||decide ((2147483647:Int)<e))=true by rw [Bool.or_eq_true];simp;omega,cond_true,if_neg (by simpa using h1)]
def tW (e:DElem)(ts:List Int):Bool:=(e.gone == 0)||ts.any fun t=>tu e t
theorem vS (e:DElem)(ts:List Int)(hl:ts.length≤9223372036854775807):lU F e ts=some (tW e ts):=by
 unfold lU tW
 by_cases h:e.gone=0
 · rw [beq_iff_eq.2 h];rfl
 · rw [beq_eq_false_iff_ne.2 h,cond_false,Bool.false_or]
   rw [vn ts (fun t=>if tu e t=true then some (Sum.inr true) else none) (Sum.inl ()) hl rfl (fun k x hk=>?_) (by simp)]
   · cases hf:ts.findSome? fun t=>if tu e t=true then some (Sum.inr true:Unit ⊕ Bool) else none with
     | none =>
      rw [List.findSome?_eq_none_iff] at hf
      rw [show (ts.any fun t=>tu e t)=false by
       rw [List.any_eq_false];intro t ht hv;have:=hf t ht;rw [if_pos hv] at this;cases this];rfl
     | some r =>
      obtain⟨t,ht,hr⟩:=List.exists_of_findSome?_eq_some hf
      split at hr
      · rename_i hv
        obtain rfl:=Option.some.inj hr
        rw [List.any_eq_true.2 ⟨t,ht,hv⟩];rfl
      · cases hr
   · have hkl:=(ggs.1 hk).1
     rw [decide_eq_true (by omega),cond_true,rQ,hk,obs,w64 (by omega) (by omega),vl,obs]
     cases tu e x <;> rfl
def wN (l:List DElem)(ts:List Int):Int:=if tQ l≠0 then tQ l else uO ts
def BC (l:List DElem)(ts:List Int):List DElem:=if wN l ts=0 then l.filter fun e=>tW e ts else []
theorem AL {l:List DElem}{ts:List Int}:wN l ts=0↔Run l∧uO ts=0:=by
 unfold wN
 rw [← sR]
 split <;> simp_all
theorem yv (l:List DElem)(ts:List Int):mX F l ts=some (BC l ts,wN l ts):=by
 unfold mX BC
 rw [tJ,obs,vT,obs]
 by_cases h:tQ l=0
 · have hE:wN l ts=uO ts:=by unfold wN;rw [if_neg (by simpa using h)]
   have hlen:=(sR.1 h).len
   rw [sc h,cond_false,hE]
   by_cases h2:uO ts=0
   · have ht:=(xC.1 h2).1
     rw [sc h2,cond_false,if_pos h2]
     rw [tH l (fun x e=>if tW e ts then x++[e] else x) [] (r:=l.filter fun e=>tW e ts) (by omega) rfl (fun k e hk=>?_) (by rw [wL,List.nil_append];simp),obs,h2]
     have hkl:=(ggs.1 hk).1
     have hfl:((l.take k).foldl (fun x e=>if tW e ts then x++[e] else x) []).length≤400:=by
      rw [wL,List.nil_append]
      have:=List.length_filter_le (fun e=>tW e ts) (l.take k)
      rw [List.length_take] at this
      omega
     generalize (l.take k).foldl (fun x e=>if tW e ts then x++[e] else x) []=acc at hfl
     dsimp only
     rw [decide_eq_true (by omega),cond_true,rQ,hk,obs,vS e ts (by omega),obs,w64 (by omega) (by omega)]
     cases hv:tW e ts
     · rfl
     · rw [cond_true,sk (by simp;omega) (by simp;omega)];rfl
   · rw [sv h2,cond_true,if_neg h2]
 · have hE:wN l ts=tQ l:=by unfold wN;rw [if_pos h]
   rw [sv h,cond_true,hE,if_neg h]
end
section
def Cz (F:Nat)(t:DTree)(keep:List Int)(n:Int):Option (List DSpot) :=
 (
  (
   (nN (σ:=(List DSpot) × Int) (ρ:=(List DSpot) × Nat) (fun rf2 x=>match x with
    | (x1,x2) =>
     (idx t.nodes x2).bind fun e1 =>
      (iter (σ:=(List DSpot) × Int) (ρ:=((List DSpot)) ⊕ ((List DSpot) × Nat)) (fun x=>match x with
       | (x3,x4) =>
        bif decide (x4<(e1.elems.length:Int)) then
         (idx e1.elems x4).bind fun e2 =>
         (
          (
           bif ((x3.length:Int) == n) then
            some (x3,(0+1))
            else
             (lU F e2 keep).bind fun r4 =>
             bif (!r4) then
              (ji e2).bind fun r5 =>
              (kI 32 x3 [r5]).bind fun _ =>
              some ((x3++[r5]),0)
             else
              some (x3,0):Option ((List DSpot) × Nat)).bind fun z=>match z with
           | (z6,k4) =>
            jJ k4 (
             some (z6,0))
             fun k5 =>
             some (z6,(k5+1)):Option ((List DSpot) × Nat)).bind fun z=>match z with
          | (z5,k3) =>
           jJ k3 (
            some (.inl (z5,IntKind.i64.wrap (x4+1))))
            fun k6 =>
            some (.inr (.inr (z5,(k6+1))))
         else
          some (.inr (.inl x3))) F (x1,0)).bind fun z=>match z with
       | .inl z4 =>
        (iter (σ:=(List DSpot) × Int) (ρ:=((List DSpot)) ⊕ ((List DSpot) × Nat)) (fun x=>match x with
         | (x5,x6) =>
          bif decide (x6<(e1.kids.length:Int)) then
           (idx e1.kids x6).bind fun e3 =>
           (
            (rf2 (x5,e3)).bind fun z=>match z with
             | (z9,z10) =>
              jJ z10 (
               some (z9,0))
               fun k8 =>
               some (z9,(k8+1)):Option ((List DSpot) × Nat)).bind fun z=>match z with
            | (z8,k7) =>
             jJ k7 (
              some (.inl (z8,IntKind.i64.wrap (x6+1))))
              fun k9 =>
              some (.inr (.inr (z8,(k9+1))))
           else
            some (.inr (.inl x5))) F (z4,0)).bind fun z=>match z with
         | .inl z7 =>
          some (z7,0)
         | .inr q=>some q
       | .inr q=>some q) F ([],t.root)).bind fun z=>match z with
    | (z11,z12) =>
     jJ z12 (
      some (z11,0))
      fun k10 =>
      some (z11,(k10+1)):Option ((List DSpot) × Nat)).bind fun z=>match z with
   | (z2,k1) =>
    jJ k1 (
     some z2)
     fun k11 =>
     some z2:Option ((List DSpot)))
def CL (F:Nat)(gone:List DSpot)(t:DTree):Option (Int × NL) :=
 (iter (σ:=Int × (List (Int ⊕ DNode)) × Int) (ρ:=Int × (List (Int ⊕ DNode))) (fun x=>match x with
  | (x7,x8,x9) =>
   bif decide (x9<(gone.length:Int)) then
    (idx gone x9).bind fun e4 =>
    (Ad F e4 x8 x7).bind fun z=>match z with
     | (z15,z16) =>
      some (.inl (z16,z15,IntKind.i64.wrap (x9+1)))
    else
     some (.inr (x7,x8))) F (t.root,(t.nodes.map Sum.inr),0))
variable {F:Nat} [Big F]
def zZ (keep:List Int)(e:DElem):Bool:=!tW e keep
def uC (keep:List Int)(n:Int)(st:List DSpot)(e:DElem):List DSpot × Nat:=if (st.length:Int)=n then (st,1) else if tW e keep then (st,0) else (st++[rP e],0)
def vz (l:List DElem)(keep:List Int)(n:Nat):List DSpot:=((l.filter (zZ keep)).take n).map rP
theorem B8 (keep:List Int)(n:Nat):∀(l:List DElem) (a:List DSpot),a.length≤n→(sE (uC keep n) l a).1=a++vz l keep (n-a.length):=by
 intro l
 induction l with
 | nil=>intro a _;simp [sE,vz]
 | cons e l ih =>
  intro a ha
  rw [sE]
  by_cases h1:a.length=n
  · have e1:uC keep n a e=(a,1):=by unfold uC;rw [if_pos (by omega)]
    rw [e1,if_neg (show ¬ (1:Nat)=0 by decide),h1,Nat.sub_self]
    simp [vz]
  · by_cases h2:tW e keep=true
    · have e1:uC keep n a e=(a,0):=by unfold uC;rw [if_neg (by omega),if_pos h2]
      rw [e1,if_pos rfl,ih a ha]
      unfold vz
      rw [List.filter_cons_of_neg (by unfold zZ;simp [h2])]
    · have e1:uC keep n a e=(a++[rP e],0):=by unfold uC;rw [if_neg (by omega),if_neg h2]
      rw [e1,if_pos rfl,ih _ (by simp;omega)]
      unfold vz
      rw [List.filter_cons_of_pos (by unfold zZ;simp [h2]),List.length_append,List.length_singleton,show n-a.length=(n-(a.length+1))+1 by omega,List.take_succ_cons,List.map_cons,List.append_assoc]
      rfl
theorem CA {t:DTree}{h:Nat}(hg:Good t h)(keep:List Int)(hk:keep.length≤9223372036854775807)(n:Nat):Cz F t keep (n:Int)=some (vz (rO t.nodes h t.root) keep n):=by
 have hlen : ∀(a:List DSpot) (e:DElem),List.length (uC keep n a e).1≤List.length a+1:=fun a e=>by
  unfold uC
  split
  · show a.length≤_;omega
  · split
    · show a.length≤_;omega
    · simp
 unfold Cz
 rw [uH (σ:=List DSpot × Int) (fun m x=>CN t.nodes List.length m x) (fun m x=>sE (uC keep n) (se t.nodes m x.2) x.1) ?h0 ?hstep F _ (B3 hg List.length [] rfl)]
 case h0 =>
  rintro⟨x1,x2⟩ ⟨⟨h,d,s,hm,_⟩,_⟩
  omega
 case hstep =>
  rintro m self ih ⟨x1,x2⟩ hpre
  obtain⟨⟨h0,h1⟩,hkids⟩:=hpre.1.kids hg.chk
  dsimp only at h0 h1 hkids ⊢
  have hmem:=tC h0 h1
  obtain⟨h8,h8'⟩:=tV (hg.chk _ hmem)
  rw [vo h0 h1,obs]
  rw [uG (uC keep n) (nd t.nodes x2).elems (fun (st:List DSpot) k=>(st,k)) Sum.inl (fun st n=>Sum.inr (st,n+1)) x1 (by omega) rfl ?hs ?he]
  case hs =>
   intro k e y hk' hr
   have hkl:=(ggs.1 hk').1
   have hyl:=Bd hpre hlen hk' hr
   dsimp only
   rw [decide_eq_true (by omega),cond_true,rQ,hk',obs,w64 (by omega) (by omega)]
   unfold uC
   by_cases hn:(y.length:Int)=n
   · rw [if_pos hn,show ((y.length:Int) == (n:Int))=true by rw [beq_iff_eq];exact hn,cond_true];rfl
   · rw [if_neg hn,show ((y.length:Int) == (n:Int))=false by rw [beq_eq_false_iff_ne];exact hn,cond_false,vS e keep hk,obs]
     cases tW e keep with
     | true=>rfl
     | false =>
      rw [Bool.not_false,cond_true,rZ,obs,sk (by simp;omega) (by simp;omega),obs];rfl
  case he =>
   intro y hr
   dsimp only
   rw [decide_eq_false (by omega)];rfl
  rw [obs,se]
  cases hb:sE (uC keep n) (nd t.nodes x2).elems x1 with
  | mk b c =>
   rw [tD,hb]
   cases c with
   | succ c=>rfl
   | zero =>
    dsimp only [jJ]
    rw [if_pos rfl]
    rw [uG (fun st k=>sE (uC keep n) (se t.nodes m k) st) (nd t.nodes x2).kids (fun (st:List DSpot) k=>(st,k)) Sum.inl (fun st n=>Sum.inr (st,n+1)) b (by omega) rfl ?hs2 ?he2]
    case hs2 =>
     intro k e y hk2 hr
     have hkl:=(ggs.1 hk2).1
     dsimp only
     rw [decide_eq_true (by omega),cond_true,rQ,hk2,obs,ih (y,e) (CO hg.chk hpre hlen hb hk2 hr),obs,w64 (by omega) (by omega)]
     dsimp only
     cases hc:sE (uC keep n) (se t.nodes m e) y with
     | mk y c=>cases c <;> rfl
    case he2 =>
     intro y hr
     dsimp only
     rw [decide_eq_false (by omega)];rfl
    rw [obs,tI]
    cases hc:sE (uC keep n) ((nd t.nodes x2).kids.flatMap (se t.nodes m)) b with
    | mk y c=>cases c <;> rfl
 rw [obs]
 dsimp only
 rw [xi hg]
 have hrun:=B8 keep n (rO t.nodes h t.root) [] (Nat.zero_le _)
 rw [List.nil_append,List.length_nil,Nat.sub_zero] at hrun
 cases hc:sE (uC keep n) (rO t.nodes h t.root) [] with
 | mk y c =>
  rw [hc] at hrun
  rw [← hrun]
  cases c <;> rfl
def wQ (g:List DSpot)(e:DElem):Bool:=!(decide (rP e∈g))
theorem AR (A:List DSpot)(b:DSpot)(x:DElem):wQ (A++[b]) x=(uu b x&&wQ A x):=by
 unfold wQ uu
 rw [Bool.eq_iff_iff]
 simp [not_or,and_comm]
theorem AZ {t:DTree}{h:Nat}(hg:Good t h)(g:List DSpot)(hl:g.length≤100000):∃(root:Int) (N:NL),CL F g t=some (root,N)∧oH N=some (fN N)∧∃ h',Good ⟨root,fN N⟩ h'∧rO (fN N) h' root=(rO t.nodes h t.root).filter (wQ g):=by
 have hF:=(inferInstance:Big F).le
 unfold CL
 generalize hf:(fun x:Int × (List (Int ⊕ DNode)) × Int=>match x with
  | (x7,x8,x9) =>
   bif decide (x9<(g.length:Int)) then
    (idx g x9).bind fun e4 =>
    (Ad F e4 x8 x7).bind fun z=>match z with
     | (z15,z16) =>
      (some (.inl (z16,z15,IntKind.i64.wrap (x9+1))):Option ((Int × (List (Int ⊕ DNode)) × Int) ⊕ (Int × (List (Int ⊕ DNode)))))
    else
     some (.inr (x7,x8)))=f
 have key : ∀(k:Nat),k≤g.length→∃(t' : DTree) (h' : Nat),(∀ n:Nat,iter f (n+k) (t.root,nlT t,0)=iter f n (t'.root,nlT t',(k:Int)))∧Good t' h'∧rO t'.nodes h' t'.root=(rO t.nodes h t.root).filter (wQ (g.take k)):=by
  intro k
  induction k with
  | zero =>
   intro _
   refine⟨t,h,fun n=>rfl,hg,?_⟩
   exact(List.filter_eq_self.2 fun x _=>by unfold wQ;simp).symm
  | succ k ih =>
   intro hk
   obtain⟨t1,h1,i1,i2,i3⟩:=ih (by omega)
   obtain⟨root,N,o1,o2,h2,o3,o4⟩:=yN (F:=F) (sp:=g[k]'(by omega)) i2
   have hgk:g[k]? = some (g[k]'(by omega)):=gge (by omega)
   have hN:nlT ⟨root,fN N⟩=N:=by
    have:=kL o2
    unfold nlT
    exact this.symm
   refine⟨⟨root,fN N⟩,h2,fun n=>?_,o3,?_⟩
   · rw [show n+(k+1)=(n+1)+k by omega,i1,iter]
     have hstep:f (t1.root,nlT t1,(k:Int))=some (.inl (root,N,((k+1:Nat):Int))):=by
      rw [← hf]
      dsimp only
      rw [decide_eq_true (by omega),cond_true,rQ,hgk,obs,o1,obs]
      dsimp only
      rw [w64 (by omega) (by omega)];rfl
     rw [hstep,hN]
   · show rO (fN N) h2 root=_
     rw [o4,i3,List.filter_filter,List.take_add_one,hgk]
     congr 1
     funext x
     rw [Option.toList_some,AR]
 obtain⟨t',h',i1,i2,i3⟩:=key g.length (Nat.le_refl _)
 rw [List.take_length] at i3
 refine⟨t'.root,nlT t',?_,?_,h',?_,?_⟩
 · show iter f F (t.root,nlT t,0)=_
   rw [show F=((F-g.length-1)+1)+g.length by omega,i1,iter]
   have hend:f (t'.root,nlT t',(g.length:Int))=some (.inr (t'.root,nlT t')):=by
    rw [← hf]
    dsimp only
    rw [decide_eq_false (by omega),cond_false]
   rw [hend]
 · rw [sQ];exact ry _
 · rw [sQ];exact i2
 · rw [sQ];exact i3
omit [Big F] in
theorem yw (t:DTree)(keep:List Int)(n:Int):mY F t keep n=(kX F t).bind fun r1=>bif (r1 != 0) then some ((DTree.mk 0 []),0,r1) else (lV F keep).bind fun r2=>bif (r2 != 0) then some ((DTree.mk 0 []),0,r2) else
 bif decide (n<0) then some ((DTree.mk 0 []),0,1) else (Cz F t keep n).bind fun z1=>(lD F t).bind fun r6=>(CL F z1 r6).bind fun z=>match z with | (z13,z14)=>(oH z14).bind fun l2=>some ((DTree.mk z13 l2),(z1.length:Int),0)
 := by
 unfold mY
 simp only [Cf]
 rfl
theorem Bb {t:DTree}{h:Nat}(hg:Good t h):kX F t=some (tQ (rO t.nodes h t.root)):=by
 unfold kX
 rw [tN (xh hg) hg,obs]
 dsimp only
 rw [show ((0:Int) != 0)=false from rfl,cond_false,tJ];rfl
theorem xE {t:DTree}{h:Nat}(hg:Good t h)(hr:tQ (rO t.nodes h t.root)=0){keep:List Int}(hk:uO keep=0)(n:Nat) :
 ∃ t' h',mY F t keep (n:Int)=some (t',((vz (rO t.nodes h t.root) keep n).length:Int),0)∧Good t' h'∧rO t'.nodes h' t'.root=(rO t.nodes h t.root).filter (wQ (vz (rO t.nodes h t.root) keep n)):=by
 have hkl:=(xC.1 hk).1
 have hsm:=uI hg
 have hgl:(vz (rO t.nodes h t.root) keep n).length≤100000:=by
  unfold vz
  rw [List.length_map,List.length_take]
  have:=List.length_filter_le (zZ keep) (rO t.nodes h t.root)
  omega
 obtain⟨root,N,o1,o2,h',o3,o4⟩:=AZ (F:=F) hg _ hgl
 refine⟨⟨root,fN N⟩,h',?_,o3,o4⟩
 rw [yw,Bb hg,obs,hr,sc rfl,cond_false,vT,obs,hk,sc rfl,cond_false,decide_eq_false (by omega),cond_false,CA hg keep (by omega),obs,ui hg.len hg.chk,obs,o1,obs]
 dsimp only
 rw [o2,obs]
end
section
variable {F:Nat} [Big F]
theorem DD {α:Type}[DecidableEq α](test:α→α→Bool)(ht : ∀ x y,test x y=true↔x=y)(p q:List α)(hp:p.length≤9223372036854775807) :
 (bif ((p.length:Int) != (q.length:Int)) then
  some false
 else
  (iter (σ:=Int) (ρ:=(Unit) ⊕ Bool) (fun x1 =>
   bif decide (x1<(p.length:Int)) then
    (idx p x1).bind fun e1 =>
    (idx q x1).bind fun e2 =>
    bif (!(test e1 e2)) then
     some (.inr (.inr false))
    else
     some (.inl (IntKind.i64.wrap (x1+1)))
    else
     some (.inr (.inl ()))) F 0).bind fun z=>match z with
  | .inl _ =>
   some true
  | .inr q=>some q)=some (decide (p=q)):=by
 by_cases hl:p.length=q.length
 · rw [show ((p.length:Int) != (q.length:Int))=false by rw [bne_eq_false_iff_eq];omega,cond_false]
   obtain⟨W,hW⟩ : ∃ W:Nat→α→Option (Unit ⊕ Bool),∀ k e,W k e=if q[k]? = some e then none else some (Sum.inr false):=⟨_,fun _ _=>rfl⟩
   rw [t8 p W (Sum.inl ()) hp rfl (fun k e hk _=>?_) (by simp)]
   · by_cases he:p=q
     · subst he
       rw [uo.2 fun k e hk=>by rw [hW,if_pos hk],decide_eq_true rfl];rfl
     · rw [decide_eq_false he]
       cases hf:p.zipIdx.findSome? fun a=>W a.2 a.1 with
       | some r =>
        obtain⟨k,e,_,hr⟩:=vc hf
        rw [hW] at hr
        split at hr
        · cases hr
        · obtain rfl:=Option.some.inj hr;rfl
       | none =>
        exfalso
        apply he
        rw [uo] at hf
        apply List.ext_getElem?
        intro k
        cases hk:p[k]? with
        | none=>rw [List.getElem?_eq_none_iff] at hk;rw [List.getElem?_eq_none (by omega)]
        | some e =>
         have:=hf k e hk
         rw [hW] at this
         split at this
         · rename_i h;exact h.symm
         · cases this
   · have hkl:=(ggs.1 hk).1
     have hq:q[k]? = some (q[k]'(by omega)):=gge (by omega)
     rw [decide_eq_true (by omega),cond_true,rQ,rQ,hk,hq,obs,obs,w64 (by omega) (by omega),hW]
     by_cases he:q[k]'(by omega)=e
     · rw [if_pos (by rw [hq,he]),(ht _ _).2 he.symm];rfl
     · have hf : test e (q[k]'(by omega)) = false := by
        cases hx:test e (q[k]'(by omega))
        · rfl
        · exact absurd ((ht _ _).1 hx).symm he
       rw [if_neg (by rw [hq];simpa using he),hf];rfl
 · rw [show ((p.length:Int) != (q.length:Int))=true by rw [bne_iff_ne];omega,cond_true,decide_eq_false (fun e=>hl (by rw [e]))]
theorem DC (p q:List DElem)(hp:p.length≤9223372036854775807):kz F p q=some (decide (p=q)):=DD (fun x y=>x == y) (fun x y=>by simp) p q hp
end
section
variable {F:Nat} [Big F]
theorem yo {n m:Int}(hm:0<m)(hn:m≤1000000):∃ r:Nat,kg n m=some (r:Int)∧(r:Int)<m:=by
 unfold kg oD
 have e1:IntKind.u64.wrap m=m:=by simp [IntKind.wrap,IntKind.bits,IntKind.signed];omega
 have e2:0≤IntKind.u64.wrap n:=by simp [IntKind.wrap,IntKind.bits,IntKind.signed];omega
 rw [e1,if_neg (by omega),obs]
 have h3:=Int.tmod_nonneg m e2
 have h4:=Int.tmod_lt_of_pos (IntKind.u64.wrap n) hm
 refine⟨((IntKind.u64.wrap n).tmod m).toNat,?_,by omega⟩
 rw [w64 (by omega) (by omega)]
 congr 1;omega
theorem Cm {l:List DElem}(h : ¬ 400<l.length)(hb:Ax l=none):ofR l=(vk l,0):=by
 unfold ofR;rw [if_neg h,hb]
theorem uR {t:DTree}{h:Nat}(hg:Good t h):∀ n∈t.nodes,Small n:=fun n hn=>tK (hg.chk n hn)
theorem xU {l:List DElem}(h:l.length≤9223372036854775807):kz F l l=some true:=by rw [DC l l h];simp
end
section
variable {F:Nat} [Big F]
theorem AG {l:List DElem}(ho:l.Pairwise SpO){keep:List Int}{n:Nat}(hn:l.length≤n):l.filter (wQ (vz l keep n))=l.filter (fun e=>tW e keep):=by
 refine List.filter_congr fun e he=>?_
 have ht:(l.filter (zZ keep)).take n=l.filter (zZ keep):=List.take_of_length_le (Nat.le_trans (List.length_filter_le _ _) hn)
 unfold wQ vz
 rw [ht,Bool.eq_iff_iff,Bool.not_eq_true',decide_eq_false_iff_not,List.mem_map]
 constructor
 · intro h
   cases hs:tW e keep with
   | true=>rfl
   | false=>exact absurd ⟨e,List.mem_filter.2 ⟨he,by unfold zZ;rw [hs];rfl⟩,rfl⟩ h
 · rintro h ⟨y,hy,hs⟩
   obtain⟨hyl,hyk⟩:=List.mem_filter.1 hy
   rw [CV ho hyl he hs] at hyk
   unfold zZ at hyk
   rw [h] at hyk
   cases hyk
theorem Aa (c:List Int){i:Int}(h0:0≤i):∃ n,ll c i=some n:=by
 unfold ll
 by_cases h:i<(c.length:Int)
 · rw [decide_eq_true h,cond_true]
   have hx:idx c i=some c[i.toNat]:=by unfold idx;rw [if_neg (by omega),gge (by omega)]
   rw [hx]
   exact⟨_,rfl⟩
 · rw [decide_eq_false h,cond_false]
   exact⟨_,rfl⟩
theorem CG (keys:List DKey){i:Int}(h0:0≤i):∃ a b c,(bif decide (i<(keys.length:Int)) then (idx keys i).bind fun e2=>some (e2.pfs,e2.obj,e2.off) else some (0,0,0):Option (Int × Int × Int))=some (a,b,c):=by
 by_cases h:i<(keys.length:Int)
 · rw [decide_eq_true h,cond_true]
   have hx:idx keys i=some keys[i.toNat]:=by unfold idx;rw [if_neg (by omega),gge (by omega)]
   rw [hx]
   exact⟨_,_,_,rfl⟩
 · rw [decide_eq_false h,cond_false]
   exact⟨_,_,_,rfl⟩
theorem C4 (vals:List ByteArray){i:Int}(h0:0≤i):∃ v,(bif decide (i<(vals.length:Int)) then (idx vals i).bind fun e3=>some e3 else some (ByteArray.mk #[]):Option ByteArray)=some v:=by
 by_cases h:i<(vals.length:Int)
 · rw [decide_eq_true h,cond_true]
   have hx:idx vals i=some vals[i.toNat]:=by unfold idx;rw [if_neg (by omega),gge (by omega)]
   rw [hx]
   exact⟨_,rfl⟩
 · rw [decide_eq_false h,cond_false]
   exact⟨_,rfl⟩
def C6 (x:Option (Int × List DNode × List DElem × Int × Int)):Prop :=
 ∃ tp m e,x=some (tp.root,tp.nodes,m,e,e)∧(e=0→∃ h,Good tp h∧rO tp.nodes h tp.root=m∧Run m)
theorem DS {t:DTree}{h:Nat}(g:Good t h)(k:DKey)(v:ByteArray)(u:Int):C6 ((nE F t k v u).bind fun r6=>(nW F (rO t.nodes h t.root) k v u).bind fun r7=>some (r6.1.root,r6.1.nodes,r7.1,r6.2,r7.2)):=by
 rw [yf]
 by_cases hz:uL (rO t.nodes h t.root) k v u=0
 · obtain⟨t',h',a1,a2,a3⟩:=yq (F:=F) g k v u hz
   obtain⟨hr,hc,hl,hn⟩:=yP.1 hz
   rw [a1,hz,if_pos rfl]
   exact⟨t',_,0,rfl,fun _=>⟨h',a2,a3,hr.putR hl hc hn⟩⟩
 · rw [zw g k v u hz,if_neg hz]
   exact⟨zT,[],_,rfl,fun h=>absurd h hz⟩
theorem DR {t:DTree}{h:Nat}(g:Good t h)(k:DKey)(u:Int):C6 ((nD F t k u).bind fun r8=>(pa F (rO t.nodes h t.root) k u).bind fun r9=>some (r8.1.root,r8.1.nodes,r9.1,r8.2,r9.2)):=by
 rw [Bg]
 by_cases hz:vF (rO t.nodes h t.root) k u=0
 · obtain⟨t',h',a1,a2,a3⟩:=yp (F:=F) g k u hz
   obtain⟨hr,_,u0,u1,hl,_⟩:=yC.1 hz
   rw [a1,hz,if_pos rfl]
   exact⟨t',_,0,rfl,fun _=>⟨h',a2,a3,hr.cutR hl u0 u1 k⟩⟩
 · rw [zv g k u hz,if_neg hz]
   exact⟨zT,[],_,rfl,fun h=>absurd h hz⟩
theorem DT {t:DTree}{h:Nat}(g:Good t h)(hr:Run (rO t.nodes h t.root)){r:Nat}(hr1:r<100):C6 ((mY F t [(r:Int)] 400).bind fun r11=>(mX F (rO t.nodes h t.root) [(r:Int)]).bind fun r13=>some (r11.1.root,r11.1.nodes,r13.1,r11.2.2,r13.2)):=by
 have ht:uO [(r:Int)]=0:=by
  unfold uO
  rw [if_neg (by simp),if_pos (by simp;omega)]
 have hz:wN (rO t.nodes h t.root) [(r:Int)]=0:=AL.2 ⟨hr,ht⟩
 obtain⟨t',h',a1,a2,a3⟩:=xE (F:=F) g (sR.2 hr) ht 400
 rw [show (400:Int)=((400:Nat):Int) from rfl,a1,yv,hz]
 refine⟨t',_,0,rfl,fun _=>⟨h',a2,?_,?_⟩⟩
 · rw [a3,AG (xj g) hr.len]
   unfold BC
   rw [if_pos hz]
 · unfold BC
   rw [if_pos hz]
   exact hr.sub List.filter_sublist
theorem BZ {t:DTree}{h:Nat}(g:Good t h)(hr:Run (rO t.nodes h t.root)):mT F t=some (vk (rO t.nodes h t.root),0):=by
 unfold mT
 rw [tN (uR g) g,obs]
 dsimp only
 rw [show ((0:Int) != 0)=false from rfl,cond_false,zA,obs,Cm (by have:=hr.len;omega) (yB.2 ⟨hr.ok,xj g⟩)]
theorem vE (F:Nat)[Big F](l:List (List Int))(keys:List DKey)(vals:List ByteArray)(ok:vb 24 (vb 8 (wl .i64)) l)(_:vb 24 okKey keys)(_:vb 16 okStrW vals):ma F l keys vals=some true:=by
 have hll:l.length≤9223372036854775807:=by
  have:=ok.1
  have e:reachBytes=140737488351232:=rfl
  omega
 unfold ma
 have hb:lI F=some true:=by
  unfold lI
  have hp:putR [] (DKey.mk 0 0 0) (ByteArray.mk #[97]) 1=[tw (DKey.mk 0 0 0) (ByteArray.mk #[97]) 1]:=by decide
  rw [yf,obs,show uL [] (DKey.mk 0 0 0) (ByteArray.mk #[97]) 1=0 by decide,if_pos rfl,hp]
  show some (seq (ByteArray.mk #[97]) (ByteArray.mk #[97]))=some true
  congr 1
  unfold seq
  simp
 rw [show (oF:Option DTree)=some AV from rfl,obs,hb,obs,show (!true)=false from rfl,cond_false]
 refine zU (m:=l.length) (q:=true) (fun m x q=>q=true∧0≤x.2.2.2∧x.2.2.2≤(l.length:Int)∧m=((l.length:Int)-x.2.2.2).toNat∧∃ h,Good ⟨x.1,x.2.1⟩ h∧rO x.2.1 h x.1=x.2.2.1∧Run x.2.2.1) ?_ hll ⟨rfl,Int.le_refl _,by dsimp only;omega,by dsimp only;omega,0,BV,rfl,Run.nil⟩
 rintro m ⟨x1,x2,x3,x4⟩ q ⟨rfl,h0,h1,rfl,h,g,he,hr⟩
 dsimp only at h0 h1 g he hr ⊢
 by_cases hx:x4<(l.length:Int)
 rotate_left
 · left
   refine⟨.inl (x1,x2,x3),by rw [decide_eq_false hx,cond_false],?_⟩
   dsimp only
   subst he
   obtain⟨h',b1,b2,-⟩:=zz hr.len hr.ok (xj g)
   have hl4:=hr.len
   rw [BZ g hr,obs]
   dsimp only
   rw [tN (uR b1) b1,b2,obs]
   dsimp only
   rw [show ((0:Int) == 0)=true from rfl,cond_true,cond_true,xU (by omega)]
   rfl
 · right
   subst he
   have hi:idx l x4=some l[x4.toNat]:=by unfold idx;rw [if_neg (by omega),gge (by omega)]
   obtain⟨a,b,c,hk⟩:=CG keys h0
   obtain⟨v,hv⟩:=C4 vals h0
   obtain⟨u,hu⟩:=Aa l[x4.toNat] (i:=1) (by decide)
   obtain⟨z,hz⟩:=Aa l[x4.toNat] (i:=0) (by decide)
   obtain⟨r,hr1,hr2⟩:=yo (n:=z) (m:=3) (by omega) (by omega)
   obtain⟨p,hp1,hp2⟩:=yo (n:=u) (m:=100) (by omega) (by omega)
   have S:C6 ((ll l[x4.toNat] 0).bind fun r4=>(kg r4 3).bind fun r5 =>
    bif (r5 == 0) then
     (nE F (DTree.mk x1 x2) (DKey.mk a b c) v u).bind fun r6 =>
     (nW F (rO x2 h x1) (DKey.mk a b c) v u).bind fun r7 =>
     some (r6.1.root,r6.1.nodes,r7.1,r6.2,r7.2)
    else
     bif (r5 == 1) then
      (nD F (DTree.mk x1 x2) (DKey.mk a b c) u).bind fun r8 =>
      (pa F (rO x2 h x1) (DKey.mk a b c) u).bind fun r9 =>
      some (r8.1.root,r8.1.nodes,r9.1,r8.2,r9.2)
     else
      (kg u 100).bind fun r10 =>
      (mY F (DTree.mk x1 x2) [r10] 400).bind fun r11 =>
      (kg u 100).bind fun r12 =>
      (mX F (rO x2 h x1) [r12]).bind fun r13 =>
      some (r11.1.root,r11.1.nodes,r13.1,r11.2.2,r13.2)):=by
    rw [hz,obs,hr1,obs]
    cases ((r:Int) == 0) with
    | true=>exact DS g (DKey.mk a b c) v u
    | false =>
     cases ((r:Int) == 1) with
     | true=>exact DR g (DKey.mk a b c) u
     | false =>
      rw [cond_false,cond_false,hp1,obs]
      have:=DT (F:=F) g hr (r:=p) (by omega)
      simpa only [obs] using this
   obtain⟨tp,mm,e,s1,s2⟩:=S
   refine⟨((l.length:Int)-(x4+1)).toNat,if e=0 then (tp.root,tp.nodes,mm,x4+1) else (x1,x2,rO x2 h x1,x4+1),by omega,?_,rfl,?_,?_,?_,?_⟩
   rotate_left
   · split <;> (dsimp only;omega)
   · split <;> (dsimp only;omega)
   · split <;> (dsimp only)
   · split
     · rename_i h0'
       obtain⟨h',b1,b2,b3⟩:=s2 h0'
       exact⟨h',b1,b2,b3⟩
     · exact⟨h,g,rfl,hr⟩
   rw [decide_eq_true hx,cond_true,hi,obs]
   refine Eq.trans (congrArg (fun q=>Option.bind (Option.bind q _) _) hk) ?_
   rw [obs]
   dsimp only
   refine Eq.trans (congrArg (fun q=>Option.bind (Option.bind q _) _) hv) ?_
   rw [obs,hu,obs]
   refine Eq.trans (congrArg (fun q=>Option.bind (Option.bind q _) _) s1) ?_
   rw [obs]
   dsimp only
   rw [show (e != e)=false by simp,cond_false]
   by_cases h0' : e=0
   · obtain⟨h',b1,b2,b3⟩:=s2 h0'
     subst h0'
     have hl4:=b3.len
     rw [show ((0:Int) != 0)=false from rfl,cond_false,if_pos rfl]
     have hpa:=zk (F:=F) (t:=⟨tp.root,tp.nodes⟩) (uR b1) b1 (DKey.mk a b c) u
     dsimp only at hpa
     rw [hpa,obs,B7,obs,tN (t:=⟨tp.root,tp.nodes⟩) (uR b1) b1,obs]
     dsimp only
     rw [b2,show ((0:Int) != 0)=false from rfl,cond_false,xU (by omega),obs,show (!true)=false from rfl,cond_false,show (atV mm (DKey.mk a b c) u == atV mm (DKey.mk a b c) u)=true by simp,show (!true)=false from rfl,cond_false,show (atE mm (DKey.mk a b c) u != atE mm (DKey.mk a b c) u)=false by simp,obs,cond_false,obs]
     dsimp only
     rw [w64 (by omega) (by omega)]
   · rw [sv h0',cond_true,if_neg h0',obs]
     dsimp only
     rw [w64 (by omega) (by omega)]
end
section
open Go.RowKit
theorem CQ:ownKnob Try.prog.godebug=none:=by kernel_rfl
theorem B4:laidOutB Try.prog=true:=by kernel_rfl
theorem DX:uQ Try.prog 31 (lf ic) (vb 8 (wl .i64)):=vp Try.underlying31 (by kernel_rfl) (by kernel_rfl) (wg Try.underlying3)
theorem DU:uQ Try.prog 22 (lf (lf ic)) (vb 24 (vb 8 (wl .i64))):=vp Try.underlying22 (by kernel_rfl) (by kernel_rfl) DX
theorem DY:uQ Try.prog 33 rz okKey:=BW Try.underlying33 (by kernel_rfl) rfl (by kernel_rfl) (wg Try.underlying3) rfl (by kernel_rfl) (wg Try.underlying3) rfl (by kernel_rfl) (wg Try.underlying3)
theorem DV:uQ Try.prog 23 (lf rz) (vb 24 okKey):=vp Try.underlying23 (by kernel_rfl) (by kernel_rfl) DY
theorem DW:uQ Try.prog 24 (lf rA) (vb 16 okStrW):=vp Try.underlying24 (by kernel_rfl) (by kernel_rfl) (BX Try.underlying9)
set_option maxRecDepth 100000
def orderSigns:List Char:=[.ofNat 104,.ofNat 97,.ofNat 114,.ofNat 110,.ofNat 101,.ofNat 115,.ofNat 115,.ofNat 32,.ofNat 101,.ofNat 101,.ofNat 102,.ofNat 99,.ofNat 54,.ofNat 50,.ofNat 99,.ofNat 99,.ofNat 99,.ofNat 52,.ofNat 97,.ofNat 57,.ofNat 98,.ofNat 97,.ofNat 102,.ofNat 102,.ofNat 53,.ofNat 55,.ofNat 98,.ofNat 100,.ofNat 48,.ofNat 102,.ofNat 50,.ofNat 100,.ofNat 55,.ofNat 52,.ofNat 100,.ofNat 49,.ofNat 101,.ofNat 97,.ofNat 97,.ofNat 55,.ofNat 48,.ofNat 98,.ofNat 54,.ofNat 102,.ofNat 98,.ofNat 56,.ofNat 100,.ofNat 52,.ofNat 51,.ofNat 97,.ofNat 55,.ofNat 99,.ofNat 97,.ofNat 49,.ofNat 97,.ofNat 50,.ofNat 53,.ofNat 98,.ofNat 99,.ofNat 56,.ofNat 102,.ofNat 53,.ofNat 50,.ofNat 101,.ofNat 52,.ofNat 56,.ofNat 100,.ofNat 48,.ofNat 50,.ofNat 102,.ofNat 55,.ofNat 102,.ofNat 32,.ofNat 99,.ofNat 117,.ofNat 116,.ofNat 32,.ofNat 97,.ofNat 116,.ofNat 32,.ofNat 97,.ofNat 110,.ofNat 110,.ofNat 97,.ofNat 108,.ofNat 105,.ofNat 115,.ofNat 116,.ofNat 47,.ofNat 97,.ofNat 110,.ofNat 110,.ofNat 97,.ofNat 108,.ofNat 116,.ofNat 111,.ofNat 112,.ofNat 46,.ofNat 84,.ofNat 111,.ofNat 112,.ofNat 84,.ofNat 114,.ofNat 101,.ofNat 101]
theorem AY : Try.prog.initOrder = "harness eefc62ccc4a9baff57bd0f2d74d1eaa70b6fb8d43a7ca1a25bc8f52e48d02f7f cut at annalist/annaltop.TopTree" := by kernel_rfl
theorem Ac : ("harness eefc62ccc4a9baff57bd0f2d74d1eaa70b6fb8d43a7ca1a25bc8f52e48d02f7f cut at annalist/annaltop.TopTree" : String) = String.ofList orderSigns := by kernel_rfl
theorem wE:Try.prog.initOrder.toList=orderSigns:=by rw [AY,Ac];exact String.toList_ofList
theorem Dj (P:Program)(h:P.initOrder.toList=orderSigns):P.make=some .cut:=by
 unfold Program.make Program.headLifts
 rw [h]
 kernel_rfl
theorem CJ (P:Program)(h:P.initOrder.toList=orderSigns):P.liftsFinal=false:=by
 unfold Program.liftsFinal Program.headLifts
 rw [h]
 kernel_rfl
theorem Ct (P:Program)(h:P.initOrder.toList=orderSigns)(h1:P.laysLater=false)(h2:P.bearsReflect=false)(h3:P.doorFits []=true):P.mayEnter=true:=by
 unfold Program.mayEnter
 rw [h,h1,h2]
 have e:(stripLifts liftWords (behindMainWord (wordsSigns orderSigns))).1=[]:=by kernel_rfl
 have e0 : behindMainWord (wordsSigns orderSigns) = "cut".toList :: (behindMainWord (wordsSigns orderSigns)).tail := by kernel_rfl
 rw [e0] at e ⊢
 dsimp only
 rw [e,h3]
 clear h h1 h2 h3
 change _=true
 kernel_rfl
theorem B5:Try.prog.make=some .cut:=Dj _ wE
theorem Bf:Try.prog.liftsFinal=false:=CJ _ wE
theorem Be:Try.prog.mayEnter=true:=Ct _ wE (by kernel_rfl) (by kernel_rfl) (by kernel_rfl)
end
end Go.Proofs.Ytljbmnknmhogaaa
