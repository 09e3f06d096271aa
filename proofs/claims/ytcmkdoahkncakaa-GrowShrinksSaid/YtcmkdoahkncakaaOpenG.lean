/- Pure functions, written by walkgen.py out of the Go functions of group GrowS. Their conditions: none. -/
import Derived.Test.YtcmkdoahkncakaaLookFG
import Derived.Test.YtcmkdoahkncakaaCpFG
import Derived.Test.YtcmkdoahkncakaaTreeOG
import Derived.Test.YtcmkdoahkncakaaRecG
import Derived.Test.YtcmkdoahkncakaaMapG
import Derived.Test.YtcmkdoahkncakaaPRemG
import Derived.Test.YtcmkdoahkncakaaGrowIFG
import Derived.Test.YtcmkdoahkncakaaPTreeG
import Derived.Test.YtcmkdoahkncakaaRangeG
import Derived.Test.YtcmkdoahkncakaaFindSFG
import Derived.Test.YtcmkdoahkncakaaShrFG
import Derived.Test.YtcmkdoahkncakaaBuildFG
import Derived.Test.YtcmkdoahkncakaaTreeFG
import Derived.Test.YtcmkdoahkncakaaEqsFG
import Derived.Test.YtcmkdoahkncakaaPLoopG
import Derived.Test.YtcmkdoahkncakaaWGrowShrinksFG
import Derived.Test.YtcmkdoahkncakaaRows
import Derived.Test.YtcmkdoahkncakaaLawG
namespace Go.Proofs.Ytcmkdoahkncakaa
set_option linter.unusedVariables false
end Go.Proofs.Ytcmkdoahkncakaa
namespace Go.Proofs.Ytcmkdoahkncakaa
set_option linter.unusedVariables false
set_option linter.unusedSimpArgs false
variable {F:Nat} [Big F]
theorem EL {n:DNode}(h:AH n=0):wA n=some n:=by
 obtain⟨h1,h2⟩:=BP h
 have h3:n.seps.length≤8∧n.tids.length≤8:=by
  rcases AL.1 h with h | h | h
  · rw [h.2.2.2.1,h.2.2.2.2];simp
  · rw [h.2.seps,h.2.tids];simp
  · have:=h.2.seps;have:=h.2.tids;omega
 unfold wA
 rw [AD (by simp;omega) (by simp;omega),obs,AD (by simp;omega) (by simp;omega),obs,AD (by simp;omega) (by simp;omega),obs,AD (by simp;omega) (by simp;omega),obs]
 rfl
theorem Ey {N:NL}(h : ∀(j:Nat) (k:Int),N[j]?≠some (.inl k)):ym N=some (fN N):=by
 have e:N=(fN N).map Sum.inr:=List.ext_getElem? fun j=>by
  rw [List.getElem?_map,CE]
  cases hj:N[j]? with
  | none=>rfl
  | some x =>
   cases x with
   | inl k=>exact absurd hj (h j k)
   | inr n=>rfl
 conv=>lhs;rw [e]
 exact zS _
theorem Dp {t:DTree}(hl:t.nodes.length≤400)(hc : ∀ n∈t.nodes,AH n=0):vS F t=some t:=by
 unfold vS
 rw [Ba (fun k=>((t.nodes.take k).map (Sum.inr:DNode→Int ⊕ DNode),(k:Int))) t.nodes.length (by simp) (by omega) (fun k hk=>?_) (r:=t.nodes.map Sum.inr) ?_,obs,zS,obs]
 · dsimp only
   rw [decide_eq_false (by omega),cond_false,List.take_length]
 · have hg:t.nodes[k]? = some t.nodes[k]:=gge hk
   have hr:yh 104 (((t.nodes.take k).map (Sum.inr:DNode→Int ⊕ DNode)).length+1)=some ():=by
    unfold yh;rw [List.length_map,List.length_take,if_pos ⟨by omega,by unfold maxLen;omega⟩]
   dsimp only
   rw [decide_eq_true (by omega),cond_true,Ar,hg,obs,EL (hc _ (List.getElem_mem _)),obs,hr,obs,w64 (by omega) (by omega),List.take_add_one,hg,List.map_append]
   rfl
def nlT (t:DTree):NL:=t.nodes.map Sum.inr
theorem Bh (t:DTree):fN (nlT t)=t.nodes:=HQ _
theorem D4 {t:DTree}{j:Nat}{x:Int ⊕ DNode}(h:(nlT t)[j]? = some x):∃ n,t.nodes[j]? = some n∧x = .inr n:=by
 unfold nlT at h
 rw [List.getElem?_map] at h
 obtain⟨n,hn,rfl⟩:=Option.map_eq_some_iff.1 h
 exact⟨n,hn,rfl⟩
theorem Fa {t:DTree}{h:Nat}(g:Good t h):Bm (nlT t):=fun n hn=>by rw [Bh] at hn;exact g.chk n hn
theorem Da {t:DTree}{h:Nat}(g:Good t h):Az (fN (nlT t)) h t.root (mOf 0 h) topS:=by
 rw [Bh];exact(DP g.chk h t.root 0 topS (Int.le_refl _)).1 g.ok
theorem E8 {α:Type}{p:α→Bool}:∀ {N:List α} {K:List Nat},K.Nodup→(∀(j:Nat) (x:α),N[j]? = some x→p x=true→j∈K)→N.countP p≤K.length
 | [],K,_,_=>Nat.zero_le _
 | a::N,K,hn,h=>by
  have hK : ∀(j:Nat) (x:α),N[j]? = some x→p x=true→j∈(K.filter (fun j=>j != 0)).map (· - 1):=fun j x hx hp =>
   List.mem_map.2 ⟨j+1,List.mem_filter.2 ⟨h (j+1) x (by simpa using hx) hp,by simp⟩,by simp⟩
  have hnd:((K.filter (fun j=>j != 0)).map (· - 1)).Nodup:=by
   unfold List.Nodup
   rw [List.pairwise_map]
   refine((hn.filter _).imp_of_mem fun {a b} ha hb hab e=>hab ?_)
   have h1:=(List.mem_filter.1 ha).2
   have h2:=(List.mem_filter.1 hb).2
   simp only [bne_iff_ne,ne_eq] at h1 h2
   omega
  have ih:=E8 hnd hK
  rw [List.length_map] at ih
  rw [List.countP_cons]
  by_cases hp:p a=true
  · have h0:0∈K:=h 0 a rfl hp
    have hlt:(K.filter (fun j=>j != 0)).length<K.length:=List.length_filter_lt_length_iff_exists.2 ⟨0,h0,by simp⟩
    rw [if_pos hp];omega
  · have:=List.length_filter_le (fun j=>j != 0) K
    rw [if_neg hp];omega
theorem Gx {t:DTree}{h:Nat}(g:Good t h):used (nlT t)≤(ids t.nodes h t.root).length:=by
 refine E8 g.nodup fun j x hx hp=>?_
 obtain⟨n,hn,rfl⟩:=D4 hx
 have hlt:=(ggs.1 hn).1
 exact g.all j hlt (by rw [DI hn];exact BR.1 hp)
theorem Hu {ns:List DNode}(hns : ∀ n∈ns,AH n=0):∀ {h:Nat} {i:Int} {s:Span},Az ns h i 4 s→3*(ids ns h i).length+1≤(Ao ns h i).length:=by
 intro h
 induction h with
 | zero =>
  intro i s c
  have:=c.2.2.1
  simp only [ids,Ao,List.length_singleton];omega
 | succ h ih =>
  intro i s c
  rw [ids,Ao,List.length_cons,List.length_flatMap,List.length_flatMap]
  have key : ∀ l:List Int,(∀ k∈l,3*(ids ns h k).length+1≤(Ao ns h k).length)→3*(l.map fun a=>(ids ns h a).length).sum+l.length≤(l.map fun a=>(Ao ns h a).length).sum:=by
   intro l
   induction l with
   | nil=>intro _;simp
   | cons a l ihl =>
    intro hk
    have:=ihl fun k h=>hk k (List.mem_cons_of_mem _ h)
    have:=hk a List.mem_cons_self
    simp only [List.map_cons,List.sum_cons,List.length_cons];omega
  have:=key (nd ns i).kids fun k hk=>by obtain ⟨t,s',x,_⟩:=c.2.2.2.mem k hk;exact ih x.1
  have:=c.2.2.1
  omega
theorem G5 {t:DTree}{h:Nat}(g:Good t h)(hl:(Ao t.nodes h t.root).length≤400):(ids t.nodes h t.root).length≤134∧h<134:=by
 have hh:=C1 g.chk h t.root 0 topS g.ok
 have c:=Da g
 rw [Bh] at c
 have:(ids t.nodes h t.root).length≤134:=by
  cases h with
  | zero=>simp [ids]
  | succ h =>
   have key : ∀ l:List Int,(∀ k∈l,3*(ids t.nodes h k).length+1≤(Ao t.nodes h k).length)→3*(l.map fun a=>(ids t.nodes h a).length).sum+l.length≤(l.map fun a=>(Ao t.nodes h a).length).sum:=by
    intro l
    induction l with
    | nil=>intro _;simp
    | cons a l ihl =>
     intro hk
     have:=ihl fun k h=>hk k (List.mem_cons_of_mem _ h)
     have:=hk a List.mem_cons_self
     simp only [List.map_cons,List.sum_cons,List.length_cons];omega
   have h1:=key (nd t.nodes t.root).kids fun k hk=>by obtain ⟨t',s',x,_⟩:=c.2.2.2.mem k hk;exact Hu g.chk x.1
   have h2:2≤(nd t.nodes t.root).kids.length:=by have:=c.2.2.1;unfold mOf at this;simpa using this
   rw [Ao,List.length_flatMap] at hl
   rw [ids,List.length_cons,List.length_flatMap]
   omega
 omega
theorem ED {N:NL}{h:Nat}{root:Int}(hc:Bm N)(hl:N.length≤400)(c:Az (fN N) h root (mOf 0 h) topS)(hn:(ids (fN N) h root).Nodup)(hall : ∀(j:Nat) (x:Int ⊕ DNode),N[j]? = some x→yD x≠0→j∈ids (fN N) h root):Good ⟨root,fN N⟩ h:=by
 refine⟨by show (fN N).length≤400;rw [Av];exact hl,hc,(DP hc h root 0 topS (Int.le_refl _)).2 c,hn,fun i hi hk=>?_⟩
 have hi' : i<(fN N).length:=hi
 rw [Av] at hi'
 have hg:N[i]? = some N[i]:=gge hi'
 refine hall i _ hg fun h0=>hk ?_
 have:nd (fN N) (i:Int)=fN1 N[i]:=by unfold nd;rw [Int.toNat_natCast,CE,hg];rfl
 rw [this]
 cases hx:N[i] with
 | inl k=>rfl
 | inr n=>rw [hx] at h0;exact h0
theorem HU (d:Int)(h:Nat):mOf d h≤4:=by
 unfold mOf
 split
 · exact Nat.le_refl _
 · split <;> omega
theorem Fn {t:DTree}{h:Nat}(g:Good t h){N' : NL}{K:List Nat}{c:Nat}(f:Fr2 (nlT t) N' (ids (fN (nlT t)) h t.root) K c)(hK : ∀ j∈K,∃ n:DNode,N'[j]? = some (.inr n)∧n.kind≠0):∀(j:Nat) (k:Int),N'[j]?≠some (.inl k):=fun j k hj=>by
 have hold : ∀(j:Nat) (x:Int ⊕ DNode),(nlT t)[j]? = some x→yD x≠0→j∈ids (fN (nlT t)) h t.root:=fun j x hx hk=>by
  obtain⟨n,hn,rfl⟩:=D4 hx
  rw [Bh]
  exact g.all j (ggs.1 hn).1 (by rw [DI hn];exact hk)
 by_cases hk:k=0
 · subst hk
   obtain⟨n,_,h⟩:=D4 (f.zero j hj)
   cases h
 · rcases f.all j _ hj hk with h | ⟨h,y,hy,hyk⟩
   · obtain⟨n,hn,_⟩:=hK j h
     rw [hn] at hj;cases hj
   · exact h (hold j y hy hyk)
theorem F7 {t:DTree}{h:Nat}(g:Good t h){N' : NL}{K:List Nat}{c:Nat}(f:Fr2 (nlT t) N' (ids (fN (nlT t)) h t.root) K c):∀(j:Nat) (x:Int ⊕ DNode),N'[j]? = some x→yD x≠0→j∈K:=fun j x hx hk=>by
 rcases f.all j x hx hk with h | ⟨h,y,hy,hyk⟩
 · exact h
 · obtain⟨n,hn,rfl⟩:=D4 hy
   exact absurd (by rw [Bh];exact g.all j (ggs.1 hn).1 (by rw [DI hn];exact hyk)) h
theorem Gq {t:DTree}{h:Nat}{e:DElem}(g:Good t h)(he:Ay e=0)(hne : ∀ x∈Ao t.nodes h t.root,Ap x≠Ap e)(hl:(Ao t.nodes h t.root).length≤400) :
 ∃(root:Int) (N:NL),HK F e (nlT t) t.root=some (root,N)∧ym N=some (fN N)∧∃ h',Good ⟨root,fN N⟩ h'∧Ao (fN N) h' root=Ef (Ao t.nodes h t.root) e:=by
 obtain⟨f1,f2⟩:=G5 g hl
 have hu:=Gx g
 have hF:=(inferInstance:Big F).le
 have c:=Da g
 have hsort:=(Bn g.chk h t.root 0 topS g.ok).1
 have hlen:(nlT t).length≤400:=by unfold nlT;rw [List.length_map];exact g.len
 obtain⟨N',sp,r,b,hrun,hpost⟩:=G6 (F:=F) he h F (nlT t) t.root (mOf 0 h) topS (by omega) (Fa g) hlen (by omega) c (by rw [Bh];exact g.nodup) rfl (by rw [Bh];exact hne)
 have sorted : ∀ {ns:List DNode} {h' : Nat} {root:Int},Good ⟨root,ns⟩ h'→(∀ x,x∈Ao ns h' root↔x=e∨x∈Ao t.nodes h t.root)→Ao ns h' root=Ef (Ao t.nodes h t.root) e:=fun {ns h' root} gg hm=>by
  refine DQ (Bn gg.chk h' root 0 topS gg.ok).1 (CG hsort e) fun x=>?_
  rw [hm x,Dg]
  constructor
  · rintro(h | h)
    · exact .inl h
    · exact .inr ⟨h,hne x h⟩
  · rintro(h | h)
    · exact .inl h
    · exact .inr h.1
 unfold HK
 rw [hrun,obs]
 dsimp only
 rcases hpost with ⟨rfl,P⟩ | ⟨rfl,hsp,P⟩
 · obtain⟨k,t',e1,e2,x⟩:=P.ch
   obtain rfl:t.root=k:=by simpa using e1
   have hK : [t.root].flatMap (ids (fN N') h)=ids (fN N') h t.root:=List.flatMap_singleton ..
   have fr:=P.fr
   rw [hK] at fr
   have hcap:N'.length≤400:=by have:=fr.cap;have:=fr.use;omega
   have gg:=ED fr.chk hcap x.1 fr.nodup (F7 g fr)
   refine⟨t.root,N',rfl,Ey (Fn g fr x.1.used),h,gg,sorted gg fun y=>?_⟩
   have:=P.elems y
   rw [List.flatMap_singleton,Bh] at this
   exact this
 · obtain⟨k,ks',t',ts',e1,e2,i1,x,k2,t2,e3,e4,y⟩:=P.ch
   obtain⟨rfl,rfl⟩ : t.root=k∧[r]=ks':=by simpa using e1
   obtain rfl:r=k2:=by simpa using e3
   have hK : [t.root,r].flatMap (ids (fN N') h)=ids (fN N') h t.root++ids (fN N') h r:=by simp
   have fr:=P.fr
   rw [hK] at fr
   have hcap:N'.length≤400:=by have:=fr.cap;have:=fr.use;omega
   have hKu : ∀ q∈ids (fN N') h t.root++ids (fN N') h r,∃ n:DNode,N'[q]? = some (.inr n)∧n.kind≠0:=fun q hq=>by
    rcases List.mem_append.1 hq with hq | hq
    · exact x.1.used q hq
    · exact y.1.used q hq
   obtain⟨N2,j,hT,tk⟩:=Fw (F:=F) (N:=N') ⟨2,[],[t.root,r],[sp],[Aw (nd (fN N') t.root),Aw (nd (fN N') r)]⟩ (by omega)
   have cc:Ch (Ds (fN N') h) [sp] topS [t.root,r] [Aw (nd (fN N') t.root),Aw (nd (fN N') r)]:=⟨t.root,[r],_,_,rfl,rfl,i1,⟨x.1,rfl⟩,r,_,rfl,rfl,⟨y.1,rfl⟩⟩
   have hck:=AW (n:=⟨2,[],[t.root,r],[sp],[Aw (nd (fN N') t.root),Aw (nd (fN N') r)]⟩) rfl (BE fr.chk hcap cc (by simp) (by simp) (List.pairwise_singleton _ _) (by simpa using hsp))
   have fr2:=fr.take tk (DE _ _ _ _) hck fun q hq=>by obtain ⟨n,hn,hk⟩:=hKu q hq;exact⟨_,hn,hk⟩
   have hlen2:N'.length≤N2.length:=by rcases tk.len with h | ⟨h,_⟩ <;> omega
   have hjK : ∀ q∈ids (fN N') h t.root++ids (fN N') h r,N2[q]? = N'[q]?:=fun q hq=>tk.same q fun e=>by
    subst e
    obtain⟨n,hn,hk⟩:=hKu q hq
    exact absurd (tk.free _ hn) hk
   obtain⟨a1,a2,a3⟩:=Bi hlen2 cc fun q hq=>hjK q (by rw [hK] at hq;exact hq)
   have hnd:nd (fN N2) (j:Int)=⟨2,[],[t.root,r],[sp],[Aw (nd (fN N') t.root),Aw (nd (fN N') r)]⟩:=CB (by rw [Int.toNat_natCast];exact tk.at_)
   have hjl:j<N2.length:=(ggs.1 tk.at_).1
   have hids:ids (fN N2) (h+1) (j:Int)=j::(ids (fN N') h t.root++ids (fN N') h r):=by
    rw [ids,hnd,Int.toNat_natCast]
    show j::[t.root,r].flatMap _=_
    rw [a2,hK]
   have sub:Az (fN N2) (h+1) (j:Int) (mOf 0 (h+1)) topS:=⟨by rw [Av];omega,by rw [hnd],by rw [hnd];unfold mOf;simp,by rw [hnd];exact a1⟩
   rw [← hids] at fr2
   have hcap2:N2.length≤400:=by have:=fr2.cap;have:=fr2.use;omega
   have gg:=ED fr2.chk hcap2 sub fr2.nodup (F7 g fr2)
   refine⟨(j:Int),N2,?_,Ey (Fn g fr2 sub.used),h+1,gg,sorted gg fun z=>?_⟩
   · rw [Bool.not_true,cond_false,x.1.node.1,obs,y.1.node.1,obs,Bd fr.chk x.1.range,obs,Bd fr.chk y.1.range,obs,EP,hT,obs]
   · have:=P.elems z
     rw [Bh] at this
     rw [← this,Ao,hnd]
     show z∈[t.root,r].flatMap _↔_
     rw [a3]
def BZ (e:DElem)(l:List DElem):Bool:=l.any fun x=>Ap x == Ap e
theorem EU {e:DElem}{l:List DElem}:BZ e l=true↔∃ x∈l,Ap x=Ap e:=by
 unfold BZ;rw [List.any_eq_true]
 constructor
 · rintro⟨x,hx,h⟩;exact⟨x,hx,by simpa using h⟩
 · rintro⟨x,hx,h⟩;exact⟨x,hx,by simpa using h⟩
theorem F8 {e:DElem}{l:List DElem}(h:BZ e l=false):∀ x∈l,Ap x≠Ap e:=fun x hx hs=>by
 rw [EU.2 ⟨x,hx,hs⟩] at h;cases h
theorem CD (e:DElem)(a b:List DElem):BZ e (a++b)=(BZ e a||BZ e b):=List.any_append
def Ii (ns:List DNode)(m:Nat)(x:Bool × Int × Int):Prop:=Et ns m x.2.2∧0≤x.2.1∧x.2.1+((AA ns m x.2.2).length:Int)≤100000
def Gl (ns:List DNode)(e:DElem)(m:Nat)(x:Bool × Int × Int):Bool × Int:=(x.1||BZ e (AA ns m x.2.2),x.2.1+((AA ns m x.2.2).length:Int))
theorem Gu {α β:Type}(f:α→List β){l:List α}{k:Nat}(hk:k<l.length):(l.take (k+1)).flatMap f=(l.take k).flatMap f++f l[k]∧((l.take k).flatMap f).length+(f l[k]).length≤(l.flatMap f).length:=by
 have h1:(l.take (k+1)).flatMap f=(l.take k).flatMap f++f l[k]:=by
  rw [List.take_add_one,gge hk,List.flatMap_append];simp
 refine⟨h1,?_⟩
 have h2:l.flatMap f=(l.take (k+1)).flatMap f++(l.drop (k+1)).flatMap f:=by rw [← List.flatMap_append,List.take_append_drop]
 rw [h2,h1,List.length_append,List.length_append];omega
theorem Ca {t:DTree}(hs : ∀ n∈t.nodes,Small n){h:Nat}(hg:Good t h){e:DElem}(he:Ay e=0):wx F t e=some (((Ao t.nodes h t.root).length:Int),BZ e (Ao t.nodes h t.root),0):=by
 have hF:=(inferInstance:Big F).le
 have h4:=Cl hg
 have hz:CX F t=0:=B4.2 ⟨h,hg⟩
 have hel:=Dt hg.chk h F t.root 0 topS hg.ok (by omega)
 unfold wx
 rw [Bf t hs,obs,AG hz,cond_false,Bt,obs,AG he,cond_false]
 rw [CF (Ii t.nodes) (Gl t.nodes e) ?h0 ?hstep F _ ?hpre]
 case h0 =>
  rintro⟨x1,x2,x3⟩ ⟨⟨h,d,s,hm,_⟩,_⟩
  omega
 case hpre=>exact ⟨⟨h,0,topS,by omega,hg.ok⟩,Int.le_refl _,by dsimp only;rw [hel];have:=Cr hg;omega⟩
 case hstep =>
  rintro m self ih ⟨b,c,i⟩ ⟨hok,hc0,hc1⟩
  obtain⟨⟨i0,i1⟩,hkids⟩:=hok.kids hg.chk
  dsimp only at hc0 hc1 i0 i1 hkids
  obtain⟨e8,k8⟩:=BP (hg.chk _ (BV i0 i1))
  rw [AA,List.length_append] at hc1
  dsimp only
  rw [DC i0 i1,obs]
  rw [Ba (fun k=>(b||BZ e ((nd t.nodes i).elems.take k),c+(k:Int),(k:Int))) (nd t.nodes i).elems.length (r:=(b||BZ e (nd t.nodes i).elems,c+((nd t.nodes i).elems.length:Int))) (by simp [BZ]) (by omega) ?s1 ?e1]
  case s1 =>
   intro k hk
   have hgk:(nd t.nodes i).elems[k]? = some (nd t.nodes i).elems[k]:=gge hk
   dsimp only
   rw [decide_eq_true (by omega),cond_true,Ar,hgk,obs,List.take_add_one,hgk,CD,w64 (by omega) (by omega),w64 (by omega) (by omega)]
   have e1:c+(k:Int)+1=c+((k+1:Nat):Int):=by omega
   have e2:(k:Int)+1=((k+1:Nat):Int):=by omega
   rw [e1,e2]
   cases hb:(b||BZ e ((nd t.nodes i).elems.take k)) with
   | true=>rw [cond_true,obs,← Bool.or_assoc,hb];rfl
   | false =>
    rw [cond_false,Ax,obs,Ax,obs,obs,← Bool.or_assoc,hb,Bool.false_or]
    simp [BZ]
  case e1 =>
   dsimp only
   rw [decide_eq_false (by omega),cond_false,List.take_length]
  rw [obs]
  dsimp only
  have hlen:((nd t.nodes i).kids.flatMap (AA t.nodes m)).length≤100000:=by omega
  rw [Ba (fun k=>(b||BZ e (nd t.nodes i).elems||BZ e (((nd t.nodes i).kids.take k).flatMap (AA t.nodes m)),c+((nd t.nodes i).elems.length:Int)+((((nd t.nodes i).kids.take k).flatMap (AA t.nodes m)).length:Int),(k:Int))) (nd t.nodes i).kids.length
   (r:=(b||BZ e (nd t.nodes i).elems||BZ e ((nd t.nodes i).kids.flatMap (AA t.nodes m)),c+((nd t.nodes i).elems.length:Int)+(((nd t.nodes i).kids.flatMap (AA t.nodes m)).length:Int))) (by simp [BZ]) (by omega) ?s2 ?e2]
  case s2 =>
   intro k hk
   have hgk:(nd t.nodes i).kids[k]? = some (nd t.nodes i).kids[k]:=gge hk
   obtain⟨q1,q2⟩:=Gu (AA t.nodes m) hk
   dsimp only
   rw [decide_eq_true (by omega),cond_true,Ar,hgk,obs,ih _ ⟨hkids _ (List.getElem_mem _),by dsimp only;omega,by dsimp only;omega⟩,obs]
   unfold Gl
   dsimp only
   rw [q1,CD,List.length_append,w64 (by omega) (by omega),Bool.or_assoc,Int.add_assoc (c+_)]
   rfl
  case e2 =>
   dsimp only
   rw [decide_eq_false (by omega),cond_false,List.take_length]
  rw [obs]
  dsimp only
  unfold Gl
  dsimp only
  rw [AA,CD,List.length_append,Bool.or_assoc]
  congr 2;omega
 rw [obs]
 dsimp only
 rw [obs]
 unfold Gl
 dsimp only
 rw [hel,Bool.false_or,Int.zero_add]
theorem Ee {t:DTree}(hs : ∀ n∈t.nodes,Small n)(hc:CX F t≠0)(e:DElem):wx F t e=some (0,false,CX F t):=by
 unfold wx
 rw [Bf t hs,obs,Be hc,cond_true]
theorem EE {t:DTree}(hs : ∀ n∈t.nodes,Small n){h:Nat}(hg:Good t h){e:DElem}(he:Ay e≠0):wx F t e=some (0,false,Ay e):=by
 unfold wx
 rw [Bf t hs,obs,AG (B4.2 ⟨h,hg⟩),cond_false,Bt,obs,Be he,cond_true]
theorem GW {t:DTree}{h:Nat}(g:Good t h):∀ e∈Ao t.nodes h t.root,Ay e=0:=fun e he=>((Bn g.chk h t.root 0 topS g.ok).2 e he).2
theorem El {t:DTree}{h:Nat}(g:Good t h):(Ao t.nodes h t.root).Pairwise SpO:=(Bn g.chk h t.root 0 topS g.ok).1
theorem Ck {t:DTree}{h:Nat}(g:Good t h):∀ n∈t.nodes,Small n:=fun n hn=>BQ (g.chk n hn)
omit [Big F] in
theorem DV (t:DTree)(e:DElem):vh F t e=(wx F t e).bind fun r1=>bif (r1.2.2 != 0) then some (DTree.mk 0 [],r1.2.2) else bif r1.2.1 then some (DTree.mk 0 [],5) else bif decide ((400:Int)≤r1.1) then some (DTree.mk 0 [],8) else
 (vS F t).bind fun r2=>(HK F e (nlT r2) r2.root).bind fun z=>match z with | (z1,z2)=>(ym z2).bind fun l1=>some (DTree.mk z1 l1,0):=rfl
theorem Cm {t:DTree}{h:Nat}{e:DElem}(g:Good t h)(he:Ay e=0)(hne:BZ e (Ao t.nodes h t.root)=false)(hl:(Ao t.nodes h t.root).length<400) :
 ∃ t' h',vh F t e=some (t',0)∧Good t' h'∧Ao t'.nodes h' t'.root=Ef (Ao t.nodes h t.root) e:=by
 obtain⟨root,N,h1,h2,h',h3,h4⟩:=Gq (F:=F) g he (F8 hne) (by omega)
 refine⟨⟨root,fN N⟩,h',?_,h3,h4⟩
 rw [DV,Ca (Ck g) g he,obs]
 dsimp only
 rw [AG rfl,cond_false,hne,cond_false,decide_eq_false (by omega),cond_false,Dp g.len g.chk,obs,h1,obs]
 dsimp only
 rw [h2,obs]
def zT:DTree:=⟨0,[]⟩
theorem Dy {t:DTree}(hs : ∀ n∈t.nodes,Small n)(hc:CX F t≠0)(e:DElem):vh F t e=some (zT,CX F t):=by
 unfold vh
 rw [Ee hs hc,obs]
 dsimp only
 rw [Be hc,cond_true];rfl
theorem Dx {t:DTree}{h:Nat}{e:DElem}(g:Good t h)(he:Ay e≠0):vh F t e=some (zT,Ay e):=by
 unfold vh
 rw [EE (Ck g) g he,obs]
 dsimp only
 rw [Be he,cond_true];rfl
theorem DM {t:DTree}{h:Nat}{e:DElem}(g:Good t h)(he:Ay e=0)(ha:BZ e (Ao t.nodes h t.root)=true):vh F t e=some (zT,5):=by
 unfold vh
 rw [Ca (Ck g) g he,obs]
 dsimp only
 rw [AG rfl,cond_false,ha,cond_true];rfl
theorem Dz {t:DTree}{h:Nat}{e:DElem}(g:Good t h)(he:Ay e=0)(ha:BZ e (Ao t.nodes h t.root)=false)(hl:400≤(Ao t.nodes h t.root).length):vh F t e=some (zT,8):=by
 unfold vh
 rw [Ca (Ck g) g he,obs]
 dsimp only
 rw [AG rfl,cond_false,ha,cond_false,decide_eq_true (by omega),cond_true];rfl
theorem Db {t:DTree}(hs : ∀ n∈t.nodes,Small n)(e:DElem):(∃ x,x≠0∧vh F t e=some (zT,x)) ∨
 ∃ h t' h',Good t h∧Ay e=0∧BZ e (Ao t.nodes h t.root)=false∧(Ao t.nodes h t.root).length<400∧vh F t e=some (t',0)∧Good t' h'∧Ao t'.nodes h' t'.root=Ef (Ao t.nodes h t.root) e:=by
 by_cases hc:CX F t=0
 rotate_left
 · exact .inl ⟨_,hc,Dy hs hc e⟩
 obtain⟨h,g⟩:=B4.1 hc
 by_cases he:Ay e=0
 rotate_left
 · exact .inl ⟨_,he,Dx g he⟩
 cases ha:BZ e (Ao t.nodes h t.root) with
 | true=>exact .inl ⟨5,by decide,DM g he ha⟩
 | false =>
  by_cases hl:(Ao t.nodes h t.root).length<400
  · obtain⟨t',h',q1,q2,q3⟩:=Cm (F:=F) g he ha hl
    exact .inr ⟨h,t',h',g,he,ha,hl,q1,q2,q3⟩
  · exact .inl ⟨8,by decide,Dz g he ha (by omega)⟩
end Go.Proofs.Ytcmkdoahkncakaa
namespace Go.Proofs.Ytcmkdoahkncakaa
set_option linter.unusedVariables false
set_option linter.unusedSimpArgs false
section walks
variable {τ α β:Type} {F:Nat}
def AZ (t:τ→α→τ × Nat):List α→τ→τ × Nat
 | [],a=>(a,0)
 | e::l,a=>if (t a e).2=0 then AZ t l (t a e).1 else t a e
theorem BU (t:τ→α→τ × Nat):∀(l m:List α) (a:τ),AZ t (l++m) a=if (AZ t l a).2=0 then AZ t m (AZ t l a).1 else AZ t l a
 | [],m,a=>by simp [AZ]
 | e::l,m,a=>by
  rw [List.cons_append,AZ,AZ]
  by_cases h:(t a e).2=0
  · rw [if_pos h,if_pos h,BU t l m]
  · rw [if_neg h,if_neg h,if_neg h]
theorem CN (t:τ→α→τ × Nat)(p:α→Bool):∀(l:List α) (a:τ),AZ (fun st e=>if p e then t st e else (st,0)) l a=AZ t (l.filter p) a
 | [],a=>rfl
 | e::l,a=>by
  rw [AZ]
  by_cases h:p e=true
  · rw [if_pos h,List.filter_cons_of_pos h,AZ]
    by_cases h0:(t a e).2=0
    · rw [if_pos h0,if_pos h0,CN t p l]
    · rw [if_neg h0,if_neg h0]
  · rw [if_neg h,if_pos rfl,List.filter_cons_of_neg h,CN t p l]
theorem Cv (t:τ→α→τ × Nat)(g:β→List α):∀(l:List β) (a:τ),AZ (fun st k=>AZ t (g k) st) l a=AZ t (l.flatMap g) a
 | [],a=>rfl
 | b::l,a=>by
  rw [AZ,List.flatMap_cons,BU,Cv t g l]
theorem D6 (t:τ→α→τ × Nat)(len:τ→Nat)(ht : ∀ a e,len (t a e).1≤len a+1):∀(l:List α) (a:τ),len (AZ t l a).1≤len a+l.length
 | [],a=>Nat.le_refl _
 | e::l,a=>by
  rw [AZ,List.length_cons]
  have h1:=ht a e
  by_cases h:(t a e).2=0
  · rw [if_pos h]
    have:=D6 t len ht l (t a e).1
    omega
  · rw [if_neg h];omega
theorem Er {S R:Type}[Big F]{f:S→Option (S ⊕ R)}(t:τ→α→τ × Nat)(l:List α)(enc:τ→Int→S)(o0:τ→R)(o1:τ→Nat→R)(a:τ)(hn:l.length≤9223372036854775807){s:S}(h0:s=enc a 0)
 (hs : ∀(k:Nat) (e:α) (st:τ),l[k]? = some e→AZ t (l.take k) a=(st,0)→f (enc st (k:Int))=some (uW (t st e).2 (.inl (enc (t st e).1 ((k:Int)+1))) (fun n=>.inr (o1 (t st e).1 n))))
 (he : ∀ st,AZ t l a=(st,0)→f (enc st (l.length:Int))=some (.inr (o0 st))) :
 iter f F s=some (uW (AZ t l a).2 (o0 (AZ t l a).1) (fun n=>o1 (AZ t l a).1 n)):=by
 subst h0
 have key : ∀(m k N:Nat) (st:τ),k+m=l.length→m<N→AZ t (l.take k) a=(st,0)→iter f N (enc st (k:Int))=some (uW (AZ t l a).2 (o0 (AZ t l a).1) (fun n=>o1 (AZ t l a).1 n)):=by
  intro m
  induction m with
  | zero =>
   intro k N st hk hN hr
   obtain⟨N,rfl⟩ : ∃ M,N=M+1:=⟨N-1,by omega⟩
   rw [List.take_of_length_le (by omega)] at hr
   rw [iter,show k=l.length by omega,he st hr,hr];rfl
  | succ m ih =>
   intro k N st hk hN hr
   obtain⟨N,rfl⟩ : ∃ M,N=M+1:=⟨N-1,by omega⟩
   have hkl:k<l.length:=by omega
   have hg:=gge hkl
   have hsplit:AZ t l a=AZ t (l[k]::l.drop (k+1)) st:=by
    have h1:=BU t (l.take k) (l.drop k) a
    rw [List.take_append_drop,hr,if_pos rfl,List.drop_eq_getElem_cons hkl] at h1
    exact h1
   rw [iter,hs k l[k] st hg hr]
   rw [AZ] at hsplit
   cases hz:(t st l[k]).2 with
   | zero =>
    rw [tP]
    refine ih (k+1) N _ (by omega) (by omega) ?_
    rw [List.take_add_one,hg,BU,hr,if_pos rfl]
    show AZ t [l[k]] st=_
    rw [AZ,if_pos hz];rfl
   | succ n =>
    rw [if_neg (by omega)] at hsplit
    rw [ue,hsplit,hz,ue]
 exact key l.length 0 F a (by omega) (D2 hn) rfl
end walks
def geB (s:DSpot)(e:DElem):Bool:=decide (0≤cmpS (Ap e) s)
def Bs (ns:List DNode)(s:DSpot):Nat→Int→List DElem
 | 0,_=>[]
 | m+1,i=>(nd ns i).elems.filter (geB s)++(if (nd ns i).kind=1 then [] else ((nd ns i).kids.drop (BW (nd ns i).seps s)).flatMap (Bs ns s m))
theorem Gv (ns:List DNode)(s:DSpot):∀(m:Nat) (i:Int),(Bs ns s m i).Sublist (AA ns m i):=by
 intro m
 induction m with
 | zero=>intro i;exact List.Sublist.refl _
 | succ m ih =>
  intro i
  rw [Bs,AA]
  refine List.Sublist.append List.filter_sublist ?_
  split
  · exact List.nil_sublist _
  · have h1 : ∀ l : List Int, (l.flatMap (Bs ns s m)).Sublist (l.flatMap (AA ns m)) := by
     intro l
     induction l with
     | nil=>exact List.Sublist.refl _
     | cons a l ihl=>rw [List.flatMap_cons,List.flatMap_cons];exact(ih a).append ihl
    refine(h1 _).trans ?_
    have h2 : ∀(l:List Int) (k:Nat),((l.drop k).flatMap (AA ns m)).Sublist (l.flatMap (AA ns m)):=by
     intro l k
     conv=>rhs;rw [← List.take_append_drop k l,List.flatMap_append]
     exact List.sublist_append_right _ _
    exact h2 _ _
theorem Cz {α β:Type}(p:β→Bool)(f:α→List β):∀ l:List α,(l.flatMap f).filter p=l.flatMap fun a=>(f a).filter p
 | []=>rfl
 | a::l=>by rw [List.flatMap_cons,List.flatMap_cons,List.filter_append,Cz p f l]
theorem G3 {ns:List DNode}(hns : ∀ n∈ns,AH n=0)(s:DSpot):∀(h m:Nat) (i d:Int) (sp:Span),okN ns h i d sp→h<m→Bs ns s m i=(Ao ns h i).filter (geB s):=by
 intro h
 induction h with
 | zero =>
  intro m i d sp hok hm
  obtain⟨m,rfl⟩ : ∃ q,m=q+1:=⟨m-1,by omega⟩
  rw [Bs,Ao,if_pos hok.2.1,List.append_nil]
 | succ h ih =>
  intro m i d sp hok hm
  obtain⟨m,rfl⟩ : ∃ q,m=q+1:=⟨m-1,by omega⟩
  have hI:=(BF hns hok.1 hok.2.1).2
  rw [Bs,Ao,if_neg hok.2.1.2,hI.elems,List.filter_nil,List.nil_append,Cz]
  have hk : ∀ k∈(nd ns i).kids,Bs ns s m k=(Ao ns h k).filter (geB s):=fun k hk=>by
   obtain⟨q,hq⟩:=List.mem_iff_getElem?.1 hk
   exact ih m k _ _ (hok.2.2.2 (k,q) (Cx hq)).1 (by omega)
  have hcong : ∀ l:List Int,(∀ k∈l,k∈(nd ns i).kids)→l.flatMap (Bs ns s m)=l.flatMap fun k=>(Ao ns h k).filter (geB s):=by
   intro l
   induction l with
   | nil=>intro _;rfl
   | cons a l ihl=>intro hl;rw [List.flatMap_cons,List.flatMap_cons,hk a (hl a List.mem_cons_self),ihl fun k hk=>hl k (List.mem_cons_of_mem _ hk)]
  rw [hcong _ fun k hk=>List.mem_of_mem_drop hk]
  have hnil:((nd ns i).kids.take (BW (nd ns i).seps s)).flatMap (fun k=>(Ao ns h k).filter (geB s))=[]:=by
   rw [List.flatMap_eq_nil_iff]
   intro k hk
   rw [List.mem_take_iff_getElem] at hk
   obtain⟨q,hq,rfl⟩:=hk
   rw [List.filter_eq_nil_iff]
   intro e he
   have hqk:(nd ns i).kids[q]? = some (nd ns i).kids[q]:=gge (by omega)
   have h1:=(hok.2.2.2 (_,q) (Cx hqk)).1
   have h2:=((Bn hns h _ _ _ h1).2 e he).1
   have hw:=DR (nd ns i).seps s
   have hx:(nd ns i).seps[q]? = some (nd ns i).seps[q]:=gge (by omega)
   have h3:=D0 hx h2
   have h4:=(ET (nd ns i).seps s).1 q _ (by omega) hx
   have h5:=Bw h3 h4
   unfold geB
   rw [decide_eq_true_eq]
   omega
  conv=>rhs;rw [← List.take_append_drop (BW (nd ns i).seps s) (nd ns i).kids,List.flatMap_append,hnil,List.nil_append]
def HC {τ:Type}(ns:List DNode)(s:DSpot)(len:τ→Nat)(m:Nat)(x:τ × Int):Prop:=Et ns m x.2∧len x.1+(Bs ns s m x.2).length≤100000
theorem GG {τ:Type}{t:DTree}{h:Nat}(hg:Good t h)(s:DSpot)(len:τ→Nat)(a:τ)(ha:len a=0){F:Nat}[Big F]:HC t.nodes s len F (a,t.root):=by
 have hF:=(inferInstance:Big F).le
 have h4:=Cl hg
 refine⟨⟨h,0,topS,by omega,hg.ok⟩,?_⟩
 dsimp only
 have h1:=(Gv t.nodes s F t.root).length_le
 rw [Dt hg.chk h F t.root 0 topS hg.ok (by omega)] at h1
 have:=Cr hg
 omega
theorem Gw {t:DTree}{h:Nat}(hg:Good t h)(s:DSpot){F:Nat}[Big F]:Bs t.nodes s F t.root=(Ao t.nodes h t.root).filter (geB s):=by
 have hF:=(inferInstance:Big F).le
 have h4:=Cl hg
 exact G3 hg.chk s h F t.root 0 topS hg.ok (by omega)
theorem He {τ:Type}{ns:List DNode}(hns : ∀ n∈ns,AH n=0){s:DSpot}{len:τ→Nat}{m:Nat}{a b:τ}{i:Int}(h:HC ns s len (m+1) (a,i))(h1:(nd ns i).kind≠1){t:τ→DElem→τ × Nat}(ht : ∀ a e,len (t a e).1≤len a+1)
 (hb:AZ t ((nd ns i).elems.filter (geB s)) a=(b,0)) {k:Nat} {e:Int} (hk:((nd ns i).kids.drop (BW (nd ns i).seps s))[k]? = some e) {st:τ}
 (hr:AZ (fun st k=>AZ t (Bs ns s m k) st) (((nd ns i).kids.drop (BW (nd ns i).seps s)).take k) b=(st,0)):HC ns s len m (st,e):=by
 have hkids:=(h.1.kids hns).2
 refine⟨hkids e (List.mem_of_mem_drop (List.mem_of_getElem? hk)),?_⟩
 rw [Cv] at hr
 have q1:=D6 t len ht ((nd ns i).elems.filter (geB s)) a
 rw [hb] at q1
 have q2:=D6 t len ht ((((nd ns i).kids.drop (BW (nd ns i).seps s)).take k).flatMap (Bs ns s m)) b
 rw [hr] at q2
 have h2:=h.2
 dsimp only at q1 q2 h2 ⊢
 rw [Bs,if_neg h1,List.length_append] at h2
 obtain⟨hkl,rfl⟩:=ggs.1 hk
 have h3:(((nd ns i).kids.drop (BW (nd ns i).seps s)).flatMap (Bs ns s m)).length=((((nd ns i).kids.drop (BW (nd ns i).seps s)).take k).flatMap (Bs ns s m)).length+(((((nd ns i).kids.drop (BW (nd ns i).seps s)).drop k)).flatMap (Bs ns s m)).length:=by
  rw [← List.length_append,← List.flatMap_append,List.take_append_drop]
 rw [List.drop_eq_getElem_cons hkl,List.flatMap_cons,List.length_append] at h3
 omega
theorem H4 {ns:List DNode}{i:Int}(hI:Inner (nd ns i))(s:DSpot):BW (nd ns i).seps s≤(nd ns i).kids.length:=by
 have:=DR (nd ns i).seps s
 have:=hI.seps
 omega
end Go.Proofs.Ytcmkdoahkncakaa
namespace Go.Proofs.Ytcmkdoahkncakaa
set_option linter.unusedVariables false
set_option linter.unusedSimpArgs false
variable {F:Nat} [Big F]
abbrev FlatE:=Int × Int × Int × Int × Int × ByteArray
def H6 (e:DElem):FlatE:=(e.key.pfs,e.key.obj,e.key.off,e.made,e.gone,e.val)
def Dn (s:DSpot)(st:FlatE)(e:DElem):FlatE × Nat:=if Ap e=s then (H6 e,1) else (st,2)
def Gm (l:List DElem)(s:DSpot):DElem × Int:=match l.head? with
 | none=>(Ho,4)
 | some e=>if Ap e=s then (e,0) else (Ho,4)
theorem DT {t:DTree}(hs : ∀ n∈t.nodes,Small n){h:Nat}(hg:Good t h)(s:DSpot):ww F t s=some (Gm ((Ao t.nodes h t.root).filter (geB s)) s):=by
 have hz:CX F t=0:=B4.2 ⟨h,hg⟩
 have hlen : ∀(a:FlatE) (e:DElem),(fun _:FlatE=>0) (Dn s a e).1≤(fun _:FlatE=>0) a+1:=fun _ _=>Nat.zero_le _
 unfold ww
 rw [Bf t hs,obs,AG hz,cond_false]
 rw [CF (σ:=Int × Int × Int × Int × Int × ByteArray × Int) (fun m x=>match x with | (x1,x2,x3,x4,x5,x6,x7)=>HC t.nodes s (fun _:FlatE=>0) m ((x1,x2,x3,x4,x5,x6),x7))
  (fun m x=>match x with | (x1,x2,x3,x4,x5,x6,x7)=>let r:=AZ (Dn s) (Bs t.nodes s m x7) (x1,x2,x3,x4,x5,x6);(r.2,r.1)) ?h0 ?hstep F _ (GG hg s (fun _=>0) _ rfl)]
 case h0 =>
  rintro⟨x1,x2,x3,x4,x5,x6,x7⟩ ⟨⟨h,d,s,hm,_⟩,_⟩
  omega
 case hstep =>
  rintro m self ih ⟨x1,x2,x3,x4,x5,x6,x7⟩ hpre
  dsimp only at hpre
  obtain⟨⟨h0,h1⟩,hkids⟩:=hpre.1.kids hg.chk
  dsimp only at h0 h1 hkids ⊢
  have hmem:=BV h0 h1
  obtain⟨h8,h8'⟩:=BP (hg.chk _ hmem)
  rw [DC h0 h1,obs]
  rw [Er (fun st e=>if geB s e then Dn s st e else (st,0)) (nd t.nodes x7).elems (fun (st:FlatE) k=>(st.1,st.2.1,st.2.2.1,st.2.2.2.1,st.2.2.2.2.1,st.2.2.2.2.2,k)) Sum.inl (fun st n=>Sum.inr (n+1,st)) (x1,x2,x3,x4,x5,x6) (by omega) rfl ?hs ?he]
  case hs =>
   rintro k e ⟨y1,y2,y3,y4,y5,y6⟩ hk hr
   have hkl:=(ggs.1 hk).1
   dsimp only
   rw [decide_eq_true (by omega),cond_true,Ar,hk,obs,Ax,obs,AJ,obs,w64 (by omega) (by omega)]
   unfold geB
   by_cases hge:0≤cmpS (Ap e) s
   · rw [decide_eq_true hge,cond_true,if_pos rfl,obs]
     unfold Dn
     by_cases hn:Ap e=s
     · rw [if_pos hn,show (Ap e == s)=true by simpa using hn];rfl
     · rw [if_neg hn,show (Ap e == s)=false by simpa using hn];rfl
   · rw [decide_eq_false hge,cond_false,if_neg (by simp)];rfl
  case he =>
   rintro⟨y1,y2,y3,y4,y5,y6⟩ hr
   dsimp only
   rw [decide_eq_false (by omega)];rfl
  rw [obs,CN,Bs]
  cases hb:AZ (Dn s) ((nd t.nodes x7).elems.filter (geB s)) (x1,x2,x3,x4,x5,x6) with
  | mk b c =>
   rw [BU,hb]
   cases c with
   | succ c=>rfl
   | zero =>
    obtain⟨b1,b2,b3,b4,b5,b6⟩:=b
    dsimp only [uW]
    rw [if_pos rfl]
    by_cases hk:(nd t.nodes x7).kind=1
    · rw [if_pos hk,show ((nd t.nodes x7).kind == 1)=true by simpa using hk];rfl
    · rw [if_neg hk,show ((nd t.nodes x7).kind == 1)=false by simpa using hk,cond_false]
      have hw:BW (nd t.nodes x7).seps s≤(nd t.nodes x7).kids.length:=by
       rcases AL.1 (hg.chk _ hmem) with q | q | q
       · rw [q.2.2.2.1];exact Nat.zero_le _
       · exact absurd q.1 hk
       · exact H4 q.2 s
      rw [Cg _ s (hs _ hmem),obs,AO hw,obs]
      rw [Er (fun st k=>AZ (Dn s) (Bs t.nodes s m k) st) ((nd t.nodes x7).kids.drop (BW (nd t.nodes x7).seps s)) (fun (st:FlatE) k=>(st.1,st.2.1,st.2.2.1,st.2.2.2.1,st.2.2.2.2.1,st.2.2.2.2.2,k)) Sum.inl (fun st n=>Sum.inr (n+1,st)) (b1,b2,b3,b4,b5,b6) (by rw [List.length_drop];omega) rfl ?hs2 ?he2]
      case hs2 =>
       rintro k e ⟨y1,y2,y3,y4,y5,y6⟩ hk2 hr
       have hkl:=(ggs.1 hk2).1
       rw [List.length_drop] at hkl
       dsimp only
       rw [decide_eq_true (by rw [List.length_drop];omega),cond_true,Ar,hk2,obs,ih (y1,y2,y3,y4,y5,y6,e) (He hg.chk hpre hk hlen hb hk2 hr),obs,w64 (by omega) (by omega)]
       dsimp only
       cases hc:AZ (Dn s) (Bs t.nodes s m e) (y1,y2,y3,y4,y5,y6) with
       | mk y c=>cases c <;> rfl
      case he2 =>
       rintro⟨y1,y2,y3,y4,y5,y6⟩ hr
       dsimp only
       rw [decide_eq_false (by omega)];rfl
      rw [obs,Cv]
      cases hc:AZ (Dn s) (((nd t.nodes x7).kids.drop (BW (nd t.nodes x7).seps s)).flatMap (Bs t.nodes s m)) (b1,b2,b3,b4,b5,b6) with
      | mk y c=>cases c <;> rfl
 rw [obs]
 dsimp only
 rw [Gw hg s]
 generalize (Ao t.nodes h t.root).filter (geB s)=l
 unfold Gm
 cases l with
 | nil=>rfl
 | cons e l =>
  rw [AZ]
  unfold Dn
  dsimp only [List.head?]
  by_cases hn:Ap e=s
  · rw [if_pos hn,if_pos hn,if_neg (by simp)];rfl
  · rw [if_neg hn,if_neg hn,if_neg (by simp)];rfl
end Go.Proofs.Ytcmkdoahkncakaa
namespace Go.Proofs.Ytcmkdoahkncakaa
set_option linter.unusedVariables false
set_option linter.unusedSimpArgs false
variable {F:Nat} [Big F]
theorem CO {t:DTree}{h h' : Nat}{root' : Int}{N' : NL}(g:Good t h)(len:N'.length=(nlT t).length)(out : ∀ j:Nat,j ∉ ids t.nodes h t.root→N'[j]? = (nlT t)[j]?)(chk:Bm N')(sub:Az (fN N') h' root' (mOf 0 h') topS)
 (perm : ∃ Z,(ids t.nodes h t.root).Perm (Z++ids (fN N') h' root')∧∀ j∈Z,N'[j]? = some (.inr zN)):ym N' = some (fN N')∧Good ⟨root',fN N'⟩ h':=by
 obtain⟨Z,hZ,hz⟩:=perm
 have key : ∀(j:Nat) (x:Int ⊕ DNode),N'[j]? = some x→(∃ n,x = .inr n)∧(yD x≠0→j∈ids (fN N') h' root'):=fun j x hx=>by
  by_cases hj:j∈ids t.nodes h t.root
  · rcases List.mem_append.1 (hZ.mem_iff.1 hj) with hj | hj
    · rw [hz j hj] at hx
      obtain rfl:=Option.some.inj hx
      exact⟨⟨_,rfl⟩,fun hk=>absurd rfl hk⟩
    · obtain⟨n,hn,_⟩:=sub.used j hj
      rw [hn] at hx
      exact⟨⟨n,(Option.some.inj hx).symm⟩,fun _=>hj⟩
  · rw [out j hj] at hx
    obtain⟨n,hn,rfl⟩:=D4 hx
    exact⟨⟨n,rfl⟩,fun hk=>absurd (g.all j (ggs.1 hn).1 (by rw [DI hn];exact hk)) hj⟩
 refine⟨Ey fun j k hj=>?_,ED chk ?_ sub ?_ fun j x hx=>(key j x hx).2⟩
 · obtain⟨⟨n,hn⟩,_⟩:=key j _ hj
   cases hn
 · rw [len];unfold nlT;rw [List.length_map];exact g.len
 · exact(List.nodup_append.1 (hZ.nodup_iff.1 g.nodup)).2.1
theorem Fq {N:NL}{i:Int}{n:DNode}(h:N[i.toNat]? = some (.inr n)):sE (sZ N i) i n=N:=by
 refine List.ext_getElem? fun j=>?_
 by_cases hj:j=i.toNat
 · subst hj
   rw [AV _ (by rw [Aq];exact(ggs.1 h).1),h]
 · rw [AB _ hj,AU _ hj]
theorem GE {t:DTree}{h:Nat}{sp:DSpot}(g:Good t h) :
 ∃(root:Int) (N:NL),HX F sp (nlT t) t.root=some (N,root)∧ym N=some (fN N)∧∃ h',Good ⟨root,fN N⟩ h'∧Ao (fN N) h' root=(Ao t.nodes h t.root).filter (BG sp):=by
 have hF:=(inferInstance:Big F).le
 have hfu:=Cl g
 have hc:=Fa g
 have c:=Da g
 have hlen:(nlT t).length≤400:=by unfold nlT;rw [List.length_map];exact g.len
 have hnd:(ids (fN (nlT t)) h t.root).Nodup:=by rw [Bh];exact g.nodup
 have hr:=c.range
 rw [Av] at hr
 unfold HX
 cases h with
 | zero =>
  obtain⟨N',hrun,P⟩:=Fs (F:=F) sp 0 F (nlT t) t.root 0 topS (by omega) hc hlen (.inl rfl) c hnd rfl
  have c' : Az (fN N') 0 t.root 0 topS:=P.sub
  have L:=c'.leaf P.chk
  obtain⟨q1,q2⟩:=c'.node
  obtain⟨r1,r2⟩:=CO g P.len (fun j hj=>P.out j (by rw [Bh];exact hj)) P.chk c' (by obtain ⟨Z,hZ,hz⟩:=P.perm;rw [Bh] at hZ;exact⟨Z,hZ,hz⟩)
  refine⟨t.root,N',?_,r1,0,r2,by rw [P.elems,Bh]⟩
  rw [hrun,obs,q1,obs,L.kids,show (((([]:List Int).length:Int)) == 1)=false from rfl,cond_false,obs,Fq q2]
 | succ h =>
  obtain⟨f,hf⟩ : ∃ f,F=f+1:=⟨F-1,by omega⟩
  obtain⟨N3,K,X,T,hrun,M⟩:=Gj (F:=F) (Fs sp h) (mf:=f) (by omega) hc hlen c hnd rfl
  rw [← hf] at hrun
  have hids:ids t.nodes (h+1) t.root=t.root.toNat::(nd t.nodes t.root).kids.flatMap (ids t.nodes h):=rfl
  have hels:Ao t.nodes (h+1) t.root=(nd t.nodes t.root).kids.flatMap (Ao t.nodes h):=rfl
  have hMe:=M.elems
  obtain⟨Z,hZ,hz⟩:=M.perm
  rw [Bh] at hMe hZ
  have hn1:=g.nodup
  rw [hids] at hn1
  obtain⟨n1,n2⟩:=List.nodup_cons.1 hn1
  have hl3:=M.len
  have h2:2≤(nd t.nodes t.root).kids.length:=by have:=c.2.2.1;rw [Bh] at this;unfold mOf at this;simpa using this
  have hmore:=M.more
  rw [Bh] at hmore
  have hget:(sE N3 t.root ⟨2,[],K,X,T⟩)[t.root.toNat]? = some (.inr ⟨2,[],K,X,T⟩):=AV _ (by rw [hl3];omega)
  have hnode:uh (sE N3 t.root ⟨2,[],K,X,T⟩) t.root=some ⟨2,[],K,X,T⟩:=by
   unfold uh
   rw [if_neg (by omega),hget];rfl
  rw [hrun,obs,hnode,obs]
  dsimp only
  by_cases h1:K.length=1
  · obtain⟨k,rfl⟩:=List.length_eq_one_iff.1 h1
    obtain⟨X0,hX0⟩ : ∃ X0,X0=X:=⟨_,rfl⟩
    have hXl:=M.ch.lens.1
    obtain rfl:X=[]:=List.eq_nil_of_length_eq_zero (by simpa using hXl)
    obtain⟨k',t',e1,e2,q⟩:=M.ch
    obtain rfl:k=k':=by simpa using e1
    have hkn : ∀ j∈ids (fN N3) h k,j≠t.root.toNat:=fun j hj e=>n1 (hZ.mem_iff.2 (List.mem_append_right _ (by rw [List.flatMap_singleton,← e];exact hj)))
    have hN:sE (sZ (sE N3 t.root ⟨2,[],[k],[],T⟩) t.root) t.root zN=sE N3 t.root zN:=by
     unfold sE sZ
     rw [List.set_set,List.set_set]
    obtain⟨a1,a2,a3,a4⟩:=Az.agree (N':=sE N3 t.root zN) (by rw [Au];exact Nat.le_refl _) q.1 fun j hj=>AB N3 (hkn j hj)
    rw [List.flatMap_singleton] at hMe hZ
    obtain⟨r1,r2⟩:=CO (root':=k) g (by rw [Au];exact hl3) (fun j hj=>by
     have:=M.out j (by rw [Bh];exact hj)
     rw [hids,List.mem_cons,not_or] at hj
     rw [AB N3 hj.1,this]) (M.chk.put F4) (a1.weak (HU 0 h)) ⟨t.root.toNat::Z,by rw [hids,a2];exact List.Perm.cons _ hZ,fun j hj=>by
     rcases List.mem_cons.1 hj with rfl | hj
     · exact AV _ (by rw [hl3];omega)
     · rw [AB N3 (show j≠t.root.toNat from fun e=>n1 (hZ.mem_iff.2 (List.mem_append_left _ (by rw [← e];exact hj))))]
       exact hz j hj⟩
    refine⟨k,sE N3 t.root zN,?_,r1,h,r2,by rw [a3,hMe,hels]⟩
    rw [show ((([k]:List Int).length:Int) == 1)=true from rfl,cond_true,Ci (by rw [Aq,Au,hl3];exact hr),obs,show idx [k] 0=some k from rfl,obs,obs]
    dsimp only
    exact congrArg (fun q=>some (q,k)) hN
  · have P:=Gk hlen c hc hnd M (by omega)
    have h2K:2≤K.length:=by omega
    have hck:=AW (n:=⟨2,[],K,X,T⟩) rfl (BE M.chk (by rw [hl3];exact hlen) M.ch h2K (by have:=M.few;rw [Bh] at this;have:=(c.inner hc).eight;rw [Bh] at this;omega) M.ord M.ok)
    have hnd2:=CB hget
    have c' : Az (fN (sE N3 t.root ⟨2,[],K,X,T⟩)) (h+1) t.root (mOf 0 (h+1)) topS :=
     ⟨P.sub.1,P.sub.2.1,by rw [hnd2];unfold mOf;simpa using h2K,P.sub.2.2.2⟩
    obtain⟨r1,r2⟩:=CO g P.len (fun j hj=>P.out j (by rw [Bh];exact hj)) P.chk c' (by obtain ⟨Z,hZ,hz⟩:=P.perm;rw [Bh] at hZ;exact⟨Z,hZ,hz⟩)
    refine⟨t.root,_,?_,r1,h+1,r2,by rw [P.elems,Bh]⟩
    rw [show ((K.length:Int) == 1)=false by rw [beq_eq_false_iff_ne];omega,cond_false,obs,Fq hget]
theorem GJ {l:List DElem}{s:DSpot}(ho:l.Pairwise SpO)(hs : ∃ x∈l,Ap x=s):(Gm (l.filter (geB s)) s).2=0:=by
 obtain⟨x,hx,hxs⟩:=hs
 have hm:x∈l.filter (geB s):=List.mem_filter.2 ⟨hx,by unfold geB;rw [hxs,As.refl];rfl⟩
 have ho' : (l.filter (geB s)).Pairwise SpO:=ho.filter _
 unfold Gm
 cases hl:l.filter (geB s) with
 | nil=>rw [hl] at hm;cases hm
 | cons y r =>
  have hy:geB s y=true:=(List.mem_filter.1 (show y∈l.filter (geB s) by rw [hl];exact List.mem_cons_self)).2
  rw [hl] at hm ho'
  have e:Ap y=s:=by
   rcases List.mem_cons.1 hm with rfl | hm
   · exact hxs
   · have h1:cmpS (Ap y) (Ap x)<0:=(List.pairwise_cons.1 ho').1 x hm
     unfold geB at hy
     have h2:0≤cmpS (Ap y) s:=by simpa using hy
     rw [hxs] at h1
     omega
  show (if Ap y=s then (y,(0:Int)) else (Ho,4)).2=0
  rw [if_pos e]
omit [Big F] in
theorem DD (t:DTree)(s:DSpot):ut F t s=(ww F t s).bind fun r1=>bif (r1.2 != 0) then some (DTree.mk 0 [],r1.2) else
 (vS F t).bind fun r2=>(HX F s (nlT r2) r2.root).bind fun z=>match z with | (z1,z2)=>(ym z1).bind fun l1=>some (DTree.mk z2 l1,0):=rfl
theorem BA {t:DTree}{h:Nat}{s:DSpot}(g:Good t h)(hs : ∃ x∈Ao t.nodes h t.root,Ap x=s) :
 ∃ t' h',ut F t s=some (t',0)∧Good t' h'∧Ao t'.nodes h' t'.root=(Ao t.nodes h t.root).filter (BG s):=by
 obtain⟨root,N,h1,h2,h',h3,h4⟩:=GE (F:=F) (sp:=s) g
 refine⟨⟨root,fN N⟩,h',?_,h3,h4⟩
 have hf:=GJ (El g) hs
 rw [DD,DT (Ck g) g,obs,hf,AG rfl,cond_false,Dp g.len g.chk,obs,h1,obs]
 dsimp only
 rw [h2,obs]
theorem H3 {l:List DElem}{r:Nat}{x:DElem}(ho:l.Pairwise SpO)(hx:l[r]? = some x):l.filter (BG (Ap x))=l.take r++l.drop (r+1):=by
 obtain⟨hr,he⟩:=ggs.1 hx
 have e:=Cs l hr
 rw [he] at e
 have hnx:BG (Ap x) x=false:=by unfold BG;simp
 have ho':=ho
 rw [e] at ho'
 obtain⟨o1,o2,o3⟩:=List.pairwise_append.1 ho'
 conv=>lhs;rw [e]
 rw [List.filter_append,List.filter_cons,if_neg (by rw [hnx];decide),Dh,Dh]
 · intro y hy hs
   have h1:cmpS (Ap x) (Ap y)<0:=(List.pairwise_cons.1 o2).1 y hy
   rw [hs,As.refl] at h1;omega
 · intro y hy hs
   have h1:cmpS (Ap y) (Ap x)<0:=o3 y hy x List.mem_cons_self
   rw [hs,As.refl] at h1;omega
theorem HE {l:List DElem}{x:DElem}(ho:l.Pairwise SpO)(hx:x∈l):(l.filter (BG (Ap x))).length+1=l.length:=by
 obtain⟨r,hr⟩:=List.mem_iff_getElem?.1 hx
 have:=(ggs.1 hr).1
 rw [H3 ho hr,List.length_append,List.length_take,List.length_drop];omega
theorem EJ {l:List DElem}{s:DSpot}{y:DElem}:y∈l.filter (BG s)↔y∈l∧Ap y≠s:=by
 rw [List.mem_filter]
 unfold BG
 simp
end Go.Proofs.Ytcmkdoahkncakaa
namespace Go.Proofs.Ytcmkdoahkncakaa
set_option linter.unusedVariables false
end Go.Proofs.Ytcmkdoahkncakaa
namespace Go.Proofs.Ytcmkdoahkncakaa
set_option linter.unusedVariables false
set_option linter.unusedSimpArgs false
variable {F:Nat} [Big F]
theorem HP {α:Type}[DecidableEq α](test:α→α→Bool)(ht : ∀ x y,test x y=true↔x=y)(p q:List α)(hp:p.length≤9223372036854775807) :
 (bif ((p.length:Int) != (q.length:Int)) then
  some false
 else
  (iter (σ:=Int) (ρ:=(Unit) ⊕ Bool) (fun x1 =>
   bif decide (x1<(p.length:Int)) then
    (idx p x1).bind fun e1 =>
    (idx q x1).bind fun e2 =>
    bif (!(test e1 e2)) then
     some (.inr (.inr false))
    else
     some (.inl (IntKind.i64.wrap (x1+1)))
    else
     some (.inr (.inl ()))) F 0).bind fun z=>match z with
  | .inl _ =>
   some true
  | .inr q=>some q)=some (decide (p=q)):=by
 by_cases hl:p.length=q.length
 · rw [show ((p.length:Int) != (q.length:Int))=false by rw [bne_eq_false_iff_eq];omega,cond_false]
   obtain⟨W,hW⟩ : ∃ W:Nat→α→Option (Unit ⊕ Bool),∀ k e,W k e=if q[k]? = some e then none else some (Sum.inr false):=⟨_,fun _ _=>rfl⟩
   rw [BN p W (Sum.inl ()) hp rfl (fun k e hk _=>?_) (by simp)]
   · by_cases he:p=q
     · subst he
       rw [B5.2 fun k e hk=>by rw [hW,if_pos hk],decide_eq_true rfl];rfl
     · rw [decide_eq_false he]
       cases hf:p.zipIdx.findSome? fun a=>W a.2 a.1 with
       | some r =>
        obtain⟨k,e,_,hr⟩:=CQ hf
        rw [hW] at hr
        split at hr
        · cases hr
        · obtain rfl:=Option.some.inj hr;rfl
       | none =>
        exfalso
        apply he
        rw [B5] at hf
        apply List.ext_getElem?
        intro k
        cases hk:p[k]? with
        | none=>rw [List.getElem?_eq_none_iff] at hk;rw [List.getElem?_eq_none (by omega)]
        | some e =>
         have:=hf k e hk
         rw [hW] at this
         split at this
         · rename_i h;exact h.symm
         · cases this
   · have hkl:=(ggs.1 hk).1
     have hq:q[k]? = some (q[k]'(by omega)):=gge (by omega)
     rw [decide_eq_true (by omega),cond_true,Ar,Ar,hk,hq,obs,obs,w64 (by omega) (by omega),hW]
     by_cases he:q[k]'(by omega)=e
     · rw [if_pos (by rw [hq,he]),(ht _ _).2 he.symm];rfl
     · have hf : test e (q[k]'(by omega)) = false := by
        cases hx:test e (q[k]'(by omega))
        · rfl
        · exact absurd ((ht _ _).1 hx).symm he
       rw [if_neg (by rw [hq];simpa using he),hf];rfl
 · rw [show ((p.length:Int) != (q.length:Int))=true by rw [bne_iff_ne];omega,cond_true,decide_eq_false (fun e=>hl (by rw [e]))]
theorem HO (p q:List DElem)(hp:p.length≤9223372036854775807):ui F p q=some (decide (p=q)):=HP (fun x y=>x == y) (fun x y=>by simp) p q hp
end Go.Proofs.Ytcmkdoahkncakaa
namespace Go.Proofs.Ytcmkdoahkncakaa
set_option linter.unusedVariables false
set_option linter.unusedSimpArgs false
variable {F:Nat} [Big F]
theorem F3 {n m:Int}(hm:0<m)(hn:m≤1000000):∃ r:Nat,uK n m=some (r:Int)∧(r:Int)<m:=by
 unfold uK xr
 have e1:IntKind.u64.wrap m=m:=by simp [IntKind.wrap,IntKind.bits,IntKind.signed];omega
 have e2:0≤IntKind.u64.wrap n:=by simp [IntKind.wrap,IntKind.bits,IntKind.signed];omega
 rw [e1,if_neg (by omega),obs]
 have h3:=Int.tmod_nonneg m e2
 have h4:=Int.tmod_lt_of_pos (IntKind.u64.wrap n) hm
 refine⟨((IntKind.u64.wrap n).tmod m).toNat,?_,by omega⟩
 rw [w64 (by omega) (by omega)]
 congr 1;omega
theorem GT {l:List DElem}(h : ¬ 400<l.length)(hb:Fz l=none):ofR l=(BK l,0):=by
 unfold ofR;rw [if_neg h,hb]
theorem of_eq {l:List DElem}(hl:l.length≤400)(ho : ∀ e∈l,Ay e=0)(hp:l.Pairwise SpO):vy F l=some (BK l):=by
 unfold vy
 rw [EW,obs,GT (by omega) (Ek.2 ⟨ho,hp⟩)]
theorem DH {t:DTree}{h:Nat}(hg:Good t h):∀ n∈t.nodes,Small n:=fun n hn=>BQ (hg.chk n hn)
theorem Hd {l:List DElem}(hl:l.length≤8)(ho : ∀ e∈l,Ay e=0)(hp:l.Pairwise SpO):Good (BK l) 0∧Ao (BK l).nodes 0 (BK l).root=l∧(BK l).nodes.length=1:=by
 obtain⟨h,hg,he,hn,h1,hm⟩:=EV (by omega) ho hp
 have h0:h=0:=by
  cases h with
  | zero=>rfl
  | succ h=>have:=hm 0 (by omega);rw [cN,Gf hl] at this;omega
 subst h0
 exact⟨hg,he,by rw [hn,sNk,cN,Gf hl]⟩
def Gr (off:Int)(v:ByteArray):DElem:=⟨⟨0,0,off⟩,1,0,v⟩
theorem HL (off:Int)(v:ByteArray):uN off v=some (Gr off v):=rfl
theorem HM {off:Int}{v:ByteArray}(h0:0≤off)(h1:off≤1000)(hv:v.size≤40):Ay (Gr off v)=0:=by
 unfold Ay Gr EX
 dsimp only
 rw [if_neg (by rw [if_neg (by omega)];simp),if_neg (by omega),if_neg (by omega)]
theorem HV {e:DElem}(h:Ay e=0):(∀ x∈[e],Ay x=0)∧[e].Pairwise SpO:=⟨fun x hx=>by rw [List.mem_singleton.1 hx];exact h,List.pairwise_singleton _ _⟩
theorem DS {l:List DElem}(h:l.length≤9223372036854775807):ui F l l=some true:=by rw [HO l l h];simp
end Go.Proofs.Ytcmkdoahkncakaa
namespace Go.Proofs.Ytcmkdoahkncakaa
set_option linter.unusedVariables false
set_option linter.unusedSimpArgs false
variable {F:Nat} [Big F]
theorem B7 (F:Nat)[Big F](t:DTree)(x:DElem)(i:Int)(ok:okTree t)(okx:okElem x)(oki:Bk .i64 i):uG F t x i=some true:=by
 have hs:=F0 ok
 have hca:Ay (Gr 1 (ByteArray.mk #[97]))=0:=HM (by decide) (by decide) (by decide)
 obtain⟨ho,hp⟩:=HV hca
 obtain⟨hg,he,hn⟩:=Hd (l:=[Gr 1 (ByteArray.mk #[97])]) (by simp) ho hp
 obtain⟨t1,h1,k1,k2,k3⟩:=BA (F:=F) (s:=Ap (Gr 1 (ByteArray.mk #[97]))) hg (by rw [he];exact⟨_,List.mem_cons_self,rfl⟩)
 have hr1:=(Da k2).range
 rw [Bh] at hr1
 unfold uG
 rw [HL,obs,of_eq (by simp) ho hp,obs,obs,Ax,obs,k1,obs]
 dsimp only
 rw [AG rfl,Bool.false_or,decide_eq_false (by omega),cond_false]
 by_cases hc:CX F t=0
 rotate_left
 · rw [ER hs hc,obs]
   dsimp only
   rw [Be hc,cond_true]
 obtain⟨h,g⟩:=B4.1 hc
 rw [Bv hs g,obs]
 dsimp only
 have hsm:=Cr g
 have hord:=El g
 have hok:=GW g
 rw [AG rfl,cond_false]
 have part1:((vh F t x).bind fun r7 =>
  (
   bif (r7.2 == 0) then
    (sV x).bind fun r8 =>
    (ut F r7.1 r8).bind fun r9 =>
    (vP F r9.1).bind fun r10 =>
    (
     bif (r9.2 != 0) then
      some true
      else
       bif (r10.2 != 0) then
        some true
       else
        (ui F r10.1 (Ao t.nodes h t.root)).bind fun r11 =>
        some (!r11):Option (Bool)).bind fun z1 =>
    bif z1 then
     some (.inr false)
    else
     some (.inl ())
    else
     some (.inl ()):Option ((Unit) ⊕ Bool)))=some (.inl ()):=by
  rcases Db (F:=F) hs x with ⟨e,he0,h1⟩ | ⟨h',t',h'',g',c1,c2,c3,c4,c5,c6⟩
  · rw [h1,obs]
    dsimp only
    rw [show (e == 0)=false by rw [beq_eq_false_iff_ne];exact he0,cond_false]
  · have hh : Ao t.nodes h' t.root = Ao t.nodes h t.root := by
     have h1:=Bv (F:=F) hs g'
     rw [Bv (F:=F) hs g] at h1
     exact(congrArg Prod.fst (Option.some.inj h1)).symm
    rw [hh] at c2 c3 c6
    obtain⟨t2,h2,d1,d2,d3⟩:=BA (F:=F) (s:=Ap x) c5 ⟨x,by rw [c6,Dg];exact .inl rfl,rfl⟩
    have d4:(Ef (Ao t.nodes h t.root) x).filter (BG (Ap x))=Ao t.nodes h t.root:=by
     refine DQ ((CG hord x).filter _) hord fun y=>?_
     rw [EJ,Dg]
     constructor
     · rintro⟨rfl | h1,h2⟩
       · exact absurd rfl h2
       · exact h1.1
     · intro hy
       have:=F8 c2 y hy
       exact⟨.inr ⟨hy,this⟩,this⟩
    rw [c6,d4] at d3
    rw [c4,obs]
    dsimp only
    rw [show ((0:Int) == 0)=true from rfl,cond_true,Ax,obs,d1,obs]
    dsimp only
    rw [Bv (DH d2) d2,d3,obs]
    dsimp only
    rw [AG rfl,cond_false,cond_false,DS (by omega),obs,Bool.not_true,obs,cond_false]
 have part2:(bif ((((Ao t.nodes h t.root).length:Int) == 0)||(decide ((400:Int)<((Ao t.nodes h t.root).length:Int)))) then
  some true
  else
   (uK i ((Ao t.nodes h t.root).length:Int)).bind fun r12 =>
   (idx (Ao t.nodes h t.root) r12).bind fun e1 =>
   (sV e1).bind fun r13 =>
   (ut F t r13).bind fun r14 =>
   (vh F r14.1 e1).bind fun r15 =>
   (vP F r15.1).bind fun r16 =>
   (
    bif (r14.2 == 0) then
     bif (r15.2 == 0) then
      bif (r16.2 == 0) then
       (ui F r16.1 (Ao t.nodes h t.root)).bind fun r17 =>
       some r17
      else
       some false
     else
      some false
     else
      some false:Option (Bool)).bind fun z2 =>
   some z2:Option Bool)=some true:=by
  by_cases h0:(Ao t.nodes h t.root).length=0
  · rw [h0];rfl
  by_cases h4:400<(Ao t.nodes h t.root).length
  · rw [decide_eq_true (by omega),Bool.or_true,cond_true]
  rw [show (((Ao t.nodes h t.root).length:Int) == 0)=false by rw [beq_eq_false_iff_ne];omega,Bool.false_or,decide_eq_false (by omega),cond_false]
  obtain⟨r,hr1,hr2⟩:=F3 (n:=i) (m:=((Ao t.nodes h t.root).length:Int)) (by omega) (by omega)
  obtain⟨y,hy⟩ : ∃ y,(Ao t.nodes h t.root)[r]? = some y:=⟨_,gge (by omega)⟩
  have hym:=List.mem_of_getElem? hy
  obtain⟨ta,ha,a1,a2,a3⟩:=BA (F:=F) g ⟨y,hym,rfl⟩
  have hla:=HE hord hym
  have hno:BZ y (Ao ta.nodes ha ta.root)=false:=by
   rw [a3,Bool.eq_false_iff]
   intro hh
   obtain⟨z,hz,hzs⟩:=EU.1 hh
   exact(EJ.1 hz).2 hzs
  obtain⟨tb,hb,b1,b2,b3⟩:=Cm (F:=F) a2 (hok y hym) hno (by rw [a3];omega)
  have b4:Ef ((Ao t.nodes h t.root).filter (BG (Ap y))) y=Ao t.nodes h t.root:=by
   refine DQ (CG (hord.filter _) y) hord fun z=>?_
   rw [Dg,EJ]
   constructor
   · rintro(rfl | ⟨⟨h1,_⟩,_⟩)
     · exact hym
     · exact h1
   · intro hz
     by_cases h:Ap z=Ap y
     · exact .inl (Hi hord hz hym h)
     · exact .inr ⟨⟨hz,h⟩,h⟩
  rw [a3,b4] at b3
  rw [hr1,obs,Ar,hy,obs,Ax,obs,a1,obs]
  dsimp only
  rw [b1,obs]
  dsimp only
  rw [Bv (DH b2) b2,b3,obs]
  dsimp only
  rw [show ((0:Int) == 0)=true from rfl,cond_true,cond_true,cond_true,DS (by omega),obs,obs]
 refine Eq.trans (Option.bind_assoc _ _ _).symm ?_
 refine Eq.trans (congrArg (fun q=>Option.bind q _) part1) ?_
 exact part2
end Go.Proofs.Ytcmkdoahkncakaa
namespace Go.Proofs.Ytcmkdoahkncakaa
open Go.RowKit
theorem Hf:ownKnob Try.prog.godebug=none:=by kernel_rfl
theorem GH:laidOutB Try.prog=true:=by kernel_rfl
theorem H7:AN Try.prog 26 Al okKey:=GC Try.underlying26 (by kernel_rfl) rfl (by kernel_rfl) (Bq Try.underlying3) rfl (by kernel_rfl) (Bq Try.underlying3) rfl (by kernel_rfl) (Bq Try.underlying3)
theorem H8:AN Try.prog 28 eElem okElem:=FR Try.underlying28 (by kernel_rfl) rfl (by kernel_rfl) H7 rfl (by kernel_rfl) (Bq Try.underlying3) rfl (by kernel_rfl) (Bq Try.underlying3) rfl (by kernel_rfl) (GD Try.underlying9)
theorem Id:AN Try.prog 34 (wF eElem) (Bz 56 okElem):=Cu Try.underlying34 (by kernel_rfl) (by kernel_rfl) H8
theorem H9:AN Try.prog 47 (wF pS) (Bz 8 (Bk .i64)):=Cu Try.underlying47 (by kernel_rfl) (by kernel_rfl) (Bq Try.underlying3)
theorem Ie:AN Try.prog 43 eSpot okSpot:=FT Try.underlying43 (by kernel_rfl) rfl (by kernel_rfl) H7 rfl (by kernel_rfl) (Bq Try.underlying3)
theorem Ig:AN Try.prog 95 (wF eSpot) (Bz 32 okSpot):=Cu Try.underlying95 (by kernel_rfl) (by kernel_rfl) Ie
theorem Ih:AN Try.prog 97 tC okNode:=QQ Try.underlying97 (by kernel_rfl) rfl (by kernel_rfl) (Bq Try.underlying3) rfl (by kernel_rfl) Id rfl (by kernel_rfl) H9 rfl (by kernel_rfl) Ig rfl (by kernel_rfl) H9
theorem Ib:AN Try.prog 22 (wF tC) (Bz 104 okNode):=Cu Try.underlying22 (by kernel_rfl) (by kernel_rfl) Ih
theorem Ic:AN Try.prog 24 vq okTree:=FU Try.underlying24 (by kernel_rfl) rfl (by kernel_rfl) (Bq Try.underlying3) rfl (by kernel_rfl) Ib
set_option maxRecDepth 100000
def orderSigns:List Char:=[.ofNat 104,.ofNat 97,.ofNat 114,.ofNat 110,.ofNat 101,.ofNat 115,.ofNat 115,.ofNat 32,.ofNat 99,.ofNat 101,.ofNat 99,.ofNat 102,.ofNat 54,.ofNat 48,.ofNat 102,.ofNat 51,.ofNat 55,.ofNat 50,.ofNat 101,.ofNat 51,.ofNat 100,.ofNat 49,.ofNat 52,.ofNat 50,.ofNat 50,.ofNat 55,.ofNat 56,.ofNat 55,.ofNat 56,.ofNat 48,.ofNat 54,.ofNat 102,.ofNat 57,.ofNat 56,.ofNat 52,.ofNat 57,.ofNat 100,.ofNat 99,.ofNat 53,.ofNat 97,.ofNat 51,.ofNat 52,.ofNat 52,.ofNat 55,.ofNat 100,.ofNat 55,.ofNat 51,.ofNat 53,.ofNat 56,.ofNat 54,.ofNat 102,.ofNat 102,.ofNat 51,.ofNat 49,.ofNat 50,.ofNat 100,.ofNat 57,.ofNat 100,.ofNat 102,.ofNat 55,.ofNat 50,.ofNat 99,.ofNat 53,.ofNat 101,.ofNat 54,.ofNat 50,.ofNat 55,.ofNat 100,.ofNat 54,.ofNat 55,.ofNat 55,.ofNat 101,.ofNat 32,.ofNat 99,.ofNat 117,.ofNat 116,.ofNat 32,.ofNat 97,.ofNat 116,.ofNat 32,.ofNat 97,.ofNat 110,.ofNat 110,.ofNat 97,.ofNat 108,.ofNat 105,.ofNat 115,.ofNat 116,.ofNat 47,.ofNat 97,.ofNat 110,.ofNat 110,.ofNat 97,.ofNat 108,.ofNat 107,.ofNat 101,.ofNat 101,.ofNat 112,.ofNat 46,.ofNat 71,.ofNat 114,.ofNat 111,.ofNat 119,.ofNat 83,.ofNat 101,.ofNat 116,.ofNat 115,.ofNat 32,.ofNat 97,.ofNat 110,.ofNat 110,.ofNat 97,.ofNat 108,.ofNat 105,.ofNat 115,.ofNat 116,.ofNat 47,.ofNat 97,.ofNat 110,.ofNat 110,.ofNat 97,.ofNat 108,.ofNat 107,.ofNat 101,.ofNat 101,.ofNat 112,.ofNat 46,.ofNat 83,.ofNat 104,.ofNat 114,.ofNat 105,.ofNat 110,.ofNat 107,.ofNat 83,.ofNat 111,.ofNat 109,.ofNat 101,.ofNat 32,.ofNat 97,.ofNat 110,.ofNat 110,.ofNat 97,.ofNat 108,.ofNat 105,.ofNat 115,.ofNat 116,.ofNat 47,.ofNat 97,.ofNat 110,.ofNat 110,.ofNat 97,.ofNat 108,.ofNat 107,.ofNat 101,.ofNat 101,.ofNat 112,.ofNat 46,.ofNat 83,.ofNat 104,.ofNat 114,.ofNat 105,.ofNat 110,.ofNat 107,.ofNat 65,.ofNat 108,.ofNat 108,.ofNat 32,.ofNat 97,.ofNat 110,.ofNat 110,.ofNat 97,.ofNat 108,.ofNat 105,.ofNat 115,.ofNat 116,.ofNat 47,.ofNat 97,.ofNat 110,.ofNat 110,.ofNat 97,.ofNat 108,.ofNat 107,.ofNat 101,.ofNat 101,.ofNat 112,.ofNat 46,.ofNat 80,.ofNat 114,.ofNat 117,.ofNat 110,.ofNat 101,.ofNat 83,.ofNat 116,.ofNat 101,.ofNat 112,.ofNat 115,.ofNat 32,.ofNat 97,.ofNat 110,.ofNat 110,.ofNat 97,.ofNat 108,.ofNat 105,.ofNat 115,.ofNat 116,.ofNat 47,.ofNat 97,.ofNat 110,.ofNat 110,.ofNat 97,.ofNat 108,.ofNat 107,.ofNat 101,.ofNat 101,.ofNat 112,.ofNat 46,.ofNat 71,.ofNat 114,.ofNat 111,.ofNat 119,.ofNat 79,.ofNat 114,.ofNat 100,.ofNat 101,.ofNat 114,.ofNat 115,.ofNat 32,.ofNat 97,.ofNat 110,.ofNat 110,.ofNat 97,.ofNat 108,.ofNat 105,.ofNat 115,.ofNat 116,.ofNat 47,.ofNat 97,.ofNat 110,.ofNat 110,.ofNat 97,.ofNat 108,.ofNat 107,.ofNat 101,.ofNat 101,.ofNat 112,.ofNat 46,.ofNat 84,.ofNat 114,.ofNat 101,.ofNat 101,.ofNat 69,.ofNat 109,.ofNat 112,.ofNat 116,.ofNat 121,.ofNat 32,.ofNat 97,.ofNat 110,.ofNat 110,.ofNat 97,.ofNat 108,.ofNat 105,.ofNat 115,.ofNat 116,.ofNat 47,.ofNat 97,.ofNat 110,.ofNat 110,.ofNat 97,.ofNat 108,.ofNat 107,.ofNat 101,.ofNat 101,.ofNat 112,.ofNat 46,.ofNat 71,.ofNat 114,.ofNat 111,.ofNat 119,.ofNat 77,.ofNat 97,.ofNat 110,.ofNat 121,.ofNat 32,.ofNat 97,.ofNat 110,.ofNat 110,.ofNat 97,.ofNat 108,.ofNat 105,.ofNat 115,.ofNat 116,.ofNat 47,.ofNat 97,.ofNat 110,.ofNat 110,.ofNat 97,.ofNat 108,.ofNat 107,.ofNat 101,.ofNat 101,.ofNat 112,.ofNat 46,.ofNat 84,.ofNat 114,.ofNat 101,.ofNat 101,.ofNat 70,.ofNat 117,.ofNat 108,.ofNat 108,.ofNat 32,.ofNat 97,.ofNat 110,.ofNat 110,.ofNat 97,.ofNat 108,.ofNat 105,.ofNat 115,.ofNat 116,.ofNat 47,.ofNat 97,.ofNat 110,.ofNat 110,.ofNat 97,.ofNat 108,.ofNat 107,.ofNat 101,.ofNat 101,.ofNat 112,.ofNat 46,.ofNat 71,.ofNat 114,.ofNat 111,.ofNat 119,.ofNat 83,.ofNat 104,.ofNat 114,.ofNat 105,.ofNat 110,.ofNat 107,.ofNat 115,.ofNat 32,.ofNat 97,.ofNat 110,.ofNat 110,.ofNat 97,.ofNat 108,.ofNat 105,.ofNat 115,.ofNat 116,.ofNat 47,.ofNat 97,.ofNat 110,.ofNat 110,.ofNat 97,.ofNat 108,.ofNat 107,.ofNat 101,.ofNat 101,.ofNat 112,.ofNat 46,.ofNat 87,.ofNat 114,.ofNat 105,.ofNat 116,.ofNat 101,.ofNat 80,.ofNat 97,.ofNat 115,.ofNat 116,.ofNat 32,.ofNat 97,.ofNat 110,.ofNat 110,.ofNat 97,.ofNat 108,.ofNat 105,.ofNat 115,.ofNat 116,.ofNat 47,.ofNat 97,.ofNat 110,.ofNat 110,.ofNat 97,.ofNat 108,.ofNat 107,.ofNat 101,.ofNat 101,.ofNat 112,.ofNat 46,.ofNat 87,.ofNat 114,.ofNat 105,.ofNat 116,.ofNat 101,.ofNat 83,.ofNat 97,.ofNat 109,.ofNat 101]
theorem FV : Try.prog.initOrder = "harness cecf60f372e3d1422787806f9849dc5a3447d73586ff312d9df72c5e627d677e cut at annalist/annalkeep.GrowSets annalist/annalkeep.ShrinkSome annalist/annalkeep.ShrinkAll annalist/annalkeep.PruneSteps annalist/annalkeep.GrowOrders annalist/annalkeep.TreeEmpty annalist/annalkeep.GrowMany annalist/annalkeep.TreeFull annalist/annalkeep.GrowShrinks annalist/annalkeep.WritePast annalist/annalkeep.WriteSame" := by kernel_rfl
theorem Fp : ("harness cecf60f372e3d1422787806f9849dc5a3447d73586ff312d9df72c5e627d677e cut at annalist/annalkeep.GrowSets annalist/annalkeep.ShrinkSome annalist/annalkeep.ShrinkAll annalist/annalkeep.PruneSteps annalist/annalkeep.GrowOrders annalist/annalkeep.TreeEmpty annalist/annalkeep.GrowMany annalist/annalkeep.TreeFull annalist/annalkeep.GrowShrinks annalist/annalkeep.WritePast annalist/annalkeep.WriteSame" : String) = String.ofList orderSigns := by kernel_rfl
theorem C5:Try.prog.initOrder.toList=orderSigns:=by rw [FV,Fp];exact String.toList_ofList
theorem Hz (P:Program)(h:P.initOrder.toList=orderSigns):P.make=some .cut:=by
 unfold Program.make Program.headLifts
 rw [h]
 kernel_rfl
theorem Ha (P:Program)(h:P.initOrder.toList=orderSigns):P.liftsFinal=false:=by
 unfold Program.liftsFinal Program.headLifts
 rw [h]
 kernel_rfl
theorem GX (P:Program)(h:P.initOrder.toList=orderSigns)(h1:P.laysLater=false)(h2:P.bearsReflect=false)(h3:P.doorFits []=true):P.mayEnter=true:=by
 unfold Program.mayEnter
 rw [h,h1,h2]
 have e:(stripLifts liftWords (behindMainWord (wordsSigns orderSigns))).1=[]:=by kernel_rfl
 have e0 : behindMainWord (wordsSigns orderSigns) = "cut".toList :: (behindMainWord (wordsSigns orderSigns)).tail := by kernel_rfl
 rw [e0] at e ⊢
 dsimp only
 rw [e,h3]
 clear h h1 h2 h3
 change _=true
 kernel_rfl
theorem GI:Try.prog.make=some .cut:=Hz _ C5
theorem FZ:Try.prog.liftsFinal=false:=Ha _ C5
theorem FY:Try.prog.mayEnter=true:=GX _ C5 (by kernel_rfl) (by kernel_rfl) (by kernel_rfl)
end Go.Proofs.Ytcmkdoahkncakaa
