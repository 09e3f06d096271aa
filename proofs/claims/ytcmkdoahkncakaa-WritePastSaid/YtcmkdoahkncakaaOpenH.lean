/- Pure functions of group Look. Conditions: none. -/
import Derived.Test.YtcmkdoahkncakaaTreeFH
import Derived.Test.YtcmkdoahkncakaaRecH
import Derived.Test.YtcmkdoahkncakaaMapH
import Derived.Test.YtcmkdoahkncakaaCpFH
import Derived.Test.YtcmkdoahkncakaaTreeOH
import Derived.Test.YtcmkdoahkncakaaInsH
import Derived.Test.YtcmkdoahkncakaaPRemH
import Derived.Test.YtcmkdoahkncakaaRangeH
import Derived.Test.YtcmkdoahkncakaaPTreeH
import Derived.Test.YtcmkdoahkncakaaPastAFH
import Derived.Test.YtcmkdoahkncakaaPRunH
import Derived.Test.YtcmkdoahkncakaaWrHFH
import Derived.Test.YtcmkdoahkncakaaWrPFH
import Derived.Test.YtcmkdoahkncakaaWrCFH
import Derived.Test.YtcmkdoahkncakaaKeyFH
import Derived.Test.YtcmkdoahkncakaaBuildFH
import Derived.Test.YtcmkdoahkncakaaPLoopH
import Derived.Test.YtcmkdoahkncakaaWWritePastFH
import Derived.Test.YtcmkdoahkncakaaRows
import Derived.Test.YtcmkdoahkncakaaLawH
namespace Go.Proofs.Ytcmkdoahkncakaa
set_option linter.unusedSimpArgs false
set_option linter.unusedVariables false
section

end
section

end
section

end
section
variable {F:Nat} [Big F]
theorem I0 {n:DNode}(h:DS n=0):Ag n=some n:=by
 obtain⟨h1,h2⟩:=ES h
 have h3:n.seps.length≤8∧n.tids.length≤8:=by
  rcases DV.1 h with h | h | h
  · rw [h.2.2.2.1,h.2.2.2.2];simp
  · rw [h.2.seps,h.2.tids];simp
  · have:=h.2.seps;have:=h.2.tids;omega
 unfold Ag
 rw [DN (by simp;omega) (by simp;omega),obs,DN (by simp;omega) (by simp;omega),obs,DN (by simp;omega) (by simp;omega),obs,DN (by simp;omega) (by simp;omega),obs]
 rfl
theorem Hx {N:NL}(h : ∀(j:Nat) (k:Int),N[j]?≠some (.inl k)):Bh N=some (fN N):=by
 have e:N=(fN N).map Sum.inr:=List.ext_getElem? fun j=>by
  rw [List.getElem?_map,F9]
  cases hj:N[j]? with
  | none=>rfl
  | some x =>
   cases x with
   | inl k=>exact absurd hj (h j k)
   | inr n=>rfl
 conv=>lhs;rw [e]
 exact Dc _
theorem Fq {t:DTree}(hl:t.nodes.length≤400)(hc : ∀ n∈t.nodes,DS n=0):yS F t=some t:=by
 unfold yS
 rw [D7 (fun k=>((t.nodes.take k).map (Sum.inr:DNode→Int ⊕ DNode),(k:Int))) t.nodes.length (by simp) (by omega) (fun k hk=>?_) (r:=t.nodes.map Sum.inr) ?_,obs,Dc,obs]
 · dsimp only
   rw [decide_eq_false (by omega),cond_false,List.take_length]
 · have hg:t.nodes[k]? = some t.nodes[k]:=gge hk
   have hr:BP 104 (((t.nodes.take k).map (Sum.inr:DNode→Int ⊕ DNode)).length+1)=some ():=by
    unfold BP;rw [List.length_map,List.length_take,if_pos ⟨by omega,by unfold maxLen;omega⟩]
   dsimp only
   rw [decide_eq_true (by omega),cond_true,DA,hg,obs,I0 (hc _ (List.getElem_mem _)),obs,hr,obs,w64 (by omega) (by omega),List.take_add_one,hg,List.map_append]
   rfl
def nlT (t:DTree):NL:=t.nodes.map Sum.inr
theorem Eb (t:DTree):fN (nlT t)=t.nodes:=MB _
theorem Hl {t:DTree}{j:Nat}{x:Int ⊕ DNode}(h:(nlT t)[j]? = some x):∃ n,t.nodes[j]? = some n∧x = .inr n:=by
 unfold nlT at h
 rw [List.getElem?_map] at h
 obtain⟨n,hn,rfl⟩:=Option.map_eq_some_iff.1 h
 exact⟨n,hn,rfl⟩
theorem HJ {t:DTree}{h:Nat}(g:Good t h):Em (nlT t):=fun n hn=>by rw [Eb] at hn;exact g.chk n hn
theorem Gb {t:DTree}{h:Nat}(g:Good t h):DJ (fN (nlT t)) h t.root (mOf 0 h) topS:=by
 rw [Eb];exact(HE g.chk h t.root 0 topS (Int.le_refl _)).1 g.ok
theorem Jq {α:Type}{p:α→Bool}:∀ {N:List α} {K:List Nat},K.Nodup→(∀(j:Nat) (x:α),N[j]? = some x→p x=true→j∈K)→N.countP p≤K.length
 | [],K,_,_=>Nat.zero_le _
 | a::N,K,hn,h=>by
  have hK : ∀(j:Nat) (x:α),N[j]? = some x→p x=true→j∈(K.filter (fun j=>j != 0)).map (· - 1):=fun j x hx hp =>
   List.mem_map.2 ⟨j+1,List.mem_filter.2 ⟨h (j+1) x (by simpa using hx) hp,by simp⟩,by simp⟩
  have hnd:((K.filter (fun j=>j != 0)).map (· - 1)).Nodup:=by
   unfold List.Nodup
   rw [List.pairwise_map]
   refine((hn.filter _).imp_of_mem fun {a b} ha hb hab e=>hab ?_)
   have h1:=(List.mem_filter.1 ha).2
   have h2:=(List.mem_filter.1 hb).2
   simp only [bne_iff_ne,ne_eq] at h1 h2
   omega
  have ih:=Jq hnd hK
  rw [List.length_map] at ih
  rw [List.countP_cons]
  by_cases hp:p a=true
  · have h0:0∈K:=h 0 a rfl hp
    have hlt:(K.filter (fun j=>j != 0)).length<K.length:=List.length_filter_lt_length_iff_exists.2 ⟨0,h0,by simp⟩
    rw [if_pos hp];omega
  · have:=List.length_filter_le (fun j=>j != 0) K
    rw [if_neg hp];omega
theorem K2 {t:DTree}{h:Nat}(g:Good t h):used (nlT t)≤(ids t.nodes h t.root).length:=by
 refine Jq g.nodup fun j x hx hp=>?_
 obtain⟨n,hn,rfl⟩:=Hl hx
 have hlt:=(ggs.1 hn).1
 exact g.all j hlt (by rw [G7 hn];exact Fc.1 hp)
theorem Ma {ns:List DNode}(hns : ∀ n∈ns,DS n=0):∀ {h:Nat} {i:Int} {s:Span},DJ ns h i 4 s→3*(ids ns h i).length+1≤(Dx ns h i).length:=by
 intro h
 induction h with
 | zero =>
  intro i s c
  have:=c.2.2.1
  simp only [ids,Dx,List.length_singleton];omega
 | succ h ih =>
  intro i s c
  rw [ids,Dx,List.length_cons,List.length_flatMap,List.length_flatMap]
  have key : ∀ l:List Int,(∀ k∈l,3*(ids ns h k).length+1≤(Dx ns h k).length)→3*(l.map fun a=>(ids ns h a).length).sum+l.length≤(l.map fun a=>(Dx ns h a).length).sum:=by
   intro l
   induction l with
   | nil=>intro _;simp
   | cons a l ihl =>
    intro hk
    have:=ihl fun k h=>hk k (List.mem_cons_of_mem _ h)
    have:=hk a List.mem_cons_self
    simp only [List.map_cons,List.sum_cons,List.length_cons];omega
  have:=key (nd ns i).kids fun k hk=>by obtain ⟨t,s',x,_⟩:=c.2.2.2.mem k hk;exact ih x.1
  have:=c.2.2.1
  omega
theorem LE {t:DTree}{h:Nat}(g:Good t h)(hl:(Dx t.nodes h t.root).length≤400):(ids t.nodes h t.root).length≤134∧h<134:=by
 have hh:=GM g.chk h t.root 0 topS g.ok
 have c:=Gb g
 rw [Eb] at c
 have:(ids t.nodes h t.root).length≤134:=by
  cases h with
  | zero=>simp [ids]
  | succ h =>
   have key : ∀ l:List Int,(∀ k∈l,3*(ids t.nodes h k).length+1≤(Dx t.nodes h k).length)→3*(l.map fun a=>(ids t.nodes h a).length).sum+l.length≤(l.map fun a=>(Dx t.nodes h a).length).sum:=by
    intro l
    induction l with
    | nil=>intro _;simp
    | cons a l ihl =>
     intro hk
     have:=ihl fun k h=>hk k (List.mem_cons_of_mem _ h)
     have:=hk a List.mem_cons_self
     simp only [List.map_cons,List.sum_cons,List.length_cons];omega
   have h1:=key (nd t.nodes t.root).kids fun k hk=>by obtain ⟨t',s',x,_⟩:=c.2.2.2.mem k hk;exact Ma g.chk x.1
   have h2:2≤(nd t.nodes t.root).kids.length:=by have:=c.2.2.1;unfold mOf at this;simpa using this
   rw [Dx,List.length_flatMap] at hl
   rw [ids,List.length_cons,List.length_flatMap]
   omega
 omega
theorem HB {N:NL}{h:Nat}{root:Int}(hc:Em N)(hl:N.length≤400)(c:DJ (fN N) h root (mOf 0 h) topS)(hn:(ids (fN N) h root).Nodup)(hall : ∀(j:Nat) (x:Int ⊕ DNode),N[j]? = some x→Ce x≠0→j∈ids (fN N) h root):Good ⟨root,fN N⟩ h:=by
 refine⟨by show (fN N).length≤400;rw [DD];exact hl,hc,(HE hc h root 0 topS (Int.le_refl _)).2 c,hn,fun i hi hk=>?_⟩
 have hi' : i<(fN N).length:=hi
 rw [DD] at hi'
 have hg:N[i]? = some N[i]:=gge hi'
 refine hall i _ hg fun h0=>hk ?_
 have:nd (fN N) (i:Int)=fN1 N[i]:=by unfold nd;rw [Int.toNat_natCast,F9,hg];rfl
 rw [this]
 cases hx:N[i] with
 | inl k=>rfl
 | inr n=>rw [hx] at h0;exact h0
theorem MF (d:Int)(h:Nat):mOf d h≤4:=by
 unfold mOf
 split
 · exact Nat.le_refl _
 · split <;> omega
theorem JE {t:DTree}{h:Nat}(g:Good t h){N' : NL}{K:List Nat}{c:Nat}(f:Fr2 (nlT t) N' (ids (fN (nlT t)) h t.root) K c)(hK : ∀ j∈K,∃ n:DNode,N'[j]? = some (.inr n)∧n.kind≠0):∀(j:Nat) (k:Int),N'[j]?≠some (.inl k):=fun j k hj=>by
 have hold : ∀(j:Nat) (x:Int ⊕ DNode),(nlT t)[j]? = some x→Ce x≠0→j∈ids (fN (nlT t)) h t.root:=fun j x hx hk=>by
  obtain⟨n,hn,rfl⟩:=Hl hx
  rw [Eb]
  exact g.all j (ggs.1 hn).1 (by rw [G7 hn];exact hk)
 by_cases hk:k=0
 · subst hk
   obtain⟨n,_,h⟩:=Hl (f.zero j hj)
   cases h
 · rcases f.all j _ hj hk with h | ⟨h,y,hy,hyk⟩
   · obtain⟨n,hn,_⟩:=hK j h
     rw [hn] at hj;cases hj
   · exact h (hold j y hy hyk)
theorem KG {t:DTree}{h:Nat}(g:Good t h){N' : NL}{K:List Nat}{c:Nat}(f:Fr2 (nlT t) N' (ids (fN (nlT t)) h t.root) K c):∀(j:Nat) (x:Int ⊕ DNode),N'[j]? = some x→Ce x≠0→j∈K:=fun j x hx hk=>by
 rcases f.all j x hx hk with h | ⟨h,y,hy,hyk⟩
 · exact h
 · obtain⟨n,hn,rfl⟩:=Hl hy
   exact absurd (by rw [Eb];exact g.all j (ggs.1 hn).1 (by rw [G7 hn];exact hyk)) h
theorem KX {t:DTree}{h:Nat}{e:DElem}(g:Good t h)(he:DG e=0)(hne : ∀ x∈Dx t.nodes h t.root,Dy x≠Dy e)(hl:(Dx t.nodes h t.root).length≤400) :
 ∃(root:Int) (N:NL),Lo F e (nlT t) t.root=some (root,N)∧Bh N=some (fN N)∧∃ h',Good ⟨root,fN N⟩ h'∧Dx (fN N) h' root=Kb (Dx t.nodes h t.root) e:=by
 obtain⟨f1,f2⟩:=LE g hl
 have hu:=K2 g
 have hF:=(inferInstance:Big F).le
 have c:=Gb g
 have hsort:=(Er g.chk h t.root 0 topS g.ok).1
 have hlen:(nlT t).length≤400:=by unfold nlT;rw [List.length_map];exact g.len
 obtain⟨N',sp,r,b,hrun,hpost⟩:=LH (F:=F) he h F (nlT t) t.root (mOf 0 h) topS (by omega) (HJ g) hlen (by omega) c (by rw [Eb];exact g.nodup) rfl (by rw [Eb];exact hne)
 have sorted : ∀ {ns:List DNode} {h' : Nat} {root:Int},Good ⟨root,ns⟩ h'→(∀ x,x∈Dx ns h' root↔x=e∨x∈Dx t.nodes h t.root)→Dx ns h' root=Kb (Dx t.nodes h t.root) e:=fun {ns h' root} gg hm=>by
  refine I9 (Er gg.chk h' root 0 topS gg.ok).1 (Ht hsort e) fun x=>?_
  rw [hm x,JC]
  constructor
  · rintro(h | h)
    · exact .inl h
    · exact .inr ⟨h,hne x h⟩
  · rintro(h | h)
    · exact .inl h
    · exact .inr h.1
 unfold Lo
 rw [hrun,obs]
 dsimp only
 rcases hpost with ⟨rfl,P⟩ | ⟨rfl,hsp,P⟩
 · obtain⟨k,t',e1,e2,x⟩:=P.ch
   obtain rfl:t.root=k:=by simpa using e1
   have hK : [t.root].flatMap (ids (fN N') h)=ids (fN N') h t.root:=List.flatMap_singleton ..
   have fr:=P.fr
   rw [hK] at fr
   have hcap:N'.length≤400:=by have:=fr.cap;have:=fr.use;omega
   have gg:=HB fr.chk hcap x.1 fr.nodup (KG g fr)
   refine⟨t.root,N',rfl,Hx (JE g fr x.1.used),h,gg,sorted gg fun y=>?_⟩
   have:=P.elems y
   rw [List.flatMap_singleton,Eb] at this
   exact this
 · obtain⟨k,ks',t',ts',e1,e2,i1,x,k2,t2,e3,e4,y⟩:=P.ch
   obtain⟨rfl,rfl⟩ : t.root=k∧[r]=ks':=by simpa using e1
   obtain rfl:r=k2:=by simpa using e3
   have hK : [t.root,r].flatMap (ids (fN N') h)=ids (fN N') h t.root++ids (fN N') h r:=by simp
   have fr:=P.fr
   rw [hK] at fr
   have hcap:N'.length≤400:=by have:=fr.cap;have:=fr.use;omega
   have hKu : ∀ q∈ids (fN N') h t.root++ids (fN N') h r,∃ n:DNode,N'[q]? = some (.inr n)∧n.kind≠0:=fun q hq=>by
    rcases List.mem_append.1 hq with hq | hq
    · exact x.1.used q hq
    · exact y.1.used q hq
   obtain⟨N2,j,hT,tk⟩:=JW (F:=F) (N:=N') ⟨2,[],[t.root,r],[sp],[DE (nd (fN N') t.root),DE (nd (fN N') r)]⟩ (by omega)
   have cc:Ch (GW (fN N') h) [sp] topS [t.root,r] [DE (nd (fN N') t.root),DE (nd (fN N') r)]:=⟨t.root,[r],_,_,rfl,rfl,i1,⟨x.1,rfl⟩,r,_,rfl,rfl,⟨y.1,rfl⟩⟩
   have hck:=D1 (n:=⟨2,[],[t.root,r],[sp],[DE (nd (fN N') t.root),DE (nd (fN N') r)]⟩) rfl (EP fr.chk hcap cc (by simp) (by simp) (List.pairwise_singleton _ _) (by simpa using hsp))
   have fr2:=fr.take tk (Ho _ _ _ _) hck fun q hq=>by obtain ⟨n,hn,hk⟩:=hKu q hq;exact⟨_,hn,hk⟩
   have hlen2:N'.length≤N2.length:=by rcases tk.len with h | ⟨h,_⟩ <;> omega
   have hjK : ∀ q∈ids (fN N') h t.root++ids (fN N') h r,N2[q]? = N'[q]?:=fun q hq=>tk.same q fun e=>by
    subst e
    obtain⟨n,hn,hk⟩:=hKu q hq
    exact absurd (tk.free _ hn) hk
   obtain⟨a1,a2,a3⟩:=En hlen2 cc fun q hq=>hjK q (by rw [hK] at hq;exact hq)
   have hnd:nd (fN N2) (j:Int)=⟨2,[],[t.root,r],[sp],[DE (nd (fN N') t.root),DE (nd (fN N') r)]⟩:=F3 (by rw [Int.toNat_natCast];exact tk.at_)
   have hjl:j<N2.length:=(ggs.1 tk.at_).1
   have hids:ids (fN N2) (h+1) (j:Int)=j::(ids (fN N') h t.root++ids (fN N') h r):=by
    rw [ids,hnd,Int.toNat_natCast]
    show j::[t.root,r].flatMap _=_
    rw [a2,hK]
   have sub:DJ (fN N2) (h+1) (j:Int) (mOf 0 (h+1)) topS:=⟨by rw [DD];omega,by rw [hnd],by rw [hnd];unfold mOf;simp,by rw [hnd];exact a1⟩
   rw [← hids] at fr2
   have hcap2:N2.length≤400:=by have:=fr2.cap;have:=fr2.use;omega
   have gg:=HB fr2.chk hcap2 sub fr2.nodup (KG g fr2)
   refine⟨(j:Int),N2,?_,Hx (JE g fr2 sub.used),h+1,gg,sorted gg fun z=>?_⟩
   · rw [Bool.not_true,cond_false,x.1.node.1,obs,y.1.node.1,obs,D9 fr.chk x.1.range,obs,D9 fr.chk y.1.range,obs,Ja,hT,obs]
   · have:=P.elems z
     rw [Eb] at this
     rw [← this,Dx,hnd]
     show z∈[t.root,r].flatMap _↔_
     rw [a3]
theorem HH {t:DTree}{h:Nat}{e:DElem}(g:Good t h)(he:DG e=0) :
 ∃ N:NL,Ae (GB F e) F (nlT t,t.root)=some N∧Bh N=some (fN N)∧Good ⟨t.root,fN N⟩ h∧Dx (fN N) h t.root=(Dx t.nodes h t.root).map (EH e):=by
 have hF:=(inferInstance:Big F).le
 have hh:=EZ g
 obtain⟨N,hrun,P⟩:=Lt (F:=F) he h F (nlT t) t.root (mOf 0 h) topS (by omega) (HJ g) (Gb g) (by rw [Eb];exact g.nodup) rfl
 have hn:(ids (fN N) h t.root).Nodup:=by rw [P.ids,Eb];exact g.nodup
 have hin : ∀(j:Nat) (x:Int ⊕ DNode),N[j]? = some x→(∃ n,x = .inr n)∧(Ce x≠0→j∈ids (fN N) h t.root):=fun j x hx=>by
  by_cases hj:j∈ids (fN N) h t.root
  · obtain⟨n,hn,_⟩:=P.sub.used j hj
    rw [hn] at hx
    exact⟨⟨n,(Option.some.inj hx).symm⟩,fun _=>hj⟩
  · rw [P.out j (by rw [← P.ids];exact hj)] at hx
    obtain⟨n,hn,rfl⟩:=Hl hx
    exact⟨⟨n,rfl⟩,fun hk=>by
     rw [P.ids,Eb]
     exact g.all j (ggs.1 hn).1 (by rw [G7 hn];exact hk)⟩
 refine⟨N,hrun,Hx fun j k hj=>?_,HB P.chk ?_ P.sub hn fun j x hx=>(hin j x hx).2,?_⟩
 · obtain⟨⟨n,hn⟩,_⟩:=hin j _ hj
   cases hn
 · rw [P.len];unfold nlT;rw [List.length_map];exact g.len
 · rw [P.elems,Eb]
theorem K0 {α β:Type}(f:α→List β){l:List α}{k:Nat}(hk:k<l.length):(l.take (k+1)).flatMap f=(l.take k).flatMap f++f l[k]∧((l.take k).flatMap f).length+(f l[k]).length≤(l.flatMap f).length:=by
 have h1:(l.take (k+1)).flatMap f=(l.take k).flatMap f++f l[k]:=by
  rw [List.take_add_one,gge hk,List.flatMap_append];simp
 refine⟨h1,?_⟩
 have h2:l.flatMap f=(l.take (k+1)).flatMap f++(l.drop (k+1)).flatMap f:=by rw [← List.flatMap_append,List.take_append_drop]
 rw [h2,h1,List.length_append,List.length_append];omega
theorem Im {t:DTree}{h:Nat}(g:Good t h):∀ n∈t.nodes,Small n:=fun n hn=>Ex (g.chk n hn)
def zT:DTree:=⟨0,[]⟩
end
section

end
end Go.Proofs.Ytcmkdoahkncakaa
namespace Go.Proofs.Ytcmkdoahkncakaa
set_option linter.unusedVariables false
set_option linter.unusedSimpArgs false
section walks
variable {τ α β:Type} {F:Nat}
def D0 (t:τ→α→τ × Nat):List α→τ→τ × Nat
 | [],a=>(a,0)
 | e::l,a=>if (t a e).2=0 then D0 t l (t a e).1 else t a e
theorem EM (t:τ→α→τ × Nat):∀(l m:List α) (a:τ),D0 t (l++m) a=if (D0 t l a).2=0 then D0 t m (D0 t l a).1 else D0 t l a
 | [],m,a=>by simp [D0]
 | e::l,m,a=>by
  rw [List.cons_append,D0,D0]
  by_cases h:(t a e).2=0
  · rw [if_pos h,if_pos h,EM t l m]
  · rw [if_neg h,if_neg h,if_neg h]
theorem FB (t:τ→α→τ × Nat)(p:α→Bool):∀(l:List α) (a:τ),D0 (fun st e=>if p e then t st e else (st,0)) l a=D0 t (l.filter p) a
 | [],a=>rfl
 | e::l,a=>by
  rw [D0]
  by_cases h:p e=true
  · rw [if_pos h,List.filter_cons_of_pos h,D0]
    by_cases h0:(t a e).2=0
    · rw [if_pos h0,if_pos h0,FB t p l]
    · rw [if_neg h0,if_neg h0]
  · rw [if_neg h,if_pos rfl,List.filter_cons_of_neg h,FB t p l]
theorem Fp (t:τ→α→τ × Nat)(g:β→List α):∀(l:List β) (a:τ),D0 (fun st k=>D0 t (g k) st) l a=D0 t (l.flatMap g) a
 | [],a=>rfl
 | b::l,a=>by
  rw [D0,List.flatMap_cons,EM,Fp t g l]
theorem HU (t:τ→α→τ × Nat)(len:τ→Nat)(ht : ∀ a e,len (t a e).1≤len a+1):∀(l:List α) (a:τ),len (D0 t l a).1≤len a+l.length
 | [],a=>Nat.le_refl _
 | e::l,a=>by
  rw [D0,List.length_cons]
  have h1:=ht a e
  by_cases h:(t a e).2=0
  · rw [if_pos h]
    have:=HU t len ht l (t a e).1
    omega
  · rw [if_neg h];omega
theorem Gu {S R:Type}[Big F]{f:S→Option (S ⊕ R)}(t:τ→α→τ × Nat)(l:List α)(enc:τ→Int→S)(o0:τ→R)(o1:τ→Nat→R)(a:τ)(hn:l.length≤9223372036854775807){s:S}(h0:s=enc a 0)
 (hs : ∀(k:Nat) (e:α) (st:τ),l[k]? = some e→D0 t (l.take k) a=(st,0)→f (enc st (k:Int))=some (xy (t st e).2 (.inl (enc (t st e).1 ((k:Int)+1))) (fun n=>.inr (o1 (t st e).1 n))))
 (he : ∀ st,D0 t l a=(st,0)→f (enc st (l.length:Int))=some (.inr (o0 st))) :
 iter f F s=some (xy (D0 t l a).2 (o0 (D0 t l a).1) (fun n=>o1 (D0 t l a).1 n)):=by
 subst h0
 have key : ∀(m k N:Nat) (st:τ),k+m=l.length→m<N→D0 t (l.take k) a=(st,0)→iter f N (enc st (k:Int))=some (xy (D0 t l a).2 (o0 (D0 t l a).1) (fun n=>o1 (D0 t l a).1 n)):=by
  intro m
  induction m with
  | zero =>
   intro k N st hk hN hr
   obtain⟨N,rfl⟩ : ∃ M,N=M+1:=⟨N-1,by omega⟩
   rw [List.take_of_length_le (by omega)] at hr
   rw [iter,show k=l.length by omega,he st hr,hr];rfl
  | succ m ih =>
   intro k N st hk hN hr
   obtain⟨N,rfl⟩ : ∃ M,N=M+1:=⟨N-1,by omega⟩
   have hkl:k<l.length:=by omega
   have hg:=gge hkl
   have hsplit:D0 t l a=D0 t (l[k]::l.drop (k+1)) st:=by
    have h1:=EM t (l.take k) (l.drop k) a
    rw [List.take_append_drop,hr,if_pos rfl,List.drop_eq_getElem_cons hkl] at h1
    exact h1
   rw [iter,hs k l[k] st hg hr]
   rw [D0] at hsplit
   cases hz:(t st l[k]).2 with
   | zero =>
    rw [vV]
    refine ih (k+1) N _ (by omega) (by omega) ?_
    rw [List.take_add_one,hg,EM,hr,if_pos rfl]
    show D0 t [l[k]] st=_
    rw [D0,if_pos hz];rfl
   | succ n =>
    rw [if_neg (by omega)] at hsplit
    rw [vX,hsplit,hz,vX]
 exact key l.length 0 F a (by omega) (HR hn) rfl
end walks
def geB (s:DSpot)(e:DElem):Bool:=decide (0≤cmpS (Dy e) s)
def Ec (ns:List DNode)(s:DSpot):Nat→Int→List DElem
 | 0,_=>[]
 | m+1,i=>(nd ns i).elems.filter (geB s)++(if (nd ns i).kind=1 then [] else ((nd ns i).kids.drop (ET (nd ns i).seps s)).flatMap (Ec ns s m))
theorem K1 (ns:List DNode)(s:DSpot):∀(m:Nat) (i:Int),(Ec ns s m i).Sublist (DK ns m i):=by
 intro m
 induction m with
 | zero=>intro i;exact List.Sublist.refl _
 | succ m ih =>
  intro i
  rw [Ec,DK]
  refine List.Sublist.append List.filter_sublist ?_
  split
  · exact List.nil_sublist _
  · have h1 : ∀ l : List Int, (l.flatMap (Ec ns s m)).Sublist (l.flatMap (DK ns m)) := by
     intro l
     induction l with
     | nil=>exact List.Sublist.refl _
     | cons a l ihl=>rw [List.flatMap_cons,List.flatMap_cons];exact(ih a).append ihl
    refine(h1 _).trans ?_
    have h2 : ∀(l:List Int) (k:Nat),((l.drop k).flatMap (DK ns m)).Sublist (l.flatMap (DK ns m)):=by
     intro l k
     conv=>rhs;rw [← List.take_append_drop k l,List.flatMap_append]
     exact List.sublist_append_right _ _
    exact h2 _ _
theorem F1 {α β:Type}(p:β→Bool)(f:α→List β):∀ l:List α,(l.flatMap f).filter p=l.flatMap fun a=>(f a).filter p
 | []=>rfl
 | a::l=>by rw [List.flatMap_cons,List.flatMap_cons,List.filter_append,F1 p f l]
theorem LC {ns:List DNode}(hns : ∀ n∈ns,DS n=0)(s:DSpot):∀(h m:Nat) (i d:Int) (sp:Span),okN ns h i d sp→h<m→Ec ns s m i=(Dx ns h i).filter (geB s):=by
 intro h
 induction h with
 | zero =>
  intro m i d sp hok hm
  obtain⟨m,rfl⟩ : ∃ q,m=q+1:=⟨m-1,by omega⟩
  rw [Ec,Dx,if_pos hok.2.1,List.append_nil]
 | succ h ih =>
  intro m i d sp hok hm
  obtain⟨m,rfl⟩ : ∃ q,m=q+1:=⟨m-1,by omega⟩
  have hI:=(EQ hns hok.1 hok.2.1).2
  rw [Ec,Dx,if_neg hok.2.1.2,hI.elems,List.filter_nil,List.nil_append,F1]
  have hk : ∀ k∈(nd ns i).kids,Ec ns s m k=(Dx ns h k).filter (geB s):=fun k hk=>by
   obtain⟨q,hq⟩:=List.mem_iff_getElem?.1 hk
   exact ih m k _ _ (hok.2.2.2 (k,q) (FZ hq)).1 (by omega)
  have hcong : ∀ l:List Int,(∀ k∈l,k∈(nd ns i).kids)→l.flatMap (Ec ns s m)=l.flatMap fun k=>(Dx ns h k).filter (geB s):=by
   intro l
   induction l with
   | nil=>intro _;rfl
   | cons a l ihl=>intro hl;rw [List.flatMap_cons,List.flatMap_cons,hk a (hl a List.mem_cons_self),ihl fun k hk=>hl k (List.mem_cons_of_mem _ hk)]
  rw [hcong _ fun k hk=>List.mem_of_mem_drop hk]
  have hnil:((nd ns i).kids.take (ET (nd ns i).seps s)).flatMap (fun k=>(Dx ns h k).filter (geB s))=[]:=by
   rw [List.flatMap_eq_nil_iff]
   intro k hk
   rw [List.mem_take_iff_getElem] at hk
   obtain⟨q,hq,rfl⟩:=hk
   rw [List.filter_eq_nil_iff]
   intro e he
   have hqk:(nd ns i).kids[q]? = some (nd ns i).kids[q]:=gge (by omega)
   have h1:=(hok.2.2.2 (_,q) (FZ hqk)).1
   have h2:=((Er hns h _ _ _ h1).2 e he).1
   have hw:=HF (nd ns i).seps s
   have hx:(nd ns i).seps[q]? = some (nd ns i).seps[q]:=gge (by omega)
   have h3:=HQ hx h2
   have h4:=(Je (nd ns i).seps s).1 q _ (by omega) hx
   have h5:=EE h3 h4
   unfold geB
   rw [decide_eq_true_eq]
   omega
  conv=>rhs;rw [← List.take_append_drop (ET (nd ns i).seps s) (nd ns i).kids,List.flatMap_append,hnil,List.nil_append]
def LQ {τ:Type}(ns:List DNode)(s:DSpot)(len:τ→Nat)(m:Nat)(x:τ × Int):Prop:=IA ns m x.2∧len x.1+(Ec ns s m x.2).length≤100000
theorem IC {τ:Type}{t:DTree}{h:Nat}(hg:Good t h)(s:DSpot)(len:τ→Nat)(a:τ)(ha:len a=0){F:Nat}[Big F]:LQ t.nodes s len F (a,t.root):=by
 have hF:=(inferInstance:Big F).le
 have h4:=EZ hg
 refine⟨⟨h,0,topS,by omega,hg.ok⟩,?_⟩
 dsimp only
 have h1:=(K1 t.nodes s F t.root).length_le
 rw [Hf hg.chk h F t.root 0 topS hg.ok (by omega)] at h1
 have:=GJ hg
 omega
theorem Iv {t:DTree}{h:Nat}(hg:Good t h)(s:DSpot){F:Nat}[Big F]:Ec t.nodes s F t.root=(Dx t.nodes h t.root).filter (geB s):=by
 have hF:=(inferInstance:Big F).le
 have h4:=EZ hg
 exact LC hg.chk s h F t.root 0 topS hg.ok (by omega)
theorem JJ {τ:Type}{ns:List DNode}(hns : ∀ n∈ns,DS n=0){s:DSpot}{len:τ→Nat}{m:Nat}{a b:τ}{i:Int}(h:LQ ns s len (m+1) (a,i))(h1:(nd ns i).kind≠1){t:τ→DElem→τ × Nat}(ht : ∀ a e,len (t a e).1≤len a+1)
 (hb:D0 t ((nd ns i).elems.filter (geB s)) a=(b,0)) {k:Nat} {e:Int} (hk:((nd ns i).kids.drop (ET (nd ns i).seps s))[k]? = some e) {st:τ}
 (hr:D0 (fun st k=>D0 t (Ec ns s m k) st) (((nd ns i).kids.drop (ET (nd ns i).seps s)).take k) b=(st,0)):LQ ns s len m (st,e):=by
 have hkids:=(h.1.kids hns).2
 refine⟨hkids e (List.mem_of_mem_drop (List.mem_of_getElem? hk)),?_⟩
 rw [Fp] at hr
 have q1:=HU t len ht ((nd ns i).elems.filter (geB s)) a
 rw [hb] at q1
 have q2:=HU t len ht ((((nd ns i).kids.drop (ET (nd ns i).seps s)).take k).flatMap (Ec ns s m)) b
 rw [hr] at q2
 have h2:=h.2
 dsimp only at q1 q2 h2 ⊢
 rw [Ec,if_neg h1,List.length_append] at h2
 obtain⟨hkl,rfl⟩:=ggs.1 hk
 have h3:(((nd ns i).kids.drop (ET (nd ns i).seps s)).flatMap (Ec ns s m)).length=((((nd ns i).kids.drop (ET (nd ns i).seps s)).take k).flatMap (Ec ns s m)).length+(((((nd ns i).kids.drop (ET (nd ns i).seps s)).drop k)).flatMap (Ec ns s m)).length:=by
  rw [← List.length_append,← List.flatMap_append,List.take_append_drop]
 rw [List.drop_eq_getElem_cons hkl,List.flatMap_cons,List.length_append] at h3
 omega
theorem L5 {ns:List DNode}{i:Int}(hI:Inner (nd ns i))(s:DSpot):ET (nd ns i).seps s≤(nd ns i).kids.length:=by
 have:=HF (nd ns i).seps s
 have:=hI.seps
 omega
end Go.Proofs.Ytcmkdoahkncakaa
namespace Go.Proofs.Ytcmkdoahkncakaa
set_option linter.unusedSimpArgs false
set_option linter.unusedVariables false
section
variable {F:Nat} [Big F]
end
section

end
section
variable {F:Nat} [Big F]
theorem Gn {t:DTree}{h h' : Nat}{root' : Int}{N' : NL}(g:Good t h)(len:N'.length=(nlT t).length)(out : ∀ j:Nat,j ∉ ids t.nodes h t.root→N'[j]? = (nlT t)[j]?)(chk:Em N')(sub:DJ (fN N') h' root' (mOf 0 h') topS)
 (perm : ∃ Z,(ids t.nodes h t.root).Perm (Z++ids (fN N') h' root')∧∀ j∈Z,N'[j]? = some (.inr zN)):Bh N' = some (fN N')∧Good ⟨root',fN N'⟩ h':=by
 obtain⟨Z,hZ,hz⟩:=perm
 have key : ∀(j:Nat) (x:Int ⊕ DNode),N'[j]? = some x→(∃ n,x = .inr n)∧(Ce x≠0→j∈ids (fN N') h' root'):=fun j x hx=>by
  by_cases hj:j∈ids t.nodes h t.root
  · rcases List.mem_append.1 (hZ.mem_iff.1 hj) with hj | hj
    · rw [hz j hj] at hx
      obtain rfl:=Option.some.inj hx
      exact⟨⟨_,rfl⟩,fun hk=>absurd rfl hk⟩
    · obtain⟨n,hn,_⟩:=sub.used j hj
      rw [hn] at hx
      exact⟨⟨n,(Option.some.inj hx).symm⟩,fun _=>hj⟩
  · rw [out j hj] at hx
    obtain⟨n,hn,rfl⟩:=Hl hx
    exact⟨⟨n,rfl⟩,fun hk=>absurd (g.all j (ggs.1 hn).1 (by rw [G7 hn];exact hk)) hj⟩
 refine⟨Hx fun j k hj=>?_,HB chk ?_ sub ?_ fun j x hx=>(key j x hx).2⟩
 · obtain⟨⟨n,hn⟩,_⟩:=key j _ hj
   cases hn
 · rw [len];unfold nlT;rw [List.length_map];exact g.len
 · exact(List.nodup_append.1 (hZ.nodup_iff.1 g.nodup)).2.1
theorem JN {N:NL}{i:Int}{n:DNode}(h:N[i.toNat]? = some (.inr n)):v0 (wt N i) i n=N:=by
 refine List.ext_getElem? fun j=>?_
 by_cases hj:j=i.toNat
 · subst hj
   rw [DY _ (by rw [Dz];exact(ggs.1 h).1),h]
 · rw [DI _ hj,DQ _ hj]
theorem Lc {t:DTree}{h:Nat}{sp:DSpot}(g:Good t h) :
 ∃(root:Int) (N:NL),Mj F sp (nlT t) t.root=some (N,root)∧Bh N=some (fN N)∧∃ h',Good ⟨root,fN N⟩ h'∧Dx (fN N) h' root=(Dx t.nodes h t.root).filter (Fj sp):=by
 have hF:=(inferInstance:Big F).le
 have hfu:=EZ g
 have hc:=HJ g
 have c:=Gb g
 have hlen:(nlT t).length≤400:=by unfold nlT;rw [List.length_map];exact g.len
 have hnd:(ids (fN (nlT t)) h t.root).Nodup:=by rw [Eb];exact g.nodup
 have hr:=c.range
 rw [DD] at hr
 unfold Mj
 cases h with
 | zero =>
  obtain⟨N',hrun,P⟩:=JO (F:=F) sp 0 F (nlT t) t.root 0 topS (by omega) hc hlen (.inl rfl) c hnd rfl
  have c' : DJ (fN N') 0 t.root 0 topS:=P.sub
  have L:=c'.leaf P.chk
  obtain⟨q1,q2⟩:=c'.node
  obtain⟨r1,r2⟩:=Gn g P.len (fun j hj=>P.out j (by rw [Eb];exact hj)) P.chk c' (by obtain ⟨Z,hZ,hz⟩:=P.perm;rw [Eb] at hZ;exact⟨Z,hZ,hz⟩)
  refine⟨t.root,N',?_,r1,0,r2,by rw [P.elems,Eb]⟩
  rw [hrun,obs,q1,obs,L.kids,show (((([]:List Int).length:Int)) == 1)=false from rfl,cond_false,obs,JN q2]
 | succ h =>
  obtain⟨f,hf⟩ : ∃ f,F=f+1:=⟨F-1,by omega⟩
  obtain⟨N3,K,X,T,hrun,M⟩:=KS (F:=F) (JO sp h) (mf:=f) (by omega) hc hlen c hnd rfl
  rw [← hf] at hrun
  have hids:ids t.nodes (h+1) t.root=t.root.toNat::(nd t.nodes t.root).kids.flatMap (ids t.nodes h):=rfl
  have hels:Dx t.nodes (h+1) t.root=(nd t.nodes t.root).kids.flatMap (Dx t.nodes h):=rfl
  have hMe:=M.elems
  obtain⟨Z,hZ,hz⟩:=M.perm
  rw [Eb] at hMe hZ
  have hn1:=g.nodup
  rw [hids] at hn1
  obtain⟨n1,n2⟩:=List.nodup_cons.1 hn1
  have hl3:=M.len
  have h2:2≤(nd t.nodes t.root).kids.length:=by have:=c.2.2.1;rw [Eb] at this;unfold mOf at this;simpa using this
  have hmore:=M.more
  rw [Eb] at hmore
  have hget:(v0 N3 t.root ⟨2,[],K,X,T⟩)[t.root.toNat]? = some (.inr ⟨2,[],K,X,T⟩):=DY _ (by rw [hl3];omega)
  have hnode:xp (v0 N3 t.root ⟨2,[],K,X,T⟩) t.root=some ⟨2,[],K,X,T⟩:=by
   unfold xp
   rw [if_neg (by omega),hget];rfl
  rw [hrun,obs,hnode,obs]
  dsimp only
  by_cases h1:K.length=1
  · obtain⟨k,rfl⟩:=List.length_eq_one_iff.1 h1
    obtain⟨X0,hX0⟩ : ∃ X0,X0=X:=⟨_,rfl⟩
    have hXl:=M.ch.lens.1
    obtain rfl:X=[]:=List.eq_nil_of_length_eq_zero (by simpa using hXl)
    obtain⟨k',t',e1,e2,q⟩:=M.ch
    obtain rfl:k=k':=by simpa using e1
    have hkn : ∀ j∈ids (fN N3) h k,j≠t.root.toNat:=fun j hj e=>n1 (hZ.mem_iff.2 (List.mem_append_right _ (by rw [List.flatMap_singleton,← e];exact hj)))
    have hN:v0 (wt (v0 N3 t.root ⟨2,[],[k],[],T⟩) t.root) t.root zN=v0 N3 t.root zN:=by
     unfold v0 wt
     rw [List.set_set,List.set_set]
    obtain⟨a1,a2,a3,a4⟩:=DJ.agree (N':=v0 N3 t.root zN) (by rw [DB];exact Nat.le_refl _) q.1 fun j hj=>DI N3 (hkn j hj)
    rw [List.flatMap_singleton] at hMe hZ
    obtain⟨r1,r2⟩:=Gn (root':=k) g (by rw [DB];exact hl3) (fun j hj=>by
     have:=M.out j (by rw [Eb];exact hj)
     rw [hids,List.mem_cons,not_or] at hj
     rw [DI N3 hj.1,this]) (M.chk.put KD) (a1.weak (MF 0 h)) ⟨t.root.toNat::Z,by rw [hids,a2];exact List.Perm.cons _ hZ,fun j hj=>by
     rcases List.mem_cons.1 hj with rfl | hj
     · exact DY _ (by rw [hl3];omega)
     · rw [DI N3 (show j≠t.root.toNat from fun e=>n1 (hZ.mem_iff.2 (List.mem_append_left _ (by rw [← e];exact hj))))]
       exact hz j hj⟩
    refine⟨k,v0 N3 t.root zN,?_,r1,h,r2,by rw [a3,hMe,hels]⟩
    rw [show ((([k]:List Int).length:Int) == 1)=true from rfl,cond_true,FE (by rw [Dz,DB,hl3];exact hr),obs,show idx [k] 0=some k from rfl,obs,obs]
    dsimp only
    exact congrArg (fun q=>some (q,k)) hN
  · have P:=KT hlen c hc hnd M (by omega)
    have h2K:2≤K.length:=by omega
    have hck:=D1 (n:=⟨2,[],K,X,T⟩) rfl (EP M.chk (by rw [hl3];exact hlen) M.ch h2K (by have:=M.few;rw [Eb] at this;have:=(c.inner hc).eight;rw [Eb] at this;omega) M.ord M.ok)
    have hnd2:=F3 hget
    have c' : DJ (fN (v0 N3 t.root ⟨2,[],K,X,T⟩)) (h+1) t.root (mOf 0 (h+1)) topS :=
     ⟨P.sub.1,P.sub.2.1,by rw [hnd2];unfold mOf;simpa using h2K,P.sub.2.2.2⟩
    obtain⟨r1,r2⟩:=Gn g P.len (fun j hj=>P.out j (by rw [Eb];exact hj)) P.chk c' (by obtain ⟨Z,hZ,hz⟩:=P.perm;rw [Eb] at hZ;exact⟨Z,hZ,hz⟩)
    refine⟨t.root,_,?_,r1,h+1,r2,by rw [P.elems,Eb]⟩
    rw [show ((K.length:Int) == 1)=false by rw [beq_eq_false_iff_ne];omega,cond_false,obs,JN hget]
theorem MM {l:List DElem}{r:Nat}{x:DElem}(ho:l.Pairwise SpO)(hx:l[r]? = some x):l.filter (Fj (Dy x))=l.take r++l.drop (r+1):=by
 obtain⟨hr,he⟩:=ggs.1 hx
 have e:=FT l hr
 rw [he] at e
 have hnx:Fj (Dy x) x=false:=by unfold Fj;simp
 have ho':=ho
 rw [e] at ho'
 obtain⟨o1,o2,o3⟩:=List.pairwise_append.1 ho'
 conv=>lhs;rw [e]
 rw [List.filter_append,List.filter_cons,if_neg (by rw [hnx];decide),G8,G8]
 · intro y hy hs
   have h1:cmpS (Dy x) (Dy y)<0:=(List.pairwise_cons.1 o2).1 y hy
   rw [hs,DC.refl] at h1;omega
 · intro y hy hs
   have h1:cmpS (Dy y) (Dy x)<0:=o3 y hy x List.mem_cons_self
   rw [hs,DC.refl] at h1;omega
end
section
theorem Ip {t:DTree}{h:Nat}(hg:Good t h){F:Nat}[Big F]:DK t.nodes F t.root=Dx t.nodes h t.root:=by
 have hF:=(inferInstance:Big F).le
 have h4:=EZ hg
 exact Hf hg.chk h F t.root 0 topS hg.ok (by omega)
end
section
variable {F:Nat} [Big F]
theorem F4 {t:DTree}(hs : ∀ n∈t.nodes,Small n){h:Nat}(hg:Good t h):yC F t=some (F6 (Dx t.nodes h t.root)):=by
 unfold yC
 rw [Ie hs hg,obs]
 dsimp only
 rw [show ((0:Int) != 0)=false from rfl,cond_false,I7];rfl
theorem Fv {t:DTree}(hs : ∀ n∈t.nodes,Small n)(hc:F8 F t≠0):yC F t=some (F8 F t):=by
 unfold yC
 rw [Jc hs hc,obs]
 dsimp only
 rw [DU hc,cond_true]
abbrev FlatP:=Int × Int × Int × Int × Int × ByteArray
def LA (e:DElem):FlatP:=(e.key.pfs,e.key.obj,e.key.off,e.made,e.gone,e.val)
def Fx (k:DKey)(u:Int)(st:FlatP)(e:DElem):FlatP × Nat:=if e.key≠k then (st,1) else if Eu e u=true then (LA e,2) else (st,0)
theorem JV {k:DKey}{u:Int}{st:FlatP}{e:DElem}(h:e.key≠k):Fx k u st e=(st,1):=if_pos h
theorem KB {k:DKey}{u:Int}{st:FlatP}{e:DElem}(h:e.key=k)(hl:Eu e u=true):Fx k u st e=(LA e,2):=by
 unfold Fx;rw [if_neg (fun h'=>h' h),if_pos hl]
theorem KA {k:DKey}{u:Int}{st:FlatP}{e:DElem}(h:e.key=k)(hl : ¬ Eu e u=true):Fx k u st e=(st,0):=by
 unfold Fx;rw [if_neg (fun h'=>h' h),if_neg hl]
theorem LJ {l:List DElem}(hp:l.Pairwise SpO){i j:Nat}{a b:DElem}(hij:i≤j)(ha:l[i]? = some a)(hb:l[j]? = some b):cmpK a.key b.key≤0:=by
 by_cases e:i=j
 · subst e
   rw [ha] at hb
   obtain rfl:=Option.some.inj hb
   rw [DH.refl];exact Int.le_refl _
 · have:=Eg hp (show i<j by omega) ha hb
   unfold SpO at this
   rcases GX.1 this with h | ⟨h,_⟩
   · exact Int.le_of_lt h
   · unfold Dy at h
     dsimp only at h
     rw [h,DH.refl];exact Int.le_refl _
theorem Mp (k:DKey)(u:Int):∀(l:List DElem),l.Pairwise SpO→(∀ e∈l,0≤cmpK e.key k)→∀ a:FlatP,(∃ e,l.find? (fun e=>e.key == k&&Eu e u)=some e∧D0 (Fx k u) l a=(LA e,2))∨(l.find? (fun e=>e.key == k&&Eu e u)=none∧∃ c,c≤1∧D0 (Fx k u) l a=(a,c)):=by
 intro l
 induction l with
 | nil=>intro _ _ a;exact .inr ⟨rfl,0,by omega,rfl⟩
 | cons e l ih =>
  intro hp hk a
  rw [D0]
  by_cases he:e.key=k
  · have hb:(e.key == k)=true:=by simpa using he
    rw [List.find?_cons,hb]
    by_cases hl:Eu e u=true
    · left
      rw [KB he hl,if_neg (by simp),hl]
      exact⟨e,rfl,rfl⟩
    · rw [KA he hl,if_pos rfl,show Eu e u=false by simpa using hl]
      exact ih (List.pairwise_cons.1 hp).2 (fun x hx=>hk x (List.mem_cons_of_mem _ hx)) a
  · right
    rw [JV he,if_neg (by simp)]
    refine⟨?_,1,Nat.le_refl _,rfl⟩
    rw [List.find?_eq_none]
    intro x hx hq
    have hxk:x.key=k:=by
     have:=(Bool.and_eq_true_iff.1 hq).1
     simpa using this
    have h1:=hk e List.mem_cons_self
    obtain⟨j,hj⟩:=List.mem_iff_getElem?.1 hx
    have h2:=LJ hp (i:=0) (j:=j) (Nat.zero_le _) rfl hj
    rw [hxk] at h2
    exact he ((DH.zero _ _).1 (by omega))
theorem Jh {l:List DElem}(ho : ∀ e∈l,DG e=0)(k:DKey)(u:Int):(l.filter (geB ⟨k,0⟩)).find? (fun e=>e.key == k&&Eu e u)=atR l k u:=by
 unfold atR
 rw [List.find?_filter]
 have : ∀ m:List DElem,(∀ e∈m,e∈l)→m.find? (fun a=>decide (geB ⟨k,0⟩ a=true∧(a.key == k&&Eu a u)=true))=m.find? fun e=>e.key == k&&Eu e u:=by
  intro m
  induction m with
  | nil=>intro _;rfl
  | cons e m ih =>
   intro hm
   rw [List.find?_cons,List.find?_cons,ih fun x hx=>hm x (List.mem_cons_of_mem _ hx)]
   by_cases hk:e.key=k
   · obtain⟨_,h1,_⟩:=Fd (ho e (hm e List.mem_cons_self))
     have hge:geB ⟨k,0⟩ e=true:=by
      refine decide_eq_true ?_
      have h2:=DC.neg (Dy e) ⟨k,0⟩
      have:cmpS ⟨k,0⟩ (Dy e)<0:=GX.2 (.inr ⟨hk.symm,by show (0:Int)<e.made;omega⟩)
      omega
     have hd:decide (geB ⟨k,0⟩ e=true∧(e.key == k&&Eu e u)=true)=(e.key == k&&Eu e u):=by cases hq:(e.key == k&&Eu e u) <;> simp [hge]
     rw [hd]
   · have:(e.key == k)=false:=by simpa using hk
     rw [this];simp
 first
 | exact this l fun e he=>he
 | (simp only [Bool.decide_and,Bool.decide_eq_true] at this;exact this l fun e he=>he)
theorem Iu {l:List DElem}{k:DKey}:∀ e∈l.filter (geB ⟨k,0⟩),0≤cmpK e.key k:=fun e he=>by
 have h1:=(List.mem_filter.1 he).2
 unfold geB at h1
 have h1:=of_decide_eq_true h1
 by_cases h:cmpK e.key k<0
 · have:cmpS (Dy e) ⟨k,0⟩<0:=GX.2 (.inl h)
   omega
 · omega
theorem Fo {t:DTree}(hs : ∀ n∈t.nodes,Small n){h:Nat}(hg:Good t h)(k:DKey)(u:Int):zo F t k u=some (atV (Dx t.nodes h t.root) k u,atE (Dx t.nodes h t.root) k u):=by
 have hlen : ∀(a:FlatP) (e:DElem),(fun _:FlatP=>0) (Fx k u a e).1≤(fun _:FlatP=>0) a+1:=fun _ _=>Nat.zero_le _
 unfold zo atE atV
 rw [F4 hs hg,obs]
 by_cases hr:F6 (Dx t.nodes h t.root)=0
 rotate_left
 · rw [DU hr,cond_true,if_neg (fun h=>hr h.1),if_pos hr];rfl
 rw [DO hr,cond_false,Fn,obs,if_neg (show ¬ F6 (Dx t.nodes h t.root)≠0 by simpa using hr)]
 by_cases hk:Fs k=0
 rotate_left
 · rw [DU hk,cond_true,if_neg (fun h=>hk h.2),if_pos hk];rfl
 rw [DO hk,cond_false,if_pos (show F6 (Dx t.nodes h t.root)=0∧Fs k=0 from ⟨hr,hk⟩),if_neg (show ¬ Fs k≠0 by simpa using hk)]
 rw [FJ (σ:=Int × Int × Int × Int × Int × ByteArray × Int) (fun m x=>match x with | (x1,x2,x3,x4,x5,x6,x7)=>LQ t.nodes ⟨k,0⟩ (fun _:FlatP=>0) m ((x1,x2,x3,x4,x5,x6),x7))
  (fun m x=>match x with | (x1,x2,x3,x4,x5,x6,x7)=>let r:=D0 (Fx k u) (Ec t.nodes ⟨k,0⟩ m x7) (x1,x2,x3,x4,x5,x6);(r.2,r.1)) ?h0 ?hstep F _ (IC hg ⟨k,0⟩ (fun _=>0) _ rfl)]
 case h0 =>
  rintro⟨x1,x2,x3,x4,x5,x6,x7⟩ ⟨⟨h,d,s,hm,_⟩,_⟩
  omega
 case hstep =>
  rintro m self ih ⟨x1,x2,x3,x4,x5,x6,x7⟩ hpre
  dsimp only at hpre
  obtain⟨⟨h0,h1⟩,hkids⟩:=hpre.1.kids hg.chk
  dsimp only at h0 h1 hkids ⊢
  have hmem:=Ez h0 h1
  obtain⟨h8,h8'⟩:=ES (hg.chk _ hmem)
  rw [Gh h0 h1,obs]
  rw [Gu (fun st e=>if geB ⟨k,0⟩ e then Fx k u st e else (st,0)) (nd t.nodes x7).elems (fun (st:FlatP) j=>(st.1,st.2.1,st.2.2.1,st.2.2.2.1,st.2.2.2.2.1,st.2.2.2.2.2,j)) Sum.inl (fun st n=>Sum.inr (n+1,st)) (x1,x2,x3,x4,x5,x6) (by omega) rfl ?hs ?he]
  case hs =>
   rintro j e ⟨y1,y2,y3,y4,y5,y6⟩ hj hr
   have hkl:=(ggs.1 hj).1
   dsimp only
   rw [decide_eq_true (by omega),cond_true,DA,hj,obs,DF,obs,DL,obs,w64 (by omega) (by omega)]
   unfold geB
   by_cases hge:0≤cmpS (Dy e) ⟨k,0⟩
   · rw [decide_eq_true hge,cond_true,if_pos rfl]
     unfold Fx
     by_cases hn:e.key=k
     · rw [if_neg (show ¬ e.key≠k by simpa using hn),show (!(e.key == k))=false by simpa using hn,cond_false,IR,obs]
       cases Eu e u <;> rfl
     · rw [if_pos hn,show (!(e.key == k))=true by simpa using hn];rfl
   · rw [decide_eq_false hge,cond_false,if_neg (by simp)];rfl
  case he =>
   rintro⟨y1,y2,y3,y4,y5,y6⟩ hr
   dsimp only
   rw [decide_eq_false (by omega)];rfl
  rw [obs,FB,Ec]
  cases hb:D0 (Fx k u) ((nd t.nodes x7).elems.filter (geB ⟨k,0⟩)) (x1,x2,x3,x4,x5,x6) with
  | mk b c =>
   rw [EM,hb]
   cases c with
   | succ c=>rfl
   | zero =>
    obtain⟨b1,b2,b3,b4,b5,b6⟩:=b
    dsimp only [xy]
    rw [if_pos rfl]
    by_cases hkd:(nd t.nodes x7).kind=1
    · rw [if_pos hkd,show ((nd t.nodes x7).kind == 1)=true by simpa using hkd];rfl
    · rw [if_neg hkd,show ((nd t.nodes x7).kind == 1)=false by simpa using hkd,cond_false]
      have hw:ET (nd t.nodes x7).seps ⟨k,0⟩≤(nd t.nodes x7).kids.length:=by
       rcases DV.1 (hg.chk _ hmem) with q | q | q
       · rw [q.2.2.2.1];exact Nat.zero_le _
       · exact absurd q.1 hkd
       · exact L5 q.2 ⟨k,0⟩
      rw [EL _ ⟨k,0⟩ (hs _ hmem),obs,DW hw,obs]
      rw [Gu (fun st j=>D0 (Fx k u) (Ec t.nodes ⟨k,0⟩ m j) st) ((nd t.nodes x7).kids.drop (ET (nd t.nodes x7).seps ⟨k,0⟩)) (fun (st:FlatP) j=>(st.1,st.2.1,st.2.2.1,st.2.2.2.1,st.2.2.2.2.1,st.2.2.2.2.2,j)) Sum.inl (fun st n=>Sum.inr (n+1,st)) (b1,b2,b3,b4,b5,b6) (by rw [List.length_drop];omega) rfl ?hs2 ?he2]
      case hs2 =>
       rintro j e ⟨y1,y2,y3,y4,y5,y6⟩ hk2 hr
       have hkl:=(ggs.1 hk2).1
       rw [List.length_drop] at hkl
       dsimp only
       rw [decide_eq_true (by rw [List.length_drop];omega),cond_true,DA,hk2,obs,ih (y1,y2,y3,y4,y5,y6,e) (JJ hg.chk hpre hkd hlen hb hk2 hr),obs,w64 (by omega) (by omega)]
       dsimp only
       cases hc:D0 (Fx k u) (Ec t.nodes ⟨k,0⟩ m e) (y1,y2,y3,y4,y5,y6) with
       | mk y c=>cases c <;> rfl
      case he2 =>
       rintro⟨y1,y2,y3,y4,y5,y6⟩ hr
       dsimp only
       rw [decide_eq_false (by omega)];rfl
      rw [obs,Fp]
      cases hc:D0 (Fx k u) (((nd t.nodes x7).kids.drop (ET (nd t.nodes x7).seps ⟨k,0⟩)).flatMap (Ec t.nodes ⟨k,0⟩ m)) (b1,b2,b3,b4,b5,b6) with
      | mk y c=>cases c <;> rfl
 rw [obs]
 dsimp only
 rw [Iv hg ⟨k,0⟩]
 obtain⟨hsort,hall⟩:=Er hg.chk h t.root 0 topS hg.ok
 have hat:=Jh (fun e he=>(hall e he).2) k u (l:=Dx t.nodes h t.root)
 rcases Mp k u _ (hsort.filter _) Iu (0,0,0,0,0,ByteArray.mk #[]) with ⟨e,h1,h2⟩ | ⟨h1,c,hc,h2⟩
 · rw [h2,← hat,h1];rfl
 · rw [h2,← hat,h1]
   have:c=0∨c=1:=by omega
   rcases this with rfl | rfl <;> rfl
end
section
variable {F:Nat} [Big F]
abbrev FlatN:=Bool × Int × Int × Int × Int × Int × ByteArray
def flatN (e:DElem):FlatN:=(true,e.key.pfs,e.key.obj,e.key.off,e.made,e.gone,e.val)
def Fw (k:DKey)(st:FlatN)(e:DElem):FlatN × Nat:=if e.key≠k then (st,1) else if e.gone=0 then (flatN e,2) else (st,0)
theorem JU {k:DKey}{st:FlatN}{e:DElem}(h:e.key≠k):Fw k st e=(st,1):=if_pos h
theorem Kz {k:DKey}{st:FlatN}{e:DElem}(h:e.key=k)(hl:e.gone=0):Fw k st e=(flatN e,2):=by
 unfold Fw;rw [if_neg (fun h'=>h' h),if_pos hl]
theorem Ky {k:DKey}{st:FlatN}{e:DElem}(h:e.key=k)(hl : ¬ e.gone=0):Fw k st e=(st,0):=by
 unfold Fw;rw [if_neg (fun h'=>h' h),if_neg hl]
theorem Mo (k:DKey)(u:Int):∀(l:List DElem),l.Pairwise SpO→(∀ e∈l,0≤cmpK e.key k)→(∀ e∈l,Ea e≤u)→∀ a:FlatN,(∃ e,l.find? (fun e=>e.key == k&&Eu e u)=some e∧D0 (Fw k) l a=(flatN e,2))∨(l.find? (fun e=>e.key == k&&Eu e u)=none∧∃ c,c≤1∧D0 (Fw k) l a=(a,c)):=by
 intro l
 induction l with
 | nil=>intro _ _ _ a;exact .inr ⟨rfl,0,by omega,rfl⟩
 | cons e l ih =>
  intro hp hk hu a
  have hlv:=IB (hu e List.mem_cons_self)
  rw [D0]
  by_cases he:e.key=k
  · have hb:(e.key == k)=true:=by simpa using he
    rw [List.find?_cons,hb,hlv]
    by_cases hl:e.gone=0
    · left
      rw [Kz he hl,if_neg (by simp),show (e.gone == 0)=true by simpa using hl]
      exact⟨e,rfl,rfl⟩
    · rw [Ky he hl,if_pos rfl,show (e.gone == 0)=false by simpa using hl]
      exact ih (List.pairwise_cons.1 hp).2 (fun x hx=>hk x (List.mem_cons_of_mem _ hx)) (fun x hx=>hu x (List.mem_cons_of_mem _ hx)) a
  · right
    rw [JU he,if_neg (by simp)]
    refine⟨?_,1,Nat.le_refl _,rfl⟩
    rw [List.find?_eq_none]
    intro x hx hq
    have hxk:x.key=k:=by
     have:=(Bool.and_eq_true_iff.1 hq).1
     simpa using this
    have h1:=hk e List.mem_cons_self
    obtain⟨j,hj⟩:=List.mem_iff_getElem?.1 hx
    have h2:=LJ hp (i:=0) (j:=j) (Nat.zero_le _) rfl hj
    rw [hxk] at h2
    exact he ((DH.zero _ _).1 (by omega))
def I5 (o:Option DElem):DElem × Bool:=match o with
 | some e=>(e,true)
 | none=>(zeroE,false)
theorem EU {t:DTree}{h:Nat}(hg:Good t h)(hr:Run (Dx t.nodes h t.root))(k:DKey):zt F t k=some (I5 (Ep (Dx t.nodes h t.root) k)):=by
 have hs:=Im hg
 have hlen : ∀(a:FlatN) (e:DElem),(fun _:FlatN=>0) (Fw k a e).1≤(fun _:FlatN=>0) a+1:=fun _ _=>Nat.zero_le _
 unfold zt
 rw [FJ (σ:=Bool × Int × Int × Int × Int × Int × ByteArray × Int) (fun m x=>match x with | (x0,x1,x2,x3,x4,x5,x6,x7)=>LQ t.nodes ⟨k,0⟩ (fun _:FlatN=>0) m ((x0,x1,x2,x3,x4,x5,x6),x7))
  (fun m x=>match x with | (x0,x1,x2,x3,x4,x5,x6,x7)=>let r:=D0 (Fw k) (Ec t.nodes ⟨k,0⟩ m x7) (x0,x1,x2,x3,x4,x5,x6);(r.2,r.1)) ?h0 ?hstep F _ (IC hg ⟨k,0⟩ (fun _=>0) _ rfl)]
 case h0 =>
  rintro⟨x0,x1,x2,x3,x4,x5,x6,x7⟩ ⟨⟨h,d,s,hm,_⟩,_⟩
  omega
 case hstep =>
  rintro m self ih ⟨x0,x1,x2,x3,x4,x5,x6,x7⟩ hpre
  dsimp only at hpre
  obtain⟨⟨h0,h1⟩,hkids⟩:=hpre.1.kids hg.chk
  dsimp only at h0 h1 hkids ⊢
  have hmem:=Ez h0 h1
  obtain⟨h8,h8'⟩:=ES (hg.chk _ hmem)
  rw [Gh h0 h1,obs]
  rw [Gu (fun st e=>if geB ⟨k,0⟩ e then Fw k st e else (st,0)) (nd t.nodes x7).elems (fun (st:FlatN) j=>(st.1,st.2.1,st.2.2.1,st.2.2.2.1,st.2.2.2.2.1,st.2.2.2.2.2.1,st.2.2.2.2.2.2,j)) Sum.inl (fun st n=>Sum.inr (n+1,st)) (x0,x1,x2,x3,x4,x5,x6) (by omega) rfl ?hs ?he]
  case hs =>
   rintro j e ⟨y0,y1,y2,y3,y4,y5,y6⟩ hj hr
   have hkl:=(ggs.1 hj).1
   dsimp only
   rw [decide_eq_true (by omega),cond_true,DA,hj,obs,DF,obs,DL,obs,w64 (by omega) (by omega)]
   unfold geB
   by_cases hge:0≤cmpS (Dy e) ⟨k,0⟩
   · rw [decide_eq_true hge,cond_true,if_pos rfl]
     unfold Fw
     by_cases hn:e.key=k
     · rw [if_neg (show ¬ e.key≠k by simpa using hn),show (!(e.key == k))=false by simpa using hn,cond_false]
       by_cases hz:e.gone=0
       · rw [if_pos hz,show (e.gone == 0)=true by simpa using hz];rfl
       · rw [if_neg hz,show (e.gone == 0)=false by simpa using hz];rfl
     · rw [if_pos hn,show (!(e.key == k))=true by simpa using hn];rfl
   · rw [decide_eq_false hge,cond_false,if_neg (by simp)];rfl
  case he =>
   rintro⟨y0,y1,y2,y3,y4,y5,y6⟩ hr
   dsimp only
   rw [decide_eq_false (by omega)];rfl
  rw [obs,FB,Ec]
  cases hb:D0 (Fw k) ((nd t.nodes x7).elems.filter (geB ⟨k,0⟩)) (x0,x1,x2,x3,x4,x5,x6) with
  | mk b c =>
   rw [EM,hb]
   cases c with
   | succ c=>rfl
   | zero =>
    obtain⟨b0,b1,b2,b3,b4,b5,b6⟩:=b
    dsimp only [xy]
    rw [if_pos rfl]
    by_cases hkd:(nd t.nodes x7).kind=1
    · rw [if_pos hkd,show ((nd t.nodes x7).kind == 1)=true by simpa using hkd];rfl
    · rw [if_neg hkd,show ((nd t.nodes x7).kind == 1)=false by simpa using hkd,cond_false]
      have hw:ET (nd t.nodes x7).seps ⟨k,0⟩≤(nd t.nodes x7).kids.length:=by
       rcases DV.1 (hg.chk _ hmem) with q | q | q
       · rw [q.2.2.2.1];exact Nat.zero_le _
       · exact absurd q.1 hkd
       · exact L5 q.2 ⟨k,0⟩
      rw [EL _ ⟨k,0⟩ (hs _ hmem),obs,DW hw,obs]
      rw [Gu (fun st j=>D0 (Fw k) (Ec t.nodes ⟨k,0⟩ m j) st) ((nd t.nodes x7).kids.drop (ET (nd t.nodes x7).seps ⟨k,0⟩)) (fun (st:FlatN) j=>(st.1,st.2.1,st.2.2.1,st.2.2.2.1,st.2.2.2.2.1,st.2.2.2.2.2.1,st.2.2.2.2.2.2,j)) Sum.inl (fun st n=>Sum.inr (n+1,st)) (b0,b1,b2,b3,b4,b5,b6) (by rw [List.length_drop];omega) rfl ?hs2 ?he2]
      case hs2 =>
       rintro j e ⟨y0,y1,y2,y3,y4,y5,y6⟩ hk2 hr
       have hkl:=(ggs.1 hk2).1
       rw [List.length_drop] at hkl
       dsimp only
       rw [decide_eq_true (by rw [List.length_drop];omega),cond_true,DA,hk2,obs,ih (y0,y1,y2,y3,y4,y5,y6,e) (JJ hg.chk hpre hkd hlen hb hk2 hr),obs,w64 (by omega) (by omega)]
       dsimp only
       cases hc:D0 (Fw k) (Ec t.nodes ⟨k,0⟩ m e) (y0,y1,y2,y3,y4,y5,y6) with
       | mk y c=>cases c <;> rfl
      case he2 =>
       rintro⟨y0,y1,y2,y3,y4,y5,y6⟩ hr
       dsimp only
       rw [decide_eq_false (by omega)];rfl
      rw [obs,Fp]
      cases hc:D0 (Fw k) (((nd t.nodes x7).kids.drop (ET (nd t.nodes x7).seps ⟨k,0⟩)).flatMap (Ec t.nodes ⟨k,0⟩ m)) (b0,b1,b2,b3,b4,b5,b6) with
      | mk y c=>cases c <;> rfl
 rw [obs]
 dsimp only
 rw [Iv hg ⟨k,0⟩]
 obtain⟨hsort,hall⟩:=Er hg.chk h t.root 0 topS hg.ok
 have hlast:=hr.last_le
 have hat:=Jh (fun e he=>(hall e he).2) k 2147483647 (l:=Dx t.nodes h t.root)
 rw [Mh hr hlast] at hat
 rcases Mo k 2147483647 _ (hsort.filter _) Iu (fun e he=>by have:=FM (List.mem_filter.1 he).1;omega) (false,0,0,0,0,0,ByteArray.mk #[]) with ⟨e,h1,h2⟩ | ⟨h1,c,hc,h2⟩
 · rw [h2,← hat,h1];rfl
 · rw [h2,← hat,h1]
   have:c=0∨c=1:=by omega
   rcases this with rfl | rfl <;> rfl
theorem K3 {ns:List DNode}(hns : ∀ n∈ns,DS n=0):∀ {h:Nat} {i:Int} {m:Nat} {s:Span},DJ ns h i m s→DE (nd ns i)=EA (Dx ns h i):=by
 intro h
 induction h with
 | zero =>
  intro i m s c
  have L:=c.leaf hns
  obtain⟨g1,g2,g3⟩:=GK (nd ns i)
  have g0:=(Gc (hns _ (Ez c.range.1 c.range.2))).1
  have hnn:=G3 (nd ns i).elems
  rw [Dx]
  refine Int.le_antisymm ?_ (FL.2 ⟨g0,g1⟩)
  rcases g3 with g3 | ⟨e,he,g3⟩ | ⟨t,ht,_⟩
  · omega
  · rw [← g3];exact FM he
  · rw [L.tids] at ht;cases ht
 | succ h ih =>
  intro i m s c
  have L:=c.inner hns
  obtain⟨g1,g2,g3⟩:=GK (nd ns i)
  have g0:=(Gc (hns _ (Ez c.range.1 c.range.2))).1
  have hch:=c.2.2.2
  rw [Dx]
  have hnn:=G3 ((nd ns i).kids.flatMap (Dx ns h))
  refine Int.le_antisymm ?_ (FL.2 ⟨g0,fun e he=>?_⟩)
  · rcases g3 with g3 | ⟨e,he,_⟩ | ⟨t,ht,g3⟩
    · omega
    · rw [L.elems] at he;cases he
    · obtain⟨k,s',hk,x⟩:=hch.tmem t ht
      rw [← g3,← x.2,ih x.1]
      exact FL.2 ⟨hnn,fun e he=>FM (List.mem_flatMap.2 ⟨k,hk,he⟩)⟩
  · obtain⟨k,hk,he⟩:=List.mem_flatMap.1 he
    obtain⟨q,hq⟩:=List.mem_iff_getElem?.1 hk
    obtain⟨t,s',ht,x,_⟩:=hch.at_ q k hq
    have h1:=g2 t (List.mem_of_getElem? ht)
    have h2:=FM he
    rw [← ih x.1,x.2] at h2
    omega
theorem ED {t:DTree}{h:Nat}(hg:Good t h)(u:Int):yY F t u=some (decide (u<1∨2147483647<u∨u<EA (Dx t.nodes h t.root))):=by
 have c:=Gb hg
 rw [Eb] at c
 have hgr:=K3 hg.chk c
 obtain⟨h0,h1⟩:=c.range
 unfold yY
 by_cases h2:u<1
 · rw [decide_eq_true h2,cond_true,obs,decide_eq_true (.inl h2)]
 · rw [decide_eq_false h2,cond_false]
   by_cases h3:2147483647<u
   · rw [decide_eq_true h3,cond_true,obs,decide_eq_true (.inr (.inl h3))]
   · rw [decide_eq_false h3,cond_false,Gh h0 h1,obs,Ef _ (Ex (hg.chk _ (Ez h0 h1))),obs,obs,hgr]
     congr 1
     rw [Bool.eq_iff_iff,decide_eq_true_eq,decide_eq_true_eq]
     omega
theorem Fk {t:DTree}{h:Nat}(hg:Good t h):zI F t=some (decide (400≤(Dx t.nodes h t.root).length)):=by
 have hlen : ∀(a:Nat) (e:DElem),(fun a:Nat=>a) ((fun (a:Nat) (_:DElem)=>(a+1,0)) a e).1≤(fun a:Nat=>a) a+1:=fun _ _=>Nat.le_refl _
 unfold zI
 rw [FJ (σ:=Int × Int) (fun m x=>IA t.nodes m x.2∧0≤x.1∧x.1+((DK t.nodes m x.2).length:Int)≤100000) (fun m x=>x.1+((DK t.nodes m x.2).length:Int)) ?h0 ?hstep F _ ?hpre]
 case h0 =>
  rintro⟨x1,x2⟩ ⟨⟨h,d,s,hm,_⟩,_⟩
  omega
 case hpre =>
  have hF:=(inferInstance:Big F).le
  have h4:=EZ hg
  refine⟨⟨h,0,topS,by omega,hg.ok⟩,Int.le_refl _,?_⟩
  dsimp only
  rw [Ip hg]
  have:=GJ hg
  omega
 case hstep =>
  rintro m self ih ⟨x1,x2⟩ ⟨hok,hc0,hc1⟩
  obtain⟨⟨h0,h1⟩,hkids⟩:=hok.kids hg.chk
  dsimp only at h0 h1 hkids hc0 hc1 ⊢
  obtain⟨h8,h8'⟩:=ES (hg.chk _ (Ez h0 h1))
  rw [DK,List.length_append] at hc1
  rw [Gh h0 h1,obs]
  rw [D7 (fun k=>(x1+(k:Int),(k:Int))) (nd t.nodes x2).elems.length (r:=x1+((nd t.nodes x2).elems.length:Int)) (by simp) (by omega) ?s1 ?e1]
  case s1 =>
   intro k hk
   dsimp only
   rw [decide_eq_true (by omega),cond_true,DA,gge hk,obs,w64 (by omega) (by omega),w64 (by omega) (by omega)]
   congr 3;omega
  case e1 =>
   dsimp only
   rw [decide_eq_false (by omega),cond_false]
  rw [obs]
  have hlen:((nd t.nodes x2).kids.flatMap (DK t.nodes m)).length≤100000:=by omega
  rw [D7 (fun k=>(x1+((nd t.nodes x2).elems.length:Int)+((((nd t.nodes x2).kids.take k).flatMap (DK t.nodes m)).length:Int),(k:Int))) (nd t.nodes x2).kids.length (r:=x1+((nd t.nodes x2).elems.length:Int)+(((nd t.nodes x2).kids.flatMap (DK t.nodes m)).length:Int)) (by simp) (by omega) ?s2 ?e2]
  case s2 =>
   intro k hk
   have hgk:(nd t.nodes x2).kids[k]? = some (nd t.nodes x2).kids[k]:=gge hk
   obtain⟨q1,q2⟩:=K0 (DK t.nodes m) hk
   dsimp only
   rw [decide_eq_true (by omega),cond_true,DA,hgk,obs,ih _ ⟨hkids _ (List.getElem_mem _),by dsimp only;omega,by dsimp only;omega⟩,obs,w64 (by omega) (by omega)]
   dsimp only
   rw [q1,List.length_append]
   congr 3;omega
  case e2 =>
   dsimp only
   rw [decide_eq_false (by omega),cond_false,List.take_length]
  rw [obs,DK,List.length_append]
  congr 1;omega
 rw [obs,obs]
 dsimp only
 rw [Ip hg]
 congr 1
 rw [Bool.eq_iff_iff,decide_eq_true_eq,decide_eq_true_eq]
 omega
theorem KU {A B:List DElem}{e y:DElem}(hs:Dy y=Dy e)(ho:(A++e::B).Pairwise SpO):(A++e::B).map (EH y)=A++y::B:=by
 obtain⟨o1,o2,o3⟩:=List.pairwise_append.1 ho
 rw [List.map_append,List.map_cons,GU,GU]
 · unfold EH;rw [if_pos hs.symm]
 · intro x hx h
   have h1:cmpS (Dy e) (Dy x)<0:=(List.pairwise_cons.1 o2).1 x hx
   rw [h,hs,DC.refl] at h1;omega
 · intro x hx h
   have h1:cmpS (Dy x) (Dy e)<0:=o3 x hx e List.mem_cons_self
   rw [h,hs,DC.refl] at h1;omega
theorem Mn {A B:List DElem}{e:DElem}(ho:(A++e::B).Pairwise SpO):(A++e::B).filter (Fj (Dy e))=A++B:=by
 have hg:(A++e::B)[A.length]? = some e:=by rw [List.getElem?_append_right (Nat.le_refl _)];simp
 rw [MM ho hg,List.take_left' rfl,show A++e::B=(A++[e])++B by simp,List.drop_left' (by simp)]
section
variable {l:List DElem} {k:DKey} {t:Int} {v:ByteArray}
theorem Hm (h:Run l){e:DElem}(hn:Ep l k=some e):∃ a,l=(lo l k++a)++e::hi l k∧clo (hist l k) t=a++(if e.made=t then [] else [{ e with gone:=t }]):=by
 obtain⟨a,ha,hc⟩:=KH (t:=t) h.ord hn
 refine⟨a,?_,hc⟩
 conv=>lhs;rw [HW k h.ord,ha]
 simp
theorem Mm (h:Run l){e:DElem}(hn:Ep l k=some e)(hm:e.made=t):l.map (EH (Ev k v t))=putR l k v t:=by
 obtain⟨a,h1,h2⟩:=Hm (t:=t) h hn
 have hk:=((FO h.ord).1 hn).2.1
 have ho:=Gp h.ord
 rw [h1] at ho
 have hsp:Dy (Ev k v t)=Dy e:=by unfold Dy Ev;rw [hk,hm]
 conv=>lhs;rw [h1]
 rw [KU hsp ho]
 unfold putR upd
 rw [h2,if_pos hm]
 simp
theorem HA (h:Run l){e:DElem}(hn:Ep l k=some e)(hm:e.made≠t):l.map (EH { e with gone:=t })=cutR l k t:=by
 obtain⟨a,h1,h2⟩:=Hm (t:=t) h hn
 have ho:=Gp h.ord
 rw [h1] at ho
 conv=>lhs;rw [h1]
 rw [KU (e:=e) (y:={ e with gone:=t }) rfl ho]
 unfold cutR upd
 rw [h2,if_neg hm]
 simp
theorem L6 (h:Run l){e:DElem}(hn:Ep l k=some e)(hm:e.made=t):l.filter (Fj (Dy e))=cutR l k t:=by
 obtain⟨a,h1,h2⟩:=Hm (t:=t) h hn
 have ho:=Gp h.ord
 rw [h1] at ho
 conv=>lhs;rw [h1]
 rw [Mn ho]
 unfold cutR upd
 rw [h2,if_pos hm]
 simp
theorem IE (h:Run l)(ht:EA l≤t)(hc:DG (Ev k v t)=0):∀ x∈cutR l k t,Dy x≠Dy (Ev k v t):=by
 obtain⟨_,h0,h1,_⟩:=Gx hc
 obtain⟨c1,c2,c3⟩:=h.clo ht h0 h1 k
 intro x hx hs
 unfold cutR at hx
 have hk:x.key=k:=congrArg DSpot.key hs
 have hmd:x.made=t:=congrArg DSpot.made hs
 rcases (Gw h.ord).1 hx with hx | ⟨_,hx⟩
 · have:=(c3 x hx).2;omega
 · exact hx hk
theorem JK (h:Run l)(hn:Ep l k=none):(putR l k v t).length=l.length+1:=by rw [GS h,hn]
theorem JL (h:Run l){e:DElem}(hn:Ep l k=some e)(hm:e.made=t):(putR l k v t).length=l.length:=by rw [GS h,hn];exact if_pos hm
theorem JM (h:Run l){e:DElem}(hn:Ep l k=some e)(hm : ¬ e.made=t):(putR l k v t).length=l.length+1:=by rw [GS h,hn];exact if_neg hm
theorem Ml (h:Run l)(ht:EA l≤t)(hc:DG (Ev k v t)=0)(hn:(putR l k v t).length≤400):Kb (cutR l k t) (Ev k v t)=putR l k v t:=by
 obtain⟨_,h0,h1,_⟩:=Gx hc
 have hcut:=h.cutR ht h0 h1 k
 have hput:=h.putR ht hc hn
 refine I9 (Ht (Gp hcut.ord) _) (Gp hput.ord) fun x=>?_
 rw [JC]
 have hf:=IE h ht hc
 unfold putR
 rw [Gw h.ord,List.mem_append,List.mem_singleton]
 constructor
 · rintro(rfl | ⟨hx,_⟩)
   · exact .inl (.inr rfl)
   · unfold cutR at hx
     rcases (Gw h.ord).1 hx with hx | hx
     · exact .inl (.inl hx)
     · exact .inr hx
 · rintro((hx | rfl) | hx)
   · have hm:x∈cutR l k t:=by unfold cutR;exact(Gw h.ord).2 (.inl hx)
     exact .inr ⟨hm,hf x hm⟩
   · exact .inl rfl
   · have hm:x∈cutR l k t:=by unfold cutR;exact(Gw h.ord).2 (.inr hx)
     exact .inr ⟨hm,hf x hm⟩
end
theorem MG {N:NL}(h:Bh N=some (fN N))(root:Int):nlT ⟨root,fN N⟩=N:=(yf h).symm
theorem FV {t:DTree}{h:Nat}(hg:Good t h):yC F t=some (F6 (Dx t.nodes h t.root)):=F4 (Im hg) hg
omit [Big F] in
theorem FX (t:DTree)(k:DKey)(v:ByteArray)(u:Int):yA F t k v u=(yC F t).bind fun r1=>bif (r1 != 0) then some ((DTree.mk 0 []),r1) else (xM (DElem.mk k u 0 v)).bind fun r2=>bif (r2 != 0) then some ((DTree.mk 0 []),r2) else
 (yY F t u).bind fun r3=>bif r3 then some ((DTree.mk 0 []),9) else (zt F t k).bind fun r4=>(yS F t).bind fun r5 =>
 bif (r4.2&&(r4.1.made == u)) then (Ae (σ:=NL × Int) (ρ:=NL) (GB F (DElem.mk k u 0 v)) F (nlT r5,r5.root)).bind fun q1=>(Bh q1).bind fun l1=>some ((DTree.mk r5.root l1),0)
 else (zI F t).bind fun r16=>bif r16 then some ((DTree.mk 0 []),8) else
  (bif r4.2 then (Ae (σ:=NL × Int) (ρ:=NL) (GB F (DElem.mk r4.1.key r4.1.made u r4.1.val)) F (nlT r5,r5.root)).bind fun q2=>some q2 else some (nlT r5):Option NL).bind fun z5 =>
  (Lo F (DElem.mk k u 0 v) z5 r5.root).bind fun z=>match z with | (z10,z11)=>(Bh z11).bind fun l2=>some ((DTree.mk z10 l2),0):=rfl
theorem Jg {t:DTree}{h:Nat}(hg:Good t h)(k:DKey)(v:ByteArray)(u:Int)(hz:Ic (Dx t.nodes h t.root) k v u≠0):yA F t k v u=some (zT,Ic (Dx t.nodes h t.root) k v u):=by
 rw [FX,FV hg,obs]
 unfold Ic at hz ⊢
 by_cases h1:F6 (Dx t.nodes h t.root)=0
 rotate_left
 · rw [DU h1,cond_true,if_pos h1];rfl
 have hrun:=EI.1 h1
 rw [if_neg (by simpa using h1)] at hz ⊢
 rw [DO h1,cond_false,Ei,obs]
 by_cases h2:DG (Ev k v u)=0
 rotate_left
 · rw [show DElem.mk k u 0 v=Ev k v u from rfl,DU h2,cond_true,if_pos h2];rfl
 rw [if_neg (by simpa using h2)] at hz ⊢
 obtain⟨_,u0,u1,_⟩:=Gx h2
 rw [show DElem.mk k u 0 v=Ev k v u from rfl,DO h2,cond_false,ED hg,obs]
 by_cases h3:u<EA (Dx t.nodes h t.root)
 · rw [decide_eq_true (.inr (.inr h3)),cond_true,if_pos h3];rfl
 rw [if_neg h3] at hz ⊢
 rw [decide_eq_false (by omega),cond_false,EU hg hrun,obs,Fq hg.len hg.chk,obs]
 have hl:=hrun.len
 by_cases h4:400<(putR (Dx t.nodes h t.root) k v u).length
 rotate_left
 · exact absurd (if_neg h4) hz
 rw [if_pos h4]
 have hnm:((I5 (Ep (Dx t.nodes h t.root) k)).2&&((I5 (Ep (Dx t.nodes h t.root) k)).1.made == u))=false:=by
  cases hn:Ep (Dx t.nodes h t.root) k with
  | none=>rfl
  | some e =>
   show (true&&(e.made == u))=false
   rw [Bool.true_and,beq_eq_false_iff_ne]
   intro hm
   have hpl:=JL (v:=v) hrun hn hm
   omega
 have h5:400≤(Dx t.nodes h t.root).length:=by
  cases hn:Ep (Dx t.nodes h t.root) k with
  | none=>have hpl:=JK (v:=v) (t:=u) hrun hn;omega
  | some e =>
   by_cases hm:e.made=u
   · have hpl:=JL (v:=v) hrun hn hm;omega
   · have hpl:=JM (v:=v) hrun hn hm;omega
 rw [hnm,cond_false,Fk hg,obs,decide_eq_true h5,cond_true];rfl
theorem Gr {t:DTree}{h:Nat}(hg:Good t h)(k:DKey)(v:ByteArray)(u:Int)(hz:Ic (Dx t.nodes h t.root) k v u=0) :
 ∃ t' h',yA F t k v u=some (t',0)∧Good t' h'∧Dx t'.nodes h' t'.root=putR (Dx t.nodes h t.root) k v u:=by
 obtain⟨hrun,hc,hlast,hput⟩:=ID.1 hz
 obtain⟨_,u0,u1,_⟩:=Gx hc
 have hl:=hrun.len
 have hcut:=hrun.cutR hlast u0 u1 k
 have pre : ∀ r,((bif ((I5 (Ep (Dx t.nodes h t.root) k)).2&&((I5 (Ep (Dx t.nodes h t.root) k)).1.made == u)) then (Ae (σ:=NL × Int) (ρ:=NL) (GB F (Ev k v u)) F (nlT t,t.root)).bind fun q1=>(Bh q1).bind fun l1=>some ((DTree.mk t.root l1),(0:Int))
  else (zI F t).bind fun r16=>bif r16 then some ((DTree.mk 0 []),8) else
   (bif (I5 (Ep (Dx t.nodes h t.root) k)).2 then (Ae (σ:=NL × Int) (ρ:=NL) (GB F (DElem.mk (I5 (Ep (Dx t.nodes h t.root) k)).1.key (I5 (Ep (Dx t.nodes h t.root) k)).1.made u (I5 (Ep (Dx t.nodes h t.root) k)).1.val)) F (nlT t,t.root)).bind fun q2=>some q2 else some (nlT t):Option NL).bind fun z5 =>
   (Lo F (Ev k v u) z5 t.root).bind fun z=>match z with | (z10,z11)=>(Bh z11).bind fun l2=>some ((DTree.mk z10 l2),0))=r)→yA F t k v u=r:=fun r hh=>by
  rw [FX,FV hg,obs,DO (EI.2 hrun),cond_false,show DElem.mk k u 0 v=Ev k v u from rfl,Ei,obs,DO hc,cond_false,ED hg,obs,decide_eq_false (by omega),cond_false,EU hg hrun,obs,Fq hg.len hg.chk,obs]
  exact hh
 have add : ∀(t1:DTree),Good t1 h→t1.root=t.root→Dx t1.nodes h t1.root=cutR (Dx t.nodes h t.root) k u→∃ t' h',((Lo F (Ev k v u) (nlT t1) t.root).bind fun z=>match z with | (z10,z11)=>(Bh z11).bind fun l2=>some ((DTree.mk z10 l2),(0:Int)))=some (t',0)∧Good t' h'∧Dx t'.nodes h' t'.root=putR (Dx t.nodes h t.root) k v u:=fun t1 g1 hr1 he1=>by
  obtain⟨root,N,a1,a2,h',a3,a4⟩:=KX (F:=F) (e:=Ev k v u) g1 hc (by rw [he1];exact IE hrun hlast hc) (by rw [he1];exact hcut.len)
  rw [hr1] at a1
  refine⟨⟨root,fN N⟩,h',?_,a3,?_⟩
  · rw [a1,obs]
    dsimp only
    rw [a2,obs]
  · rw [a4,he1];exact Ml hrun hlast hc hput
 cases hn:Ep (Dx t.nodes h t.root) k with
 | none =>
  have hpl:=JK (v:=v) (t:=u) hrun hn
  rw [hn] at pre
  obtain⟨t',h',a1,a2,a3⟩:=add t hg rfl (Lw hrun hn).symm
  refine⟨t',h',pre _ ?_,a2,a3⟩
  show (bif false then _ else _)=_
  rw [cond_false,Fk hg,obs,decide_eq_false (by omega),cond_false]
  show ((bif false then _ else some (nlT t):Option NL).bind _)=_
  rw [cond_false,obs]
  exact a1
 | some e =>
  rw [hn] at pre
  have hem:=(FO hrun.ord).1 hn
  by_cases hm:e.made=u
  · obtain⟨N,c1,c2,c3,c4⟩:=HH (F:=F) (e:=Ev k v u) hg hc
    refine⟨⟨t.root,fN N⟩,h,pre _ ?_,c3,by rw [c4];exact Mm hrun hn hm⟩
    show (bif (true&&(e.made == u)) then _ else _)=_
    rw [Bool.true_and,show (e.made == u)=true by rw [beq_iff_eq];exact hm,cond_true,c1,obs,c2,obs]
  · have hce : DG { e with gone := u } = 0 := by
     have h1:=hcut.ok { e with gone:=u }
     refine h1 ?_
     rw [← HA hrun hn hm]
     exact List.mem_map.2 ⟨e,hem.1,if_pos rfl⟩
    obtain⟨N,c1,c2,c3,c4⟩:=HH (F:=F) (e:={ e with gone:=u }) hg hce
    obtain⟨t',h',a1,a2,a3⟩:=add ⟨t.root,fN N⟩ c3 rfl (by rw [← HA hrun hn hm];exact c4)
    rw [MG c2] at a1
    refine⟨t',h',pre _ ?_,a2,a3⟩
    have hpl:=JM (v:=v) hrun hn hm
    show (bif (true&&(e.made == u)) then _ else _)=_
    rw [Bool.true_and,show (e.made == u)=false by rw [beq_eq_false_iff_ne];exact hm,cond_false,Fk hg,obs,decide_eq_false (by omega),cond_false]
    show ((bif true then (Ae (σ:=NL × Int) (ρ:=NL) (GB F { e with gone:=u }) F (nlT t,t.root)).bind _ else _:Option NL).bind _)=_
    rw [cond_true,c1,obs,obs]
    exact a1
theorem Ii {t:DTree}(hs : ∀ n∈t.nodes,Small n)(hc:F8 F t≠0)(k:DKey)(v:ByteArray)(u:Int):yA F t k v u=some (zT,F8 F t):=by
 rw [FX,Fv hs hc,obs,DU hc,cond_true];rfl
omit [Big F] in
theorem FW (t:DTree)(k:DKey)(u:Int):zr F t k u=(yC F t).bind fun r1=>bif (r1 != 0) then some ((DTree.mk 0 []),r1) else (yx k).bind fun r2=>bif (r2 != 0) then some ((DTree.mk 0 []),r2) else
 (yY F t u).bind fun r3=>bif r3 then some ((DTree.mk 0 []),9) else (zt F t k).bind fun r4=>bif (!r4.2) then some ((DTree.mk 0 []),4) else
 bif (r4.1.made == u) then (yS F t).bind fun r5=>(wj r4.1).bind fun r7=>(Mj F r7 (nlT r5) r5.root).bind fun z=>match z with | (z1,z2)=>(Bh z1).bind fun l1=>some ((DTree.mk z2 l1),0)
 else (yS F t).bind fun r43=>(Ae (σ:=NL × Int) (ρ:=NL) (GB F (DElem.mk r4.1.key r4.1.made u r4.1.val)) F (nlT r43,r43.root)).bind fun q11=>(Bh q11).bind fun l2=>some ((DTree.mk r43.root l2),0):=rfl
theorem Ih {t:DTree}(hs : ∀ n∈t.nodes,Small n)(hc:F8 F t≠0)(k:DKey)(u:Int):zr F t k u=some (zT,F8 F t):=by
 rw [FW,Fv hs hc,obs,DU hc,cond_true];rfl
theorem Jf {t:DTree}{h:Nat}(hg:Good t h)(k:DKey)(u:Int)(hz:IM (Dx t.nodes h t.root) k u≠0):zr F t k u=some (zT,IM (Dx t.nodes h t.root) k u):=by
 rw [FW,FV hg,obs]
 unfold IM at hz ⊢
 by_cases h1:F6 (Dx t.nodes h t.root)=0
 rotate_left
 · rw [DU h1,cond_true,if_pos h1];rfl
 have hrun:=EI.1 h1
 rw [if_neg (by simpa using h1)] at hz ⊢
 rw [DO h1,cond_false,Fn,obs]
 by_cases h2:Fs k=0
 rotate_left
 · rw [DU h2,cond_true,if_pos h2];rfl
 rw [if_neg (by simpa using h2)] at hz ⊢
 rw [DO h2,cond_false,ED hg,obs]
 by_cases h3:u<1∨2147483647<u∨u<EA (Dx t.nodes h t.root)
 · rw [decide_eq_true h3,cond_true,if_pos h3];rfl
 rw [if_neg h3] at hz ⊢
 rw [decide_eq_false h3,cond_false,EU hg hrun,obs]
 cases hn:Ep (Dx t.nodes h t.root) k with
 | none=>rfl
 | some e=>rw [hn] at hz;exact absurd rfl hz
theorem H6 {t:DTree}{h:Nat}(hg:Good t h)(k:DKey)(u:Int)(hz:IM (Dx t.nodes h t.root) k u=0) :
 ∃ t' h',zr F t k u=some (t',0)∧Good t' h'∧Dx t'.nodes h' t'.root=cutR (Dx t.nodes h t.root) k u:=by
 obtain⟨hrun,hk,u0,u1,hlast,hnow⟩:=Io.1 hz
 obtain⟨e,hn⟩:=Option.isSome_iff_exists.1 hnow
 have hem:=(FO hrun.ord).1 hn
 have hcut:=hrun.cutR hlast u0 u1 k
 rw [FW,FV hg,obs,DO (EI.2 hrun),cond_false,Fn,obs,DO hk,cond_false,ED hg,obs,decide_eq_false (by omega),cond_false,EU hg hrun,obs,hn]
 show ∃ t' h',(bif (!true) then _ else bif (e.made == u) then _ else _)=_∧_
 rw [Bool.not_true,cond_false]
 by_cases hm:e.made=u
 · obtain⟨root,N,o1,o2,h',o3,o4⟩:=Lc (F:=F) (sp:=Dy e) hg
   refine⟨⟨root,fN N⟩,h',?_,o3,by rw [o4];exact L6 hrun hn hm⟩
   rw [show (e.made == u)=true by rw [beq_iff_eq];exact hm,cond_true,Fq hg.len hg.chk,obs,DF,obs]
   show (Mj F (Dy e) (nlT t) t.root).bind _=_
   rw [o1,obs]
   dsimp only
   rw [o2,obs]
 · have hce : DG { e with gone := u } = 0 := by
    refine hcut.ok { e with gone:=u } ?_
    rw [← HA hrun hn hm]
    exact List.mem_map.2 ⟨e,hem.1,if_pos rfl⟩
   obtain⟨N,c1,c2,c3,c4⟩:=HH (F:=F) (e:={ e with gone:=u }) hg hce
   refine⟨⟨t.root,fN N⟩,h,?_,c3,by rw [c4];exact HA hrun hn hm⟩
   rw [show (e.made == u)=false by rw [beq_eq_false_iff_ne];exact hm,cond_false,Fq hg.len hg.chk,obs]
   show (Ae (σ:=NL × Int) (ρ:=NL) (GB F { e with gone:=u }) F (nlT t,t.root)).bind _=_
   rw [c1,obs,c2,obs]
end
section

end
section

end
section
variable {F:Nat} [Big F]
end
section
variable {F:Nat} [Big F]
theorem Ls {l:List DElem}(h : ¬ 400<l.length)(hb:J0 l=none):ofR l=(EX l,0):=by
 unfold ofR;rw [if_neg h,hb]
theorem of_eq {l:List DElem}(hl:l.length≤400)(ho : ∀ e∈l,DG e=0)(hp:l.Pairwise SpO):yr F l=some (EX l):=by
 unfold yr
 rw [Jm,obs,Ls (by omega) (Ik.2 ⟨ho,hp⟩)]
theorem Ga {t:DTree}{h:Nat}(hg:Good t h):∀ n∈t.nodes,Small n:=fun n hn=>Ex (hg.chk n hn)
theorem LP {l:List DElem}(hl:l.length≤8)(ho : ∀ e∈l,DG e=0)(hp:l.Pairwise SpO):Good (EX l) 0∧Dx (EX l).nodes 0 (EX l).root=l∧(EX l).nodes.length=1:=by
 obtain⟨h,hg,he,hn,h1,hm⟩:=Jl (by omega) ho hp
 have h0:h=0:=by
  cases h with
  | zero=>rfl
  | succ h=>have:=hm 0 (by omega);rw [cN,KO hl] at this;omega
 subst h0
 exact⟨hg,he,by rw [hn,sNk,cN,KO hl]⟩
def JZ (off:Int)(v:ByteArray):DElem:=⟨⟨0,0,off⟩,1,0,v⟩
theorem Mx (off:Int)(v:ByteArray):yj off v=some (JZ off v):=rfl
theorem My {off:Int}{v:ByteArray}(h0:0≤off)(h1:off≤1000)(hv:v.size≤40):DG (JZ off v)=0:=by
 unfold DG JZ Fs
 dsimp only
 rw [if_neg (by rw [if_neg (by omega)];simp),if_neg (by omega),if_neg (by omega)]
theorem MH {e:DElem}(h:DG e=0):(∀ x∈[e],DG x=0)∧[e].Pairwise SpO:=⟨fun x hx=>by rw [List.mem_singleton.1 hx];exact h,List.pairwise_singleton _ _⟩
end
section
variable {F:Nat} [Big F]
theorem JI {t:DTree}(hs : ∀ n∈t.nodes,Small n)(hc:F8 F t≠0)(k:DKey)(u:Int):zo F t k u=some (zeroE,F8 F t):=by
 unfold zo
 rw [Fv hs hc,obs,DU hc,cond_true];rfl
theorem Ms {l m:List DElem}(hl:Run l)(hm:Run m){k:DKey}{u:Int}{t:Int}(h:atR m k u=atR l k u∨atR m k u=(atR l k u).map (H8 t)):atE m k u=atE l k u∧(atV l k u).val=(atV m k u).val∧(atV l k u).made=(atV m k u).made:=by
 have eE : ∀ {l:List DElem},Run l→atE l k u=if Fs k≠0 then Fs k else if (atR l k u).isNone then 4 else 0:=fun {l} h=>by
  unfold atE;rw [if_neg (by rw [EI.2 h];simp)]
 have eV : ∀ {l:List DElem},Run l→atV l k u=if Fs k=0 then (atR l k u).getD zeroE else zeroE:=fun {l} h=>by
  unfold atV;rw [EI.2 h];simp
 rw [eE hl,eE hm,eV hl,eV hm]
 by_cases hk:Fs k=0
 · simp only [hk,ne_eq,not_true_eq_false,if_false,if_true]
   rcases h with h | h
   · rw [h];exact⟨rfl,rfl,rfl⟩
   · rw [h]
     cases atR l k u with
     | none=>exact ⟨rfl,rfl,rfl⟩
     | some e =>
      refine⟨rfl,?_,?_⟩
      · show e.val=(H8 t e).val
        unfold H8;split <;> rfl
      · show e.made=(H8 t e).made
        unfold H8;split <;> rfl
 · simp only [hk,ne_eq,not_false_eq_true,if_false,if_true]
   exact⟨trivial,trivial,trivial⟩
theorem JR (a:ByteArray):seq a a=true:=by unfold seq;simp
theorem FD (F:Nat)[Big F](t:DTree)(k o:DKey)(v:ByteArray)(u w:Int)(ok:okTree t)(okk:okKey k)(oko:okKey o)(okv:MO v)(_:v.size≤reachBytes)(oku:El .i64 u)(okw:El .i64 w):yn F t k o v u w=some true:=by
 have hs:=Kw ok
 have hca:DG (JZ 1 (ByteArray.mk #[97]))=0:=My (by decide) (by decide) (by decide)
 obtain⟨ho,hp⟩:=MH hca
 obtain⟨hg,he,hn⟩:=LP (l:=[JZ 1 (ByteArray.mk #[97])]) (by simp) ho hp
 have hz0:Ic [JZ 1 (ByteArray.mk #[97])] (DKey.mk 0 0 1) (ByteArray.mk #[98]) 2=0:=by decide
 obtain⟨t1,h1,k1,k2,k3⟩:=Gr (F:=F) hg (DKey.mk 0 0 1) (ByteArray.mk #[98]) 2 (by rw [he];exact hz0)
 rw [he] at k3
 have k4:putR [JZ 1 (ByteArray.mk #[97])] (DKey.mk 0 0 1) (ByteArray.mk #[98]) 2=[DElem.mk (DKey.mk 0 0 1) 1 2 (ByteArray.mk #[97]),Ev (DKey.mk 0 0 1) (ByteArray.mk #[98]) 2]:=by decide
 rw [k4] at k3
 unfold yn
 rw [Mx,obs,of_eq (by simp) ho hp,obs,k1,obs]
 dsimp only
 rw [Fo (Ga k2) k2,k3,obs]
 dsimp only
 rw [show atE [DElem.mk (DKey.mk 0 0 1) 1 2 (ByteArray.mk #[97]),Ev (DKey.mk 0 0 1) (ByteArray.mk #[98]) 2] (DKey.mk 0 0 1) 1=0 by decide,show (atV [DElem.mk (DKey.mk 0 0 1) 1 2 (ByteArray.mk #[97]),Ev (DKey.mk 0 0 1) (ByteArray.mk #[98]) 2] (DKey.mk 0 0 1) 1).val=ByteArray.mk #[97] by decide,JR,DO rfl]
 rw [show (false||(false || !true))=false from rfl,cond_false]
 generalize hw' : (if IntKind.i64.wrap (u-1)<w then IntKind.i64.wrap (u-1) else w)=w'
 have hwu:1≤u→u≤2147483647→w'<u:=fun a b=>by
  rw [w64 (by omega) (by omega)] at hw'
  rw [← hw']
  split <;> omega
 by_cases hc:F8 F t=0
 rotate_left
 · rw [Ii hs hc,obs,Ih hs hc,obs,JI hs hc,obs]
   dsimp only
   rw [show (F8 F t == 0)=false by rw [beq_eq_false_iff_ne];exact hc,cond_false]
   rfl
 obtain⟨h,g⟩:=Il.1 hc
 have P : ∃ tp,yA F t k v u=some (tp,Ic (Dx t.nodes h t.root) k v u)∧(Ic (Dx t.nodes h t.root) k v u=0→∃ y,zo F tp o w' = some (y,atE (Dx t.nodes h t.root) o w')∧(atV (Dx t.nodes h t.root) o w').val=y.val∧(atV (Dx t.nodes h t.root) o w').made=y.made):=by
  by_cases hz:Ic (Dx t.nodes h t.root) k v u=0
  · obtain⟨t',h',a1,a2,a3⟩:=Gr (F:=F) g k v u hz
    obtain⟨hrun,hcn,hl,hpl⟩:=ID.1 hz
    obtain⟨_,u0,u1,_⟩:=Gx hcn
    have hwl:=hwu u0 u1
    obtain⟨b1,b2,b3⟩:=Ms (t:=u) hrun (hrun.putR hl hcn hpl) (k:=o) (u:=w') (by
     by_cases hok:o=k
     · subst hok;exact .inr (Jj hwl)
     · exact .inl (IL hrun hok w'))
    refine⟨t',by rw [hz];exact a1,fun _=>⟨atV (putR (Dx t.nodes h t.root) k v u) o w',?_,b2,b3⟩⟩
    rw [Fo (Ga a2) a2,a3,b1]
  · exact⟨_,Jg g k v u hz,fun h=>absurd h hz⟩
 have C : ∃ tp,zr F t k u=some (tp,IM (Dx t.nodes h t.root) k u)∧(IM (Dx t.nodes h t.root) k u=0→∃ y,zo F tp o w' = some (y,atE (Dx t.nodes h t.root) o w')∧(atV (Dx t.nodes h t.root) o w').val=y.val∧(atV (Dx t.nodes h t.root) o w').made=y.made):=by
  by_cases hz:IM (Dx t.nodes h t.root) k u=0
  · obtain⟨t',h',a1,a2,a3⟩:=H6 (F:=F) g k u hz
    obtain⟨hrun,_,u0,u1,hl,_⟩:=Io.1 hz
    have hwl:=hwu u0 u1
    obtain⟨b1,b2,b3⟩:=Ms (t:=u) hrun (hrun.cutR hl u0 u1 k) (k:=o) (u:=w') (by
     by_cases hok:o=k
     · subst hok;exact .inr (Ji hrun hwl)
     · exact .inl (IK hrun hok w'))
    refine⟨t',by rw [hz];exact a1,fun _=>⟨atV (cutR (Dx t.nodes h t.root) k u) o w',?_,b2,b3⟩⟩
    rw [Fo (Ga a2) a2,a3,b1]
  · exact⟨_,Jf g k u hz,fun h=>absurd h hz⟩
 obtain⟨tp,p1,p2⟩:=P
 obtain⟨tc,c1,c2⟩:=C
 rw [p1,obs,c1,obs,Fo hs g,obs]
 dsimp only
 have blk : ∀(tp:DTree) (pe:Int),(pe=0→∃ y,zo F tp o w' = some (y,atE (Dx t.nodes h t.root) o w')∧(atV (Dx t.nodes h t.root) o w').val=y.val∧(atV (Dx t.nodes h t.root) o w').made=y.made) →
  (bif (pe == 0) then
   (zo F tp o w').bind fun r8 =>
   bif ((atE (Dx t.nodes h t.root) o w' != r8.2)||((!(seq (atV (Dx t.nodes h t.root) o w').val r8.1.val))||((atV (Dx t.nodes h t.root) o w').made != r8.1.made))) then
    some (.inr false)
   else
    some (.inl ())
   else
    some (.inl ()):Option ((Unit) ⊕ Bool))=some (.inl ()):=fun tp pe hq=>by
  by_cases hz:pe=0
  · obtain⟨y,q1,q2,q3⟩:=hq hz
    rw [hz,show ((0:Int) == 0)=true from rfl,cond_true,q1,obs]
    dsimp only
    rw [q2,q3,JR]
    simp
  · rw [show (pe == 0)=false by rw [beq_eq_false_iff_ne];exact hz,cond_false]
 refine Eq.trans (congrArg (fun q=>Option.bind q _) (blk tp _ p2)) ?_
 rw [obs]
 dsimp only
 refine Eq.trans (congrArg (fun q=>Option.bind q _) (blk tc _ c2)) ?_
 rw [obs]
end
section
open Go.RowKit
theorem LR:ownKnob Try.prog.godebug=none:=by kernel_rfl
theorem Le:laidOutB Try.prog=true:=by kernel_rfl
theorem Mi:DZ Try.prog 26 Dv okKey:=La Try.underlying26 (by kernel_rfl) rfl (by kernel_rfl) (Ew Try.underlying3) rfl (by kernel_rfl) (Ew Try.underlying3) rfl (by kernel_rfl) (Ew Try.underlying3)
theorem MT:DZ Try.prog 28 eElem okElem:=Km Try.underlying28 (by kernel_rfl) rfl (by kernel_rfl) Mi rfl (by kernel_rfl) (Ew Try.underlying3) rfl (by kernel_rfl) (Ew Try.underlying3) rfl (by kernel_rfl) (Lb Try.underlying9)
theorem MU:DZ Try.prog 34 (yF eElem) (EG 56 okElem):=FU Try.underlying34 (by kernel_rfl) (by kernel_rfl) MT
theorem MP:DZ Try.prog 47 (yF va) (EG 8 (El .i64)):=FU Try.underlying47 (by kernel_rfl) (by kernel_rfl) (Ew Try.underlying3)
theorem MV:DZ Try.prog 43 eSpot okSpot:=Ko Try.underlying43 (by kernel_rfl) rfl (by kernel_rfl) Mi rfl (by kernel_rfl) (Ew Try.underlying3)
theorem MW:DZ Try.prog 95 (yF eSpot) (EG 32 okSpot):=FU Try.underlying95 (by kernel_rfl) (by kernel_rfl) MV
theorem MX:DZ Try.prog 97 wY okNode:=Kn Try.underlying97 (by kernel_rfl) rfl (by kernel_rfl) (Ew Try.underlying3) rfl (by kernel_rfl) MU rfl (by kernel_rfl) MP rfl (by kernel_rfl) MW rfl (by kernel_rfl) MP
theorem MR:DZ Try.prog 22 (yF wY) (EG 104 okNode):=FU Try.underlying22 (by kernel_rfl) (by kernel_rfl) MX
theorem MS:DZ Try.prog 24 yP okTree:=Kp Try.underlying24 (by kernel_rfl) rfl (by kernel_rfl) (Ew Try.underlying3) rfl (by kernel_rfl) MR
set_option maxRecDepth 100000
def orderSigns:List Char:=[.ofNat 104,.ofNat 97,.ofNat 114,.ofNat 110,.ofNat 101,.ofNat 115,.ofNat 115,.ofNat 32,.ofNat 99,.ofNat 101,.ofNat 99,.ofNat 102,.ofNat 54,.ofNat 48,.ofNat 102,.ofNat 51,.ofNat 55,.ofNat 50,.ofNat 101,.ofNat 51,.ofNat 100,.ofNat 49,.ofNat 52,.ofNat 50,.ofNat 50,.ofNat 55,.ofNat 56,.ofNat 55,.ofNat 56,.ofNat 48,.ofNat 54,.ofNat 102,.ofNat 57,.ofNat 56,.ofNat 52,.ofNat 57,.ofNat 100,.ofNat 99,.ofNat 53,.ofNat 97,.ofNat 51,.ofNat 52,.ofNat 52,.ofNat 55,.ofNat 100,.ofNat 55,.ofNat 51,.ofNat 53,.ofNat 56,.ofNat 54,.ofNat 102,.ofNat 102,.ofNat 51,.ofNat 49,.ofNat 50,.ofNat 100,.ofNat 57,.ofNat 100,.ofNat 102,.ofNat 55,.ofNat 50,.ofNat 99,.ofNat 53,.ofNat 101,.ofNat 54,.ofNat 50,.ofNat 55,.ofNat 100,.ofNat 54,.ofNat 55,.ofNat 55,.ofNat 101,.ofNat 32,.ofNat 99,.ofNat 117,.ofNat 116,.ofNat 32,.ofNat 97,.ofNat 116,.ofNat 32,.ofNat 97,.ofNat 110,.ofNat 110,.ofNat 97,.ofNat 108,.ofNat 105,.ofNat 115,.ofNat 116,.ofNat 47,.ofNat 97,.ofNat 110,.ofNat 110,.ofNat 97,.ofNat 108,.ofNat 107,.ofNat 101,.ofNat 101,.ofNat 112,.ofNat 46,.ofNat 71,.ofNat 114,.ofNat 111,.ofNat 119,.ofNat 83,.ofNat 101,.ofNat 116,.ofNat 115,.ofNat 32,.ofNat 97,.ofNat 110,.ofNat 110,.ofNat 97,.ofNat 108,.ofNat 105,.ofNat 115,.ofNat 116,.ofNat 47,.ofNat 97,.ofNat 110,.ofNat 110,.ofNat 97,.ofNat 108,.ofNat 107,.ofNat 101,.ofNat 101,.ofNat 112,.ofNat 46,.ofNat 83,.ofNat 104,.ofNat 114,.ofNat 105,.ofNat 110,.ofNat 107,.ofNat 83,.ofNat 111,.ofNat 109,.ofNat 101,.ofNat 32,.ofNat 97,.ofNat 110,.ofNat 110,.ofNat 97,.ofNat 108,.ofNat 105,.ofNat 115,.ofNat 116,.ofNat 47,.ofNat 97,.ofNat 110,.ofNat 110,.ofNat 97,.ofNat 108,.ofNat 107,.ofNat 101,.ofNat 101,.ofNat 112,.ofNat 46,.ofNat 83,.ofNat 104,.ofNat 114,.ofNat 105,.ofNat 110,.ofNat 107,.ofNat 65,.ofNat 108,.ofNat 108,.ofNat 32,.ofNat 97,.ofNat 110,.ofNat 110,.ofNat 97,.ofNat 108,.ofNat 105,.ofNat 115,.ofNat 116,.ofNat 47,.ofNat 97,.ofNat 110,.ofNat 110,.ofNat 97,.ofNat 108,.ofNat 107,.ofNat 101,.ofNat 101,.ofNat 112,.ofNat 46,.ofNat 80,.ofNat 114,.ofNat 117,.ofNat 110,.ofNat 101,.ofNat 83,.ofNat 116,.ofNat 101,.ofNat 112,.ofNat 115,.ofNat 32,.ofNat 97,.ofNat 110,.ofNat 110,.ofNat 97,.ofNat 108,.ofNat 105,.ofNat 115,.ofNat 116,.ofNat 47,.ofNat 97,.ofNat 110,.ofNat 110,.ofNat 97,.ofNat 108,.ofNat 107,.ofNat 101,.ofNat 101,.ofNat 112,.ofNat 46,.ofNat 71,.ofNat 114,.ofNat 111,.ofNat 119,.ofNat 79,.ofNat 114,.ofNat 100,.ofNat 101,.ofNat 114,.ofNat 115,.ofNat 32,.ofNat 97,.ofNat 110,.ofNat 110,.ofNat 97,.ofNat 108,.ofNat 105,.ofNat 115,.ofNat 116,.ofNat 47,.ofNat 97,.ofNat 110,.ofNat 110,.ofNat 97,.ofNat 108,.ofNat 107,.ofNat 101,.ofNat 101,.ofNat 112,.ofNat 46,.ofNat 84,.ofNat 114,.ofNat 101,.ofNat 101,.ofNat 69,.ofNat 109,.ofNat 112,.ofNat 116,.ofNat 121,.ofNat 32,.ofNat 97,.ofNat 110,.ofNat 110,.ofNat 97,.ofNat 108,.ofNat 105,.ofNat 115,.ofNat 116,.ofNat 47,.ofNat 97,.ofNat 110,.ofNat 110,.ofNat 97,.ofNat 108,.ofNat 107,.ofNat 101,.ofNat 101,.ofNat 112,.ofNat 46,.ofNat 71,.ofNat 114,.ofNat 111,.ofNat 119,.ofNat 77,.ofNat 97,.ofNat 110,.ofNat 121,.ofNat 32,.ofNat 97,.ofNat 110,.ofNat 110,.ofNat 97,.ofNat 108,.ofNat 105,.ofNat 115,.ofNat 116,.ofNat 47,.ofNat 97,.ofNat 110,.ofNat 110,.ofNat 97,.ofNat 108,.ofNat 107,.ofNat 101,.ofNat 101,.ofNat 112,.ofNat 46,.ofNat 84,.ofNat 114,.ofNat 101,.ofNat 101,.ofNat 70,.ofNat 117,.ofNat 108,.ofNat 108,.ofNat 32,.ofNat 97,.ofNat 110,.ofNat 110,.ofNat 97,.ofNat 108,.ofNat 105,.ofNat 115,.ofNat 116,.ofNat 47,.ofNat 97,.ofNat 110,.ofNat 110,.ofNat 97,.ofNat 108,.ofNat 107,.ofNat 101,.ofNat 101,.ofNat 112,.ofNat 46,.ofNat 71,.ofNat 114,.ofNat 111,.ofNat 119,.ofNat 83,.ofNat 104,.ofNat 114,.ofNat 105,.ofNat 110,.ofNat 107,.ofNat 115,.ofNat 32,.ofNat 97,.ofNat 110,.ofNat 110,.ofNat 97,.ofNat 108,.ofNat 105,.ofNat 115,.ofNat 116,.ofNat 47,.ofNat 97,.ofNat 110,.ofNat 110,.ofNat 97,.ofNat 108,.ofNat 107,.ofNat 101,.ofNat 101,.ofNat 112,.ofNat 46,.ofNat 87,.ofNat 114,.ofNat 105,.ofNat 116,.ofNat 101,.ofNat 80,.ofNat 97,.ofNat 115,.ofNat 116,.ofNat 32,.ofNat 97,.ofNat 110,.ofNat 110,.ofNat 97,.ofNat 108,.ofNat 105,.ofNat 115,.ofNat 116,.ofNat 47,.ofNat 97,.ofNat 110,.ofNat 110,.ofNat 97,.ofNat 108,.ofNat 107,.ofNat 101,.ofNat 101,.ofNat 112,.ofNat 46,.ofNat 87,.ofNat 114,.ofNat 105,.ofNat 116,.ofNat 101,.ofNat 83,.ofNat 97,.ofNat 109,.ofNat 101]
theorem Kq : Try.prog.initOrder = "harness cecf60f372e3d1422787806f9849dc5a3447d73586ff312d9df72c5e627d677e cut at annalist/annalkeep.GrowSets annalist/annalkeep.ShrinkSome annalist/annalkeep.ShrinkAll annalist/annalkeep.PruneSteps annalist/annalkeep.GrowOrders annalist/annalkeep.TreeEmpty annalist/annalkeep.GrowMany annalist/annalkeep.TreeFull annalist/annalkeep.GrowShrinks annalist/annalkeep.WritePast annalist/annalkeep.WriteSame" := by kernel_rfl
theorem JH : ("harness cecf60f372e3d1422787806f9849dc5a3447d73586ff312d9df72c5e627d677e cut at annalist/annalkeep.GrowSets annalist/annalkeep.ShrinkSome annalist/annalkeep.ShrinkAll annalist/annalkeep.PruneSteps annalist/annalkeep.GrowOrders annalist/annalkeep.TreeEmpty annalist/annalkeep.GrowMany annalist/annalkeep.TreeFull annalist/annalkeep.GrowShrinks annalist/annalkeep.WritePast annalist/annalkeep.WriteSame" : String) = String.ofList orderSigns := by kernel_rfl
theorem GR:Try.prog.initOrder.toList=orderSigns:=by rw [Kq,JH];exact String.toList_ofList
theorem Mf (P:Program)(h:P.initOrder.toList=orderSigns):P.make=some .cut:=by
 unfold Program.make Program.headLifts
 rw [h]
 kernel_rfl
theorem LM (P:Program)(h:P.initOrder.toList=orderSigns):P.liftsFinal=false:=by
 unfold Program.liftsFinal Program.headLifts
 rw [h]
 kernel_rfl
theorem Lx (P:Program)(h:P.initOrder.toList=orderSigns)(h1:P.laysLater=false)(h2:P.bearsReflect=false)(h3:P.doorFits []=true):P.mayEnter=true:=by
 unfold Program.mayEnter
 rw [h,h1,h2]
 have e:(stripLifts liftWords (behindMainWord (wordsSigns orderSigns))).1=[]:=by kernel_rfl
 have e0 : behindMainWord (wordsSigns orderSigns) = "cut".toList :: (behindMainWord (wordsSigns orderSigns)).tail := by kernel_rfl
 rw [e0] at e ⊢
 dsimp only
 rw [e,h3]
 clear h h1 h2 h3
 change _=true
 kernel_rfl
theorem Lg:Try.prog.make=some .cut:=Mf _ GR
theorem Kv:Try.prog.liftsFinal=false:=LM _ GR
theorem Ku:Try.prog.mayEnter=true:=Lx _ GR (by kernel_rfl) (by kernel_rfl) (by kernel_rfl)
end
end Go.Proofs.Ytcmkdoahkncakaa
