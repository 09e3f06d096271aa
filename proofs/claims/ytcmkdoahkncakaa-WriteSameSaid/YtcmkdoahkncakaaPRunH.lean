/- Plain Lean: what the functions on runs compute. Its conditions: none. -/
import Derived.Test.YtcmkdoahkncakaaRunFH
import Derived.Test.YtcmkdoahkncakaaMRunH
import Derived.Test.YtcmkdoahkncakaaPLoopH
namespace Go.Proofs.Ytcmkdoahkncakaa
set_option linter.unusedVariables false
set_option linter.unusedSimpArgs false
variable {F:Nat} [Big F]
theorem DF (e:DElem):wj e=some (Dy e):=rfl
def Lg (p e:DElem):Bool:=decide (cmpS (Dy p) (Dy e)<0)&&(p.key != e.key||(p.gone != 0&&decide (p.gone≤e.made)))
theorem I9 {p e:DElem}:Lg p e=true↔Bef p e:=by
 unfold Lg Bef
 simp only [Bool.and_eq_true,Bool.or_eq_true,decide_eq_true_eq,bne_iff_ne,ne_eq]
 constructor
 · rintro⟨h1,h2⟩;exact⟨h1,fun hk=>h2.resolve_left fun h=>h hk⟩
 · rintro⟨h1,h2⟩;exact⟨h1,(Decidable.em (p.key=e.key)).elim (fun h=>.inr (h2 h)) .inl⟩
def F1 (l:List DElem)(k:Nat)(e:DElem):Option Int :=
 if DG e≠0 then some (DG e) else if k=0 then none else
  match l[k-1]? with
  | some p=>if Lg p e then none else some 3
  | none=>none
theorem HJ {l:List DElem}{e:DElem}(h:DG e=0):F1 l 0 e=none:=by unfold F1;rw [if_neg (by simpa using h),if_pos rfl]
theorem GA {l:List DElem}{j:Nat}{p e:DElem}(h:DG e=0)(hj:l[j]? = some p):F1 l (j+1) e=if Lg p e then none else some 3:=by
 unfold F1;rw [if_neg (by simpa using h),if_neg (by omega),Nat.add_sub_cancel,hj]
theorem Id {l:List DElem}{k:Nat}{e:DElem}(h:DG e≠0):F1 l k e=some (DG e):=by unfold F1;rw [if_pos h]
def FM (l:List DElem):Int:=if 400<l.length then 2 else ((l.zipIdx).findSome? fun p=>F1 l p.2 p.1).getD 0
theorem Es {α β γ:Type}(g:β→γ)(w:α→Option β):∀ l:List α,(l.findSome? fun a=>(w a).map g)=(l.findSome? w).map g
 | []=>rfl
 | a::l=>by
  rw [List.findSome?_cons,List.findSome?_cons]
  cases w a with
  | some b=>rfl
  | none=>exact Es g w l
theorem Fs (l:List DElem):yz F l=some (FM l):=by
 unfold yz FM
 by_cases hl:400<l.length
 · rw [if_pos hl,decide_eq_true (by omega),cond_true]
 · rw [if_neg hl,decide_eq_false (by omega),cond_false]
   rw [EK l (fun k e=>(F1 l k e).map Sum.inr) (Sum.inl ()) (by omega) rfl (fun k e hk hb=>?_) (by simp)]
   · rw [Es]
     cases l.zipIdx.findSome? fun p=>F1 l p.2 p.1 <;> rfl
   · have hkl:=(ggs.1 hk).1
     rw [decide_eq_true (by omega),cond_true,DA,hk,obs,Eb,obs]
     by_cases hc:DG e=0
     · rw [DI hc,cond_false]
       cases k with
       | zero=>rw [HJ hc];simp [w64]
       | succ j =>
        obtain⟨p,hj⟩ : ∃ p,l[j]? = some p:=⟨_,gge (show j<l.length by omega)⟩
        rw [GA hc hj,show (((j+1:Nat):Int) == 0)=false by rw [beq_eq_false_iff_ne];omega,cond_false,w64 (by omega) (by omega),show (((j+1:Nat):Int)-1)=(j:Int) by omega,DA,hj,w64 (by omega) (by omega)]
        simp only [obs,DF,DN]
        unfold Lg
        by_cases h1:cmpS (Dy p) (Dy e)<0
        · rw [decide_eq_false (by omega),cond_false,decide_eq_true h1,Bool.true_and]
          by_cases h2:p.key=e.key
          · rw [show (p.key == e.key)=true by simpa using h2,cond_true,show (p.key != e.key)=false by simpa using h2,Bool.false_or]
            by_cases h3:p.gone=0
            · rw [show (p.gone == 0)=true by simpa using h3,cond_true,show (p.gone != 0)=false by simpa using h3];rfl
            · rw [show (p.gone == 0)=false by simpa using h3,cond_false,show (p.gone != 0)=true by simpa using h3,Bool.true_and]
              by_cases h4:p.gone≤e.made
              · rw [decide_eq_false (by omega),decide_eq_true h4];rfl
              · rw [decide_eq_true (by omega),decide_eq_false h4];rfl
          · rw [show (p.key == e.key)=false by simpa using h2,cond_false,show (p.key != e.key)=true by simpa using h2];rfl
        · rw [decide_eq_true (by omega),cond_true,decide_eq_false h1];rfl
     · rw [DU hc,cond_true,Id hc];rfl
theorem Er {l:List DElem}:FM l=0↔Run l:=by
 unfold FM
 by_cases hl:400<l.length
 · rw [if_pos hl]
   constructor
   · intro h;cases h
   · intro h;have:=h.len;omega
 · rw [if_neg hl]
   cases hf:l.zipIdx.findSome? fun p=>F1 l p.2 p.1 with
   | some c =>
    obtain⟨k,e,hk,hb⟩:=FF hf
    rw [Option.getD_some]
    constructor
    · intro hc
      subst hc
      unfold F1 at hb
      split at hb
      · rename_i h;exact absurd (Option.some.inj hb) h
      · split at hb
        · cases hb
        · split at hb
          · split at hb
            · cases hb
            · cases hb
          · cases hb
    · intro h
      have he:=h.ok e (List.mem_of_getElem? hk)
      cases k with
      | zero=>rw [HJ he] at hb;cases hb
      | succ j =>
       have hkl:=(ggs.1 hk).1
       have hj:l[j]? = some l[j]:=gge (by omega)
       have hp:=List.pairwise_iff_getElem.1 h.ord j (j+1) (by omega) hkl (by omega)
       rw [(ggs.1 hk).2] at hp
       rw [GA he hj,if_pos (I9.2 hp)] at hb
       cases hb
   | none =>
    rw [EW] at hf
    refine⟨fun _=>?_,fun _=>rfl⟩
    have hok : ∀ e∈l,DG e=0:=fun e he=>by
     obtain⟨k,hk,rfl⟩:=List.getElem_of_mem he
     have h1:=hf k _ (gge hk)
     by_cases hc:DG l[k]=0
     · exact hc
     · rw [Id hc] at h1;cases h1
    refine⟨by omega,hok,?_⟩
    rw [List.pairwise_iff_getElem]
    have step : ∀ j (hj:j+1<l.length),Bef l[j] l[j+1]:=fun j hj=>by
     have h1:=hf (j+1) _ (gge hj)
     rw [GA (hok _ (List.getElem_mem hj)) (gge (show j<l.length by omega))] at h1
     split at h1
     · rename_i h;exact I9.1 h
     · cases h1
    have far : ∀ d i (hd:i+d+1<l.length),Bef (l[i]'(by omega)) l[i+d+1]:=by
     intro d
     induction d with
     | zero=>intro i hd;exact step i hd
     | succ d ih =>
      intro i hd
      have h1:=ih i (by omega)
      have h2:=step (i+d+1) (by omega)
      exact h1.trans (hok _ (List.getElem_mem _)) h2
    intro i j hi hj hij
    have:=far (j-i-1) i (by omega)
    have e:i+(j-i-1)+1=j:=by omega
    simp only [e] at this
    exact this
theorem Ht (l:List DElem)(hl:l.length≤9223372036854775807):zV F l=some (Ed l):=by
 unfold zV Ed
 rw [EL l (fun t e=>if t<D5 e then D5 e else t) 0 (r:=l.foldl (fun t e=>if t<D5 e then D5 e else t) 0) hl rfl (fun k e hk=>?_) (by simp),obs]
 have hkl:=(ggs.1 hk).1
 dsimp only
 rw [decide_eq_true (by omega),cond_true,DA,hk,obs,GP,obs,w64 (by omega) (by omega)]
def LQ:DElem:=⟨⟨0,0,0⟩,0,0,ByteArray.mk #[]⟩
section
variable {α:Type} {l a b:List α} {x:α}
theorem IH (h:l=a++x::b):l[a.length]? = some x:=by rw [h,List.getElem?_append_right (Nat.le_refl _)];simp
theorem HH (h:l=a++x::b)(y:α):l.set a.length y=a++y::b:=by rw [h,List.set_append_right _ _ (Nat.le_refl _)];simp
theorem LL (h:l=a++x::b):l.take a.length=a:=by rw [h];exact List.take_left
theorem Lm (h:l=a++x::b):l.drop (a.length+1)=b:=by rw [h,List.drop_append];simp
end
theorem Kj {i j:Nat}(hj:j≤4611686018427387903)(hi:i≤j):IntKind.i64.wrap (shr .u64 (IntKind.u64.wrap (IntKind.i64.wrap ((i:Int)+(j:Int)))) 1)=(((i+j) / 2:Nat):Int):=by
 have e0:IntKind.i64.wrap ((i:Int)+(j:Int))=(i:Int)+(j:Int):=w64 (by omega) (by omega)
 have e1:IntKind.u64.wrap ((i:Int)+(j:Int))=(i:Int)+(j:Int):=by
  simp [IntKind.wrap,IntKind.bits,IntKind.signed];omega
 have e2:shr .u64 ((i:Int)+(j:Int)) 1=(((i+j) / 2:Nat):Int):=by
  unfold shr
  have e3:min 1 (IntKind.bits .u64)=1:=by decide
  rw [e3,Int.fdiv_eq_ediv_of_nonneg _ (by decide)]
  omega
 rw [e0,e1,e2,w64 (by omega) (by omega)]
theorem Jr {f:Int × Int→Option ((Int × Int) ⊕ Int)}(p:Nat→Bool)(n c:Nat)(hn:n≤4611686018427387903)(hc:c≤n)(hlo : ∀ j,j<c→p j=false)(hhi : ∀ j,c≤j→j<n→p j=true)
 (hs : ∀ i j:Nat,i<j→j≤n→f ((i:Int),(j:Int))=some (.inl (bif p ((i+j) / 2) then ((i:Int),(((i+j) / 2:Nat):Int)) else ((((i+j) / 2:Nat):Int)+1,(j:Int))))) (he : ∀ i:Nat,f ((i:Int),(i:Int))=some (.inr (i:Int))) :
 iter f F (0,(n:Int))=some (c:Int):=by
 have key : ∀(d i j N:Nat),j-i≤d→i≤c→c≤j→j≤n→d<N→iter f N ((i:Int),(j:Int))=some (c:Int):=by
  intro d
  induction d with
  | zero =>
   intro i j N hd h1 h2 h3 hN
   obtain⟨N,rfl⟩ : ∃ M,N=M+1:=⟨N-1,by omega⟩
   obtain rfl:i=c:=by omega
   obtain rfl:j=i:=by omega
   rw [iter,he]
  | succ d ih =>
   intro i j N hd h1 h2 h3 hN
   obtain⟨N,rfl⟩ : ∃ M,N=M+1:=⟨N-1,by omega⟩
   rcases Nat.lt_or_ge i j with hij | hij
   · rw [iter,hs i j hij h3]
     dsimp only
     by_cases hp:p ((i+j) / 2)=true
     · rw [hp,cond_true]
       refine ih i ((i+j) / 2) N (by omega) h1 ?_ (by omega) (by omega)
       rcases Nat.lt_or_ge ((i+j) / 2) c with h4 | h4
       · rw [hlo _ h4] at hp;cases hp
       · exact h4
     · rw [show p ((i+j) / 2)=false by simpa using hp,cond_false]
       refine ih ((i+j) / 2+1) j N (by omega) ?_ h2 h3 (by omega)
       rcases Nat.lt_or_ge ((i+j) / 2) c with h4 | h4
       · exact h4
       · exact absurd (hhi _ h4 (by omega)) hp
   · obtain rfl:i=c:=by omega
     obtain rfl:j=i:=by omega
     rw [iter,he]
 exact key n 0 n F (by omega) (by omega) hc (Nat.le_refl _) (Hi (by omega))
theorem G7 (A B:List DElem)(s:DSpot)(hn:(A++B).length≤1000000)(hA : ∀ e∈A,cmpS (Dy e) s<0)(hB : ∀ e∈B,0≤cmpS (Dy e) s):zq F (A++B) s=some (A.length:Int):=by
 unfold zq
 have hlen:(A++B).length=A.length+B.length:=List.length_append
 rw [Jr (fun j=>match (A++B)[j]? with | some e=>decide (0≤cmpS (Dy e) s) | none=>false) (A++B).length A.length (by omega) (by omega) (fun j hj=>?_) (fun j h1 h2=>?_) (fun i j hij hj=>?_) (fun i=>by simp),obs,obs]
 · rw [List.getElem?_append_left hj,gge hj]
   simpa using hA _ (List.getElem_mem hj)
 · rw [List.getElem?_append_right h1,gge (by omega)]
   simpa using hB _ (List.getElem_mem _)
 · have hm:(i+j) / 2<(A++B).length:=by omega
   dsimp only
   rw [decide_eq_true (by omega),cond_true,Kj (by omega) (by omega),DA,gge hm,obs,DF,obs,DN,obs,obs]
   dsimp only
   by_cases hp:0≤cmpS (Dy (A++B)[(i+j) / 2]) s
   · rw [decide_eq_true hp];rfl
   · rw [decide_eq_false hp,w64 (by omega) (by omega)];rfl
theorem Run.made {l:List DElem}(h:Run l){e:DElem}(he:e∈l):1≤e.made∧e.made≤2147483647:=by
 obtain⟨_,h1,h2,_⟩:=Fb (h.ok e he);exact⟨h1,h2⟩
theorem IJ {l:List DElem}{k:DKey}{t:Int}:∀ e∈hi l k,0≤cmpS (Dy e) ⟨k,t⟩:=fun e he=>by
 have h1:=(IQ.1 he).2
 have h2:cmpS ⟨k,t⟩ (Dy e)<0:=Fc.2 (.inl (DJ.pos.1 h1))
 have:=DC.neg (Dy e) ⟨k,t⟩
 omega
theorem IP {l:List DElem}{k:DKey}{t:Int}:∀ e∈lo l k,cmpS (Dy e) ⟨k,t⟩<0:=fun e he=>Fc.2 (.inl (J5.1 he).2)
theorem Gx {l:List DElem}(h:Run l)(k:DKey):zq F l ⟨k,2147483648⟩=some ((lo l k++hist l k).length:Int):=by
 have hs:l=(lo l k++hist l k)++hi l k:=by rw [List.append_assoc];exact Gi k h.ord
 conv=>lhs;rw [hs]
 refine G7 _ _ _ (by rw [← hs];have:=h.len;omega) (fun e he=>?_) IJ
 rcases List.mem_append.1 he with he | he
 · exact IP e he
 · obtain⟨h1,h2⟩:=Ef.1 he
   have:=h.made h1
   exact Fc.2 (.inr ⟨h2,by show e.made<2147483648;omega⟩)
theorem G4 {l:List DElem}(h:Run l){k:DKey}(hn:Eh l k=none):AE F l k=some (-1):=by
 unfold AE
 rw [Gx h k,obs]
 have hs:l=(lo l k++hist l k)++hi l k:=by rw [List.append_assoc];exact Gi k h.ord
 have hlen:(lo l k++hist l k).length≤l.length:=by have:=congrArg List.length hs;rw [List.length_append] at this;omega
 have hl:=h.len
 rw [w64 (by omega) (by omega)]
 by_cases h0:(lo l k++hist l k).length=0
 · rw [h0];rfl
 · obtain⟨n,hn'⟩ : ∃ n,(lo l k++hist l k).length=n+1:=⟨(lo l k++hist l k).length-1,by omega⟩
   rw [hn',decide_eq_false (by omega),cond_false,show (((n+1:Nat):Int)-1)=(n:Int) by omega,DA,gge (show n<l.length by omega)]
   have he:l[n]'(by omega)=(lo l k++hist l k)[n]'(by omega):=by
    have e1:l[n]? = ((lo l k++hist l k)++hi l k)[n]?:=by rw [← hs]
    rw [List.getElem?_append_left (by omega),gge (show n<l.length by omega),gge (by omega)] at e1
    exact Option.some.inj e1
   simp only [obs]
   have hm:l[n]'(by omega)∈l:=List.getElem_mem _
   by_cases hk:(l[n]'(by omega)).key=k
   · have hg:=Iw.1 hn _ hm hk
     rw [beq_iff_eq.2 hk,Bool.not_true,cond_false,DU hg,obs,cond_true]
   · rw [beq_eq_false_iff_ne.2 hk,Bool.not_false,cond_true,obs,cond_true]
theorem G5 {l:List DElem}(h:Run l){k:DKey}{e:DElem}(hn:Eh l k=some e):∃ a,hist l k=a++[e]∧l=(lo l k++a)++e::hi l k∧AE F l k=some ((lo l k++a).length:Int):=by
 obtain⟨a,ha,_⟩:=Gw h.ord hn
 obtain⟨_,hk,hg⟩:=(EM h.ord).1 hn
 have hs:l=(lo l k++a)++e::hi l k:=by
  conv=>lhs;rw [Gi k h.ord,ha]
  simp
 refine⟨a,ha,hs,?_⟩
 unfold AE
 rw [Gx h k,obs,ha]
 have hl:=h.len
 have hlen:=congrArg List.length hs
 simp only [List.length_append,List.length_cons,List.length_nil] at hlen ⊢
 rw [w64 (by omega) (by omega),show (((lo l k).length+(a.length+(0+1)):Nat):Int)-1=(((lo l k++a).length:Nat):Int) by simp;omega]
 rw [decide_eq_false (by omega),cond_false,DA]
 have he:l[(lo l k++a).length]? = some e:=IH hs
 rw [he]
 simp [hk,hg]
def EG (l:List DElem)(k:DKey)(v:ByteArray)(t:Int):Int :=
 if FM l≠0 then FM l else if DG (Ek k v t)≠0 then DG (Ek k v t) else if t<Ed l then 9 else if 400<(putR l k v t).length then 8 else 0
theorem Ix {l:List DElem}{k:DKey}{v:ByteArray}{t:Int}:EG l k v t=0↔Run l∧DG (Ek k v t)=0∧Ed l≤t∧(putR l k v t).length≤400:=by
 unfold EG
 rw [← Er]
 split
 · simp_all
 · split
   · simp_all
   · split
     · constructor
       · intro h;cases h
       · omega
     · split
       · constructor
         · intro h;cases h
         · omega
       · simp_all
theorem IM {α:Type}(a b:List α)(x z:α):(over ((a++b)++[z]) (a.length+1) ((((a++b)++[z]).drop a.length).take (((a++b)++[z]).drop (a.length+1)).length)).set a.length x=a++x::b:=by
 have e1:((a++b)++[z]).drop a.length=b++[z]:=by rw [List.append_assoc,List.drop_left]
 have e2:(((a++b)++[z]).drop (a.length+1)).length=b.length:=by simp
 rw [e1,e2,List.take_left]
 have e3 : ∃ y,over ((a++b)++[z]) (a.length+1) b=a++y::b:=by
  unfold over
  have e4:((a++b)++[z]).drop (a.length+1+b.length)=[]:=List.drop_eq_nil_of_le (by simp;omega)
  rw [e4,List.append_nil]
  cases b with
  | nil=>exact ⟨z,by rw [List.append_nil,List.append_nil,List.take_of_length_le (by simp)]⟩
  | cons y b =>
   refine⟨y,?_⟩
   rw [List.append_assoc,List.cons_append,List.take_append,List.take_of_length_le (by omega),show a.length+1-a.length=1 by omega]
   simp
 obtain⟨y,hy⟩:=e3
 rw [hy,HH rfl]
theorem LF {F:Nat}[Big F](A B:List DElem)(s:DSpot)(x z:DElem)(hn:(A++B).length<400)(hA : ∀ e∈A,cmpS (Dy e) s<0)(hB : ∀ e∈B,0≤cmpS (Dy e) s) :
 ((zq F (A++B) s).bind fun r6 =>
  (xT 56 (A++B) [z]).bind fun _ =>
  (wn ((A++B)++[z]) (IntKind.i64.wrap (r6+1)) (((A++B)++[z]).length:Int)).bind fun s1 =>
  (wn ((A++B)++[z]) r6 (((A++B)++[z]).length:Int)).bind fun s2 =>
  (idx (over ((A++B)++[z]) ((IntKind.i64.wrap (r6+1)).toNat) (s2.take s1.length)) r6).bind fun e4 =>
  some (((over ((A++B)++[z]) ((IntKind.i64.wrap (r6+1)).toNat) (s2.take s1.length)).set r6.toNat x),(0:Int)))=some (A++x::B,0):=by
 have hlen:(A++B).length=A.length+B.length:=List.length_append
 have hlen2:((A++B)++[z]).length=A.length+B.length+1:=by simp;omega
 rw [G7 A B s (by omega) hA hB,obs,DL (by simp;omega) (by simp;omega),obs,w64 (by omega) (by omega),
  show ((A.length:Int)+1)=((A.length+1:Nat):Int) by omega,DQ (by omega),obs,DQ (by omega),obs,DA,Int.toNat_natCast,Int.toNat_natCast,IM]
 have hov:A.length<(over ((A++B)++[z]) (A.length+1) ((((A++B)++[z]).drop A.length).take (((A++B)++[z]).drop (A.length+1)).length)).length:=by
  rw [xh]
  · omega
  · simp;omega
 rw [gge hov,obs]
theorem Ki (l:List DElem)(k:DKey)(v:ByteArray)(t:Int):Bs F l k v t=some (if EG l k v t=0 then putR l k v t else [],EG l k v t):=by
 unfold Bs
 rw [Fs,obs,Eb,obs]
 show (bif FM l != 0 then some ([],FM l) else bif DG (Ek k v t) != 0 then some ([],DG (Ek k v t)) else _)=_
 by_cases h1:FM l=0
 · have hr:=Er.1 h1
   have hl:=hr.len
   rw [DI h1,cond_false]
   by_cases h2:DG (Ek k v t)=0
   · obtain⟨_,t0,t1,_⟩:=Gr h2
     rw [DI h2,cond_false,Ht l (by omega),obs]
     by_cases h3:t<Ed l
     · have hz:EG l k v t=9:=by unfold EG;rw [if_neg (by simpa using h1),if_neg (by simpa using h2),if_pos h3]
       rw [decide_eq_true h3,cond_true,hz];rfl
     · rw [decide_eq_false h3,cond_false,DL (by simp;omega) (by simp;omega),obs,List.nil_append]
       have ht:Ed l≤t:=by omega
       obtain⟨c1,c2,c3⟩:=hr.clo ht t0 t1 k
       have hpl:=FR (k:=k) (v:=v) (t:=t) hr
       have hE:EG l k v t=if 400<(putR l k v t).length then 8 else 0:=by
        unfold EG;rw [if_neg (by simpa using h1),if_neg (by simpa using h2),if_neg h3]
       cases hn:Eh l k with
       | none =>
        rw [hn] at hpl
        rw [G4 hr hn,obs,decide_eq_false (by omega),cond_false]
        simp only [obs]
        by_cases h4:l.length=400
        · rw [show ((l.length:Int) == 400)=true by rw [beq_iff_eq];omega,cond_true]
          have hz:EG l k v t=8:=by rw [hE,if_pos (by rw [hpl];show 400<l.length+1;omega)]
          rw [hz];rfl
        · rw [show ((l.length:Int) == 400)=false by rw [beq_eq_false_iff_ne];omega,cond_false]
          have hz:EG l k v t=0:=by rw [hE,if_neg (by rw [hpl];show ¬ 400<l.length+1;omega)]
          have hs:l=(lo l k++hist l k)++hi l k:=by rw [List.append_assoc];exact Gi k hr.ord
          have hp:=LF (F:=F) (lo l k++hist l k) (hi l k) ⟨k,t⟩ (Ek k v t) LQ (by rw [← hs];omega) (fun e he=>by
           rcases List.mem_append.1 he with he | he
           · exact IP e he
           · rw [← Fd (t:=t) hn] at he
             exact Fc.2 (.inr ⟨F7 (EI l k) e he,(c3 e he).2⟩)) IJ
          rw [← hs] at hp
          have:putR l k v t=(lo l k++hist l k)++Ek k v t::hi l k:=by unfold putR upd;rw [Fd hn];simp
          rw [hz,if_pos rfl,this]
          exact hp
       | some e =>
        rw [hn] at hpl
        obtain⟨a,ha,hs,hnow⟩:=G5 (F:=F) hr hn
        obtain⟨a',ha',hclo⟩:=HA (t:=t) hr.ord hn
        obtain⟨hm,hk,hg⟩:=(EM hr.ord).1 hn
        obtain rfl:a=a':=by
         have:=ha.symm.trans ha'
         exact List.append_cancel_right this
        have hget:l[(lo l k++a).length]? = some e:=IH hs
        rw [hnow,obs,decide_eq_true (by omega),cond_true,DA,hget,obs,obs]
        by_cases hmt:e.made=t
        · have hz:EG l k v t=0:=by rw [hE,if_neg (by rw [hpl];show ¬ 400<(if e.made=t then _ else _);rw [if_pos hmt];omega)]
          rw [show (e.made == t)=true by simpa using hmt,cond_true]
          have hset:l.set (lo l k++a).length ⟨e.key,e.made,e.gone,v⟩=putR l k v t:=by
           rw [HH hs]
           unfold putR upd Ek
           rw [hclo,if_pos hmt,hk,hmt,hg]
           simp
          rw [hz,if_pos rfl,← hset,Int.toNat_natCast];rfl
        · rw [show (e.made == t)=false by simpa using hmt,cond_false]
          have hset:l.set (lo l k++a).length ⟨e.key,e.made,t,e.val⟩=(lo l k++clo (hist l k) t)++hi l k:=by
           rw [HH hs,hclo,if_neg hmt]
           simp
          simp only [obs,Int.toNat_natCast]
          rw [hset]
          have hlen3:((lo l k++clo (hist l k) t)++hi l k).length=l.length:=by rw [← hset,List.length_set]
          by_cases h4:l.length=400
          · rw [show ((((lo l k++clo (hist l k) t)++hi l k).length:Int) == 400)=true by rw [beq_iff_eq];omega,cond_true]
            have hz:EG l k v t=8:=by rw [hE,if_pos (by rw [hpl];show 400<(if e.made=t then _ else _);rw [if_neg hmt];omega)]
            rw [hz];rfl
          · rw [show ((((lo l k++clo (hist l k) t)++hi l k).length:Int) == 400)=false by rw [beq_eq_false_iff_ne];omega,cond_false]
            have hz:EG l k v t=0:=by rw [hE,if_neg (by rw [hpl];show ¬ 400<(if e.made=t then _ else _);rw [if_neg hmt];omega)]
            have hp:=LF (F:=F) (lo l k++clo (hist l k) t) (hi l k) ⟨k,t⟩ (Ek k v t) LQ (by omega) (fun e he=>by
             rcases List.mem_append.1 he with he | he
             · exact IP e he
             · exact Fc.2 (.inr ⟨F7 (EI l k) e he,(c3 e he).2⟩)) IJ
            have:putR l k v t=(lo l k++clo (hist l k) t)++Ek k v t::hi l k:=by unfold putR upd;simp
            rw [hz,if_pos rfl,this]
            exact hp
   · have hz:EG l k v t=DG (Ek k v t):=by unfold EG;rw [if_neg (by simpa using h1),if_pos h2]
     rw [DU h2,cond_true,hz,if_neg h2]
 · have hz:EG l k v t=FM l:=by unfold EG;rw [if_pos h1]
   rw [DU h1,cond_true,hz,if_neg h1]
def Ff (l:List DElem)(k:DKey)(t:Int):Int :=
 if FM l≠0 then FM l else if GB k≠0 then GB k else if t<1∨2147483647<t∨t<Ed l then 9 else if (Eh l k).isNone then 4 else 0
theorem Ii {l:List DElem}{k:DKey}{t:Int}:Ff l k t=0↔Run l∧GB k=0∧1≤t∧t≤2147483647∧Ed l≤t∧(Eh l k).isSome=true:=by
 unfold Ff
 rw [← Er]
 split
 · simp_all
 · split
   · simp_all
   · split
     · constructor
       · intro h;cases h
       · omega
     · cases Eh l k
       · simp
       · simp_all
theorem Kh (l:List DElem)(k:DKey)(t:Int):Br F l k t=some (if Ff l k t=0 then cutR l k t else [],Ff l k t):=by
 unfold Br
 rw [Fs,obs,Fq,obs]
 by_cases h1:FM l=0
 · have hr:=Er.1 h1
   have hl:=hr.len
   rw [DI h1,cond_false]
   by_cases h2:GB k=0
   · rw [DI h2,cond_false,Ht l (by omega)]
     have hb:(bif decide (t<1) then some true else bif decide ((2147483647:Int)<t) then some true else (some (Ed l)).bind fun r3=>some (decide (t<r3)):Option Bool)=some (decide (t<1∨2147483647<t∨t<Ed l)):=by
      by_cases c1:t<1
      · simp [c1]
      · by_cases c2:2147483647<t
        · simp [c1,c2]
        · simp [c1,c2]
     rw [hb,obs]
     by_cases h3:t<1∨2147483647<t∨t<Ed l
     · have hz:Ff l k t=9:=by unfold Ff;rw [if_neg (by simpa using h1),if_neg (by simpa using h2),if_pos h3]
       rw [decide_eq_true h3,cond_true,hz];rfl
     · rw [decide_eq_false h3,cond_false]
       have hE:Ff l k t=if (Eh l k).isNone then 4 else 0:=by unfold Ff;rw [if_neg (by simpa using h1),if_neg (by simpa using h2),if_neg h3]
       cases hn:Eh l k with
       | none =>
        rw [hn] at hE
        rw [G4 hr hn,obs,decide_eq_true (by omega),cond_true,hE];rfl
       | some e =>
        rw [hn] at hE
        have hz:Ff l k t=0:=hE
        obtain⟨a,ha,hs,hnow⟩:=G5 (F:=F) hr hn
        obtain⟨a',ha',hclo⟩:=HA (t:=t) hr.ord hn
        obtain⟨hm,hk,hg⟩:=(EM hr.ord).1 hn
        obtain rfl:a=a':=List.append_cancel_right (ha.symm.trans ha')
        have hget:l[(lo l k++a).length]? = some e:=IH hs
        have hlen:=congrArg List.length hs
        rw [List.length_append,List.length_cons] at hlen
        rw [hnow,obs,decide_eq_false (by omega),cond_false,DL (by simp;omega) (by simp;omega),obs,List.nil_append,DA,hget,obs,obs,hz,if_pos rfl]
        by_cases hmt:e.made=t
        · rw [show (e.made == t)=true by simpa using hmt,cond_true,D6 (by omega),obs,w64 (by omega) (by omega),show (((lo l k++a).length:Int)+1)=(((lo l k++a).length+1:Nat):Int) by omega,DQ (by omega),obs]
          rw [LL hs,Lm hs,DL (by rw [List.length_append] at *;omega) (by omega),obs]
          unfold cutR upd
          rw [hclo,if_pos hmt]
          simp
        · rw [show (e.made == t)=false by simpa using hmt,cond_false,Int.toNat_natCast]
          have hset:l.set (lo l k++a).length ⟨e.key,e.made,t,e.val⟩=cutR l k t:=by
           rw [HH hs]
           unfold cutR upd
           rw [hclo,if_neg hmt]
           simp
          rw [hset]
   · have hz:Ff l k t=GB k:=by unfold Ff;rw [if_neg (by simpa using h1),if_pos h2]
     rw [DU h2,cond_true,hz,if_neg h2]
 · have hz:Ff l k t=FM l:=by unfold Ff;rw [if_pos h1]
   rw [DU h1,cond_true,hz,if_neg h1]
end Go.Proofs.Ytcmkdoahkncakaa
