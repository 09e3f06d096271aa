/- Plain Lean: what build.Of computes. Its conditions: none. -/
import Derived.Test.YtcmkdoahkncakaaBuildFG
import Derived.Test.YtcmkdoahkncakaaMBuildG
import Derived.Test.YtcmkdoahkncakaaMEditG
import Derived.Test.YtcmkdoahkncakaaPTreeG
import Derived.Test.YtcmkdoahkncakaaInsG
import Derived.Test.YtcmkdoahkncakaaPLoopG
namespace Go.Proofs.Ytcmkdoahkncakaa
set_option linter.unusedVariables false
set_option linter.unusedSimpArgs false
variable {F:Nat} [Big F]
def BC (n i:Nat):Nat:=off n (kOf n) (i+1)-off n (kOf n) i
def CU (n:Nat):List Int:=(List.range (kOf n)).map fun i=>((BC n i:Nat):Int)
theorem BH (n:Nat):(CU n).length=kOf n:=by unfold CU;simp
theorem DK {n i:Nat}(h:i<kOf n):(CU n)[i]? = some ((BC n i:Nat):Int):=by
 unfold CU;rw [List.getElem?_map,List.getElem?_range h];rfl
theorem HS (n:Nat):kOf n≤n+1:=by unfold kOf;split <;> omega
theorem Cp {α:Type}{l:List α}{i:Nat}{x:α}(h:l[i]? = some x):l.take (i+1)=l.take i++[x]:=by
 rw [List.take_add_one,h];rfl
theorem Cy {n:Nat}(hn:n≤100000):uU F (n:Int)=some (CU n):=by
 unfold uU
 have hE:(if (1:Int)<(IntKind.i64.wrap ((IntKind.i64.wrap ((IntKind.i64.wrap ((n:Int)+8))-1):Int).tdiv 8)) then IntKind.i64.wrap ((IntKind.i64.wrap ((IntKind.i64.wrap ((n:Int)+8))-1):Int).tdiv 8) else 1)=(kOf n:Int):=by
  rw [w64 (n:=(n:Int)+8) (by omega) (by omega),w64 (n:=(n:Int)+8-1) (by omega) (by omega),show (n:Int)+8-1=((n+7:Nat):Int) by omega]
  have e:(((n+7:Nat):Int)).tdiv 8=(((n+7) / 8:Nat):Int):=rfl
  rw [e,w64 (by omega) (by omega)]
  unfold kOf
  by_cases h:8<n
  · rw [if_pos h,if_pos (by omega)]
  · rw [if_neg h,if_neg (by omega)];rfl
 rw [hE]
 have hk:=Bg n
 have hk1:=HS n
 rw [BO (List.range (kOf n)) (fun acc i=>acc++[((BC n i:Nat):Int)]) [] (r:=CU n) (by rw [List.length_range];omega) rfl ?hs ?he]
 · rfl
 case hs =>
  intro i e hi
  have hi':=hi
  have hlt:=(ggs.1 hi).1
  rw [List.length_range] at hlt
  rw [List.getElem?_range hlt] at hi
  obtain rfl:=Option.some.inj hi
  dsimp only
  rw [DU]
  rw [show decide ((i:Int)<(kOf n:Int))=true from decide_eq_true (by omega),cond_true]
  have ht:xr (kOf n:Int)=some (kOf n:Int):=by unfold xr;rw [if_neg (by omega)]
  rw [ht,obs,obs]
  have hb1:n*(i+1)≤100000*100002:=Nat.mul_le_mul hn (by omega)
  have hb0:n*i≤100000*100002:=Nat.mul_le_mul hn (by omega)
  have e1:(n:Int)*((i:Int)+1)=((n*(i+1):Nat):Int):=by push_cast;rfl
  have e0:(n:Int)*(i:Int)=((n*i:Nat):Int):=by push_cast;rfl
  have d1:(((n*(i+1):Nat):Int)).tdiv (kOf n:Int)=((off n (kOf n) (i+1):Nat):Int):=rfl
  have d0:(((n*i:Nat):Int)).tdiv (kOf n:Int)=((off n (kOf n) i:Nat):Int):=rfl
  have hm:=Dj (n:=n) (k:=kOf n) (show i≤i+1 by omega)
  have hl:=FQ (n:=n) hk (show i+1≤kOf n by omega)
  have es:((off n (kOf n) (i+1):Nat):Int)-((off n (kOf n) i:Nat):Int)=((BC n i:Nat):Int):=by unfold BC;omega
  have hsh:BC n i≤n:=by unfold BC;omega
  rw [w64 (n:=(i:Int)+1) (by omega) (by omega),e1,e0,w64 (n:=((n*(i+1):Nat):Int)) (by omega) (by omega),w64 (n:=((n*i:Nat):Int)) (by omega) (by omega),d1,d0,w64 (n:=((off n (kOf n) (i+1):Nat):Int)) (by omega) (by omega),w64 (n:=((off n (kOf n) i:Nat):Int)) (by omega) (by omega),es,w64 (by omega) (by omega)]
  rw [AD (by simp;omega) (by simp;omega)]
  rfl
 case he =>
  dsimp only
  rw [DU,List.length_range,decide_eq_false (by omega),cond_false];rfl
theorem BQ {n:DNode}(h:AH n=0):Small n:=by
 obtain⟨h1,h2⟩:=BP h
 rcases AL.1 h with q | q | q
 · refine⟨by omega,by omega,?_,?_⟩
   · rw [q.2.2.2.1];simp
   · rw [q.2.2.2.2];simp
 · refine⟨by omega,by omega,?_,?_⟩
   · rw [q.2.seps];simp
   · rw [q.2.tids];simp
 · exact⟨by omega,by omega,by have:=q.2.seps;omega,by have:=q.2.tids;omega⟩
def Fz (l:List DElem):Option Int:=l.zipIdx.findSome? fun p=>Bj l p.2 p.1
def ofR (l:List DElem):DTree × Int:=if 400<l.length then (⟨0,[]⟩,2) else match Fz l with
 | some e=>(⟨0,[]⟩,e)
 | none=>(BK l,0)
theorem Ek {l:List DElem}:Fz l=none↔(∀ e∈l,Ay e=0)∧l.Pairwise SpO:=by
 unfold Fz
 rw [B5]
 constructor
 · intro h
   refine⟨fun e he=>?_,BS (R:=SpO) (fun a b c h1 h2=>SpO.trans h1 h2) fun j p e hp he=>?_⟩
   · obtain⟨k,hk⟩:=List.mem_iff_getElem?.1 he
     exact(BB.1 (h k e hk)).1
   · exact(BB.1 (h (j+1) e he)).2 j p rfl hp
 · rintro⟨h1,h2⟩ k e hk
   exact BB.2 ⟨h1 e (List.mem_of_getElem? hk),fun j p hj hp=>Bl h2 (by omega) hp hk⟩
theorem Fm {α:Type}{G:List (List α)}{β:Type}{φ:List α × Nat→β}{i:Nat}{g:List α}(h:G[i]? = some g):(G.zipIdx.map φ)[i]? = some (φ (g,i)):=by
 rw [List.getElem?_map,List.getElem?_zipIdx,h];simp
theorem Ev {α:Type}(l:List α)(i:Nat):(l.drop (off l.length (kOf l.length) i)).drop (BC l.length i)=l.drop (off l.length (kOf l.length) (i+1)):=by
 rw [List.drop_drop]
 congr 1
 have:=Dj (n:=l.length) (k:=kOf l.length) (show i≤i+1 by omega)
 unfold BC;omega
theorem Eu {α:Type}(l:List α){i:Nat}(h:i<kOf l.length):BC l.length i≤(l.drop (off l.length (kOf l.length) i)).length:=by
 have h1:=FQ (n:=l.length) (Bg l.length) (show i+1≤kOf l.length by omega)
 rw [List.length_drop];unfold BC;omega
theorem EW (l:List DElem):w8 F l=some (ofR l):=by
 unfold w8 ofR
 by_cases hl:400<l.length
 · rw [show decide ((400:Int)<(l.length:Int))=true from decide_eq_true (by omega),cond_true,if_pos hl]
 rw [show decide ((400:Int)<(l.length:Int))=false from decide_eq_false (by omega),cond_false,if_neg hl]
 rw [BN l (fun k e=>(Bj l k e).map fun x=>Sum.inr ((⟨0,[]⟩ : DTree),x)) (.inl ()) (by omega) rfl (fun k e hk hb=>?_) (by simp)]
 rotate_left
 · have hkl:=(ggs.1 hk).1
   rw [decide_eq_true (by omega),cond_true,Ar,hk,obs,Bt,obs]
   unfold Bj
   by_cases hc:Ay e=0
   · rw [AG hc,cond_false,if_neg (show ¬ (Ay e≠0) by simpa using hc)]
     cases k with
     | zero =>
      rw [show decide ((0:Int)<((0:Nat):Int))=false from rfl,cond_false,obs,cond_false,w64 (by omega) (by omega)];rfl
     | succ j =>
      obtain⟨p,hp⟩ : ∃ p,l[j]? = some p:=⟨_,gge (by omega)⟩
      have e1:IntKind.i64.wrap (((j+1:Nat):Int)-1)=(j:Int):=by rw [w64 (by omega) (by omega)];omega
      rw [decide_eq_true (show (0:Int)<((j+1:Nat):Int) by omega),cond_true,e1,Ar,hp]
      simp only [obs,Ax,AJ,hp]
      by_cases hs:0≤cmpS (Ap p) (Ap e)
      · rw [decide_eq_true hs,if_pos hs];rfl
      · rw [decide_eq_false hs,if_neg hs,cond_false,w64 (by omega) (by omega)];rfl
   · rw [Be hc,cond_true,if_pos (show (Ay e≠0) by simpa using hc)];rfl
 have hbad:((l.zipIdx.findSome? fun p=>(Bj l p.2 p.1).map fun x=>(Sum.inr ((⟨0,[]⟩ : DTree),x):Unit ⊕ (DTree × Int))).getD (.inl ()))=match Fz l with
  | some e=>.inr (⟨0,[]⟩,e)
  | none=>.inl ():=by
  have : ∀ q:List (DElem × Nat),(q.findSome? fun p=>(Bj l p.2 p.1).map fun x=>(Sum.inr ((⟨0,[]⟩ : DTree),x):Unit ⊕ (DTree × Int)))=(q.findSome? fun p=>Bj l p.2 p.1).map fun x=>Sum.inr (⟨0,[]⟩,x):=by
   intro q
   induction q with
   | nil=>rfl
   | cons a q ih=>rw [List.findSome?_cons,List.findSome?_cons];cases Bj l a.2 a.1 with
    | none=>exact ih
    | some x=>rfl
  rw [this]
  unfold Fz
  cases (l.zipIdx.findSome? fun p=>Bj l p.2 p.1) <;> rfl
 rw [hbad,obs]
 cases hb:Fz l with
 | some e=>rfl
 | none =>
  obtain⟨ho,hp⟩:=Ek.1 hb
  dsimp only
  have hk:=Bg l.length
  have hk50:kOf l.length≤50:=Es (by omega) (by decide)
  have hglen:=AF l
  rw [Cy (by omega),obs]
  rw [Ba (fun i=>(((AP l).take i,(Cd l).take i,l.drop (off l.length (kOf l.length) i),(i:Int)):List DNode × List Dbuild_low × List DElem × Int)) (kOf l.length) (r:=(AP l,Cd l)) (by rw [CK];rfl) (by omega) ?hs ?he]
  case he =>
   dsimp only
   rw [BH,decide_eq_false (by omega),cond_false,List.take_of_length_le (by unfold AP;rw [List.length_map];omega),List.take_of_length_le (by unfold Cd;rw [List.length_map,List.length_zipIdx];omega)]
  case hs =>
   intro i hi
   dsimp only
   have hg:=CZ hi
   have hn0:(AP l)[i]? = some (G9 (BJ l (kOf l.length) i)):=by unfold AP;rw [List.getElem?_map,hg];rfl
   have hl0:(Cd l)[i]? = some ⟨(i:Int),De (BJ l (kOf l.length) i)⟩:=Fm hg
   have hrl:=Eu l hi
   have hrn:=Ev l i
   have hpc:BJ l (kOf l.length) i=(l.drop (off l.length (kOf l.length) i)).take (BC l.length i):=rfl
   have hpl:(BJ l (kOf l.length) i).length≤8:=(AX (List.mem_of_getElem? hg)).1
   generalize hrest:l.drop (off l.length (kOf l.length) i)=rest at *
   have htl:((AP l).take i).length=i:=by rw [List.length_take];unfold AP;rw [List.length_map];omega
   have htl2:((Cd l).take i).length=i:=by rw [List.length_take];unfold Cd;rw [List.length_map,List.length_zipIdx];omega
   rw [BH,decide_eq_true (by omega),cond_true,Ar,DK hi,obs]
   have hspot:(bif decide ((0:Int)<((BC l.length i:Nat):Int)) then (idx rest 0).bind fun e4=>(sV e4).bind fun r8=>some (r8.key.pfs,r8.key.obj,r8.key.off,r8.made) else some (0,0,0,0):Option (Int × Int × Int × Int)) =
    some ((De (BJ l (kOf l.length) i)).key.pfs,(De (BJ l (kOf l.length) i)).key.obj,(De (BJ l (kOf l.length) i)).key.off,(De (BJ l (kOf l.length) i)).made):=by
    by_cases h0:0<BC l.length i
    · rw [decide_eq_true (show (0:Int)<((BC l.length i:Nat):Int) by omega),cond_true]
      cases rest with
      | nil=>simp at hrl;omega
      | cons e r =>
       obtain⟨q,hq⟩ : ∃ q,BC l.length i=q+1:=⟨BC l.length i-1,by omega⟩
       rw [hpc,hq,show idx (e::r) 0=some e from rfl,obs,Ax];rfl
    · have h00:BC l.length i=0:=by omega
      rw [h00,List.take_zero] at hpc
      rw [hpc,h00];rfl
   rw [hspot,obs]
   dsimp only
   rw [Bb hrl,obs,← hpc,AD (by simp;omega) (by simp;omega),obs,AD (by simp;omega) (by simp;omega),obs,AD (by simp;omega) (by simp;omega),obs,AO hrl,obs,hrn,w64 (by omega) (by omega),htl,Cp hn0,Cp hl0]
   rfl
  rw [obs]
  dsimp only
  have L0:=Lev.zero (by omega) ho hp
  have hlv0:(Cd l).length≤400:=by have:=L0.size;omega
  have hout : ∀ {K:List DNode × List Dbuild_low→Option (DTree × Int)} {f:List DNode × List Dbuild_low→Option ((List DNode × List Dbuild_low) ⊕ (List DNode × List Dbuild_low))},
   (∀ ns lv h,Lev ns lv l h→f (ns,lv)=some (if 1<lv.length then .inl (AR (ns,lv)) else .inr (ns,lv)))→(iter f F (AP l,Cd l)).bind K=K (up 400 (AP l,Cd l)):=by
   intro K f hf
   obtain⟨q,hq⟩ : ∃ q,K (up 400 (AP l,Cd l))=some q∨True:=⟨(⟨0,[]⟩,0),.inr trivial⟩
   have hit:iter f F (AP l,Cd l)=some (up 400 (AP l,Cd l)):=by
    have:=Hb (F:=F) (f:=f) (K:=some) (fun m s q=>q=up m s∧s.2.length≤m∧∃ h,Lev s.1 s.2 l h) ?_ (m:=400) (s:=(AP l,Cd l)) (q:=up 400 (AP l,Cd l)) (by omega) ⟨rfl,hlv0,0,L0⟩
    · simpa using this
    · rintro m ⟨ns,lv⟩ q ⟨rfl,hm,h,L⟩
      dsimp only at hm L
      have hpos:0<lv.length:=by rw [L.count];exact FB _ _
      by_cases h1:1<lv.length
      · right
        obtain⟨m,rfl⟩ : ∃ k,m=k+1:=⟨m-1,by omega⟩
        have L':=L.next hp ho h1
        have hc:(AR (ns,lv)).2.length=kOf lv.length:=by unfold AR;dsimp only;rw [List.length_map,List.length_zipIdx,AF]
        have hh:=Dc h1
        refine⟨m,AR (ns,lv),by omega,by rw [hf ns lv h L,if_pos h1],?_,Nat.le_trans (Nat.le_of_eq hc) (by omega),h+1,L'⟩
        rw [up,if_pos h1]
      · left
        refine⟨(ns,lv),by rw [hf ns lv h L,if_neg h1],?_⟩
        cases m with
        | zero=>rfl
        | succ m=>rw [up,if_neg h1]
   rw [hit,obs]
  rw [hout ?hstep]
  case hstep =>
   intro ns lv h L
   dsimp only
   have hsize:=L.size
   by_cases h1:1<lv.length
   rotate_left
   · rw [if_neg h1,show decide ((1:Int)<(lv.length:Int))=false from decide_eq_false (by omega),cond_false]
   rw [if_pos h1,show decide ((1:Int)<(lv.length:Int))=true from decide_eq_true (by omega),cond_true]
   rw [Cy (by omega),obs]
   have hkl:=Dc h1
   have hkp:=Bg lv.length
   have hgl:=AF lv
   have hgm:((groups lv).map (Cj ns)).length=kOf lv.length:=by rw [List.length_map];exact hgl
   have hlm:(AR (ns,lv)).2.length=kOf lv.length:=by unfold AR;dsimp only;rw [List.length_map,List.length_zipIdx,AF]
   rw [Ba (fun i=>(((AR (ns,lv)).2.take i,ns++((groups lv).map (Cj ns)).take i,lv.drop (off lv.length (kOf lv.length) i),(i:Int)):List Dbuild_low × List DNode × List Dbuild_low × Int)) (kOf lv.length) (r:=((AR (ns,lv)).2,(AR (ns,lv)).1)) (by rw [CK];simp) (by omega) ?hs2 ?he2]
   · rfl
   case he2 =>
    dsimp only
    rw [BH,decide_eq_false (by omega),cond_false,List.take_of_length_le (by omega),List.take_of_length_le (by omega)];rfl
   case hs2 =>
    intro i hi
    dsimp only
    have hg:=CZ hi
    have hn0:((groups lv).map (Cj ns))[i]? = some (Cj ns (BJ lv (kOf lv.length) i)):=by rw [List.getElem?_map,hg];rfl
    have hl0:(AR (ns,lv)).2[i]? = some ⟨((ns.length+i:Nat):Int),Gc (BJ lv (kOf lv.length) i)⟩:=Fm hg
    have hrl:=Eu lv hi
    have hrn:=Ev lv i
    have hpc:BJ lv (kOf lv.length) i=(lv.drop (off lv.length (kOf lv.length) i)).take (BC lv.length i):=rfl
    obtain⟨hp8,_,_,hp1⟩:=AX (List.mem_of_getElem? hg)
    have hp1:=hp1 h1
    have hsub:=(CT (List.mem_of_getElem? hg)).subset
    generalize BJ lv (kOf lv.length) i=g at *
    generalize lv.drop (off lv.length (kOf lv.length) i)=rest at *
    have htl:(((groups lv).map (Cj ns)).take i).length=i:=by rw [List.length_take];omega
    have htl2:((AR (ns,lv)).2.take i).length=i:=by rw [List.length_take];omega
    rw [BH,decide_eq_true (by omega),cond_true,Ar,DK hi,obs,Bb hrl,obs,← hpc]
    rw [Ba (s:=(([]:List DSpot),([]:List Int),([]:List Int),(0:Int))) (fun j=>(((g.take j).tail.map (·.s),(g.take j).map (fun k=>Aw (nd ns k.i)),(g.take j).map (·.i),(j:Int)):List DSpot × List Int × List Int × Int)) g.length (r:=(g.tail.map (·.s),g.map (fun k=>Aw (nd ns k.i)),g.map (·.i))) rfl (by omega) ?hs3 ?he3]
    case he3 =>
     dsimp only
     rw [decide_eq_false (by omega),cond_false,List.take_length]
    case hs3 =>
     intro j hj
     dsimp only
     have hgj:g[j]? = some g[j]:=gge hj
     have hin:=hsub (List.mem_of_getElem? hgj)
     have hrange:=(L.fit _ hin).range
     generalize g[j]=e at *
     have hnd:idx (ns++((groups lv).map (Cj ns)).take i) e.i=some (nd ns e.i):=by
      rw [DC hrange.1 (by rw [List.length_append];have:=hrange.2;omega),C4 ns _ hrange]
     have htk:(g.take j).length=j:=by rw [List.length_take];omega
     rw [decide_eq_true (by omega),cond_true,Ar,hgj,obs,AD (by rw [List.length_map,htk,List.length_singleton];omega) (by rw [List.length_map,htk,List.length_singleton];omega),obs,hnd,obs,Bp _ (BQ (L.chk _ (BV hrange.1 hrange.2))),obs,AD (by rw [List.length_map,htk,List.length_singleton];omega) (by rw [List.length_map,htk,List.length_singleton];omega),obs,w64 (by omega) (by omega),Cp hgj,List.map_append,List.map_append]
     cases j with
     | zero=>rfl
     | succ j =>
      have hne:g.take (j+1)≠[]:=fun h=>by rw [h] at htk;simp at htk
      rw [decide_eq_true (show (0:Int)<((j+1:Nat):Int) by omega),cond_true,AD (by rw [List.length_map,List.length_tail,htk,List.length_singleton];omega) (by rw [List.length_map,List.length_tail,htk,List.length_singleton];omega),List.tail_append_of_ne_nil hne,List.map_append]
      rfl
    rw [obs]
    dsimp only
    obtain⟨y,g',rfl⟩ : ∃ y g',g=y::g':=by
     cases g with
     | nil=>simp at hp1
     | cons y g'=>exact ⟨y,g',rfl⟩
    have hy:idx rest 0=some y:=by
     cases rest with
     | nil=>simp at hpc
     | cons z r =>
      cases hsh:BC lv.length i with
      | zero=>rw [hsh] at hpc;simp at hpc
      | succ q=>rw [hsh,List.take_succ_cons] at hpc;rw [(List.cons.inj hpc).1];rfl
    rw [hy,obs,AD (by rw [htl2,List.length_singleton];omega) (by rw [htl2,List.length_singleton];omega),obs,AD (by rw [List.length_append,htl,List.length_singleton];omega) (by rw [List.length_append,htl,List.length_singleton];omega),obs,AO hrl,obs,hrn,w64 (by omega) (by omega),List.length_append,htl,Cp hn0,Cp hl0,List.append_assoc]
    rfl
  obtain⟨h,L,h1⟩:=Lev.up hp ho 400 L0 hlv0
  unfold BK
  dsimp only
  generalize up 400 (AP l,Cd l)=x at L h1
  obtain⟨ns,lv⟩:=x
  dsimp only at L h1 ⊢
  obtain⟨y,rfl⟩:=List.length_eq_one_iff.1 h1
  rfl
end Go.Proofs.Ytcmkdoahkncakaa
namespace Go.Proofs.Ytcmkdoahkncakaa
set_option linter.unusedVariables false
set_option linter.unusedSimpArgs false
variable {F:Nat} [Big F]
theorem Cc {n:DNode}(h1:n.kind=1)(h2:Leaf n):AH n=0:=AL.2 (.inr (.inl ⟨h1,h2⟩))
theorem AW {n:DNode}(h1:n.kind=2)(h2:Inner n):AH n=0:=AL.2 (.inr (.inr ⟨h1,h2⟩))
theorem Ct {N:NL}(h:Bm N){i:Int}(hi:0≤i∧i<((fN N).length:Int)):AH (nd (fN N) i)=0:=h _ (BV hi.1 hi.2)
theorem Bd {N:NL}(h:Bm N){i:Int}(hi:0≤i∧i<((fN N).length:Int)):tj F (nd (fN N) i)=some (Aw (nd (fN N) i)):=Bp _ (BQ (Ct h hi))
end Go.Proofs.Ytcmkdoahkncakaa
namespace Go.Proofs.Ytcmkdoahkncakaa
set_option linter.unusedVariables false
set_option linter.unusedSimpArgs false
def Eb (x:Int ⊕ DNode):Bool:=yD x != 0
def used (N:NL):Nat:=N.countP Eb
theorem BR {x:Int ⊕ DNode}:Eb x=true↔yD x≠0:=by unfold Eb;simp
theorem Ec {N:NL}{i:Nat}{x:Int ⊕ DNode}(y:Int ⊕ DNode)(h:N[i]? = some x):used (N.set i y)+(if Eb x then 1 else 0)=used N+(if Eb y then 1 else 0):=by
 unfold used
 induction N generalizing i with
 | nil=>simp at h
 | cons a N ih =>
  cases i with
  | zero =>
   obtain rfl:a=x:=by simpa using h
   rw [List.set_cons_zero,List.countP_cons,List.countP_cons];omega
  | succ i =>
   have:=ih (i:=i) (by simpa using h)
   rw [List.set_cons_succ,List.countP_cons,List.countP_cons];omega
theorem GN {N:NL}{i:Nat}{x y:Int ⊕ DNode}(h:N[i]? = some x)(hx:yD x≠0)(hy:yD y≠0):used (N.set i y)=used N:=by
 have:=Ec y h
 rw [if_pos (BR.2 hx),if_pos (BR.2 hy)] at this
 omega
theorem Dr (N:NL)(i:Int):used (sZ N i)=used N:=by
 unfold sZ
 rcases Nat.lt_or_ge i.toNat N.length with h | h
 · have hg:=gge h
   have:=Ec (.inl (((N[i.toNat]?).map yD).getD 0)) hg
   have e:Eb (.inl (((N[i.toNat]?).map yD).getD 0))=Eb N[i.toNat]:=by rw [hg];rfl
   rw [e] at this
   omega
 · rw [List.set_eq_of_length_le h]
theorem Ce {N:NL}{j:Nat}{x:Int ⊕ DNode}(h:N[j]? = some x):kd N j=some (yD x):=by unfold kd;rw [h];rfl
theorem Gi {N:NL}{j:Nat}{k:Int}(h:kd N j=some k):∃ x,N[j]? = some x∧yD x=k:=Option.map_eq_some_iff.1 h
theorem Hn {N:NL}(h : ∀(j:Nat) (x:Int ⊕ DNode),N[j]? = some x→yD x≠0):used N=N.length :=
 List.countP_eq_length.2 fun x hx=>by
  obtain⟨j,hj⟩:=List.mem_iff_getElem?.1 hx
  exact BR.2 (h j x hj)
structure Fr2 (N N' : NL) (I K:List Nat) (c:Nat):Prop where
 len:N.length≤N'.length
 cap:N'.length≤max N.length (used N')
 use:used N'≤used N+c
 out : ∀(j:Nat) (x:Int ⊕ DNode),j ∉ I→N[j]? = some x→yD x≠0→N'[j]? = some x
 kept : ∀(j:Nat) (x:Int ⊕ DNode),N[j]? = some x→yD x≠0→∃ y,N'[j]? = some y∧yD y≠0
 new : ∀ j∈K,j∈I∨∀ x:Int ⊕ DNode,N[j]? = some x→yD x=0
 all : ∀(j:Nat) (x:Int ⊕ DNode),N'[j]? = some x→yD x≠0→j∈K∨(j ∉ I∧∃ y,N[j]? = some y∧yD y≠0)
 nodup:K.Nodup
 chk:Bm N'
 zero : ∀ j:Nat,N'[j]? = some (.inl 0)→N[j]? = some (.inl 0)
theorem Fr2.perm {N N' : NL}{I K K' : List Nat}{c:Nat}(h:Fr2 N N' I K c)(p:K.Perm K'):Fr2 N N' I K' c :=
 ⟨h.len,h.cap,h.use,h.out,h.kept,fun j hj=>h.new j (p.mem_iff.2 hj),fun j x hx hk=>(h.all j x hx hk).imp (fun q=>p.mem_iff.1 q) id,p.nodup_iff.1 h.nodup,h.chk,h.zero⟩
theorem Fr2.more {N N' : NL}{I K:List Nat}{c c' : Nat}(h:Fr2 N N' I K c)(hc:c≤c'):Fr2 N N' I K c' :=
 ⟨h.len,h.cap,Nat.le_trans h.use (by omega),h.out,h.kept,h.new,h.all,h.nodup,h.chk,h.zero⟩
theorem Az.used {N:NL}:∀ {h:Nat} {i:Int} {m:Nat} {s:Span},Az (fN N) h i m s→∀ j∈ids (fN N) h i,∃ n,N[j]? = some (.inr n)∧n.kind≠0:=by
 intro h
 induction h with
 | zero =>
  intro i m s c j hj
  obtain rfl:j=i.toNat:=by simpa [ids] using hj
  exact⟨_,c.node.2,c.kind⟩
 | succ h ih =>
  intro i m s c j hj
  rw [ids] at hj
  rcases List.mem_cons.1 hj with rfl | hj
  · exact⟨_,c.node.2,c.kind⟩
  · obtain⟨k,hk,hj⟩:=List.mem_flatMap.1 hj
    obtain⟨t,s',x,_⟩:=c.2.2.2.mem k hk
    exact ih x.1 j hj
theorem Fr2.start {N:NL}(hc:Bm N){i:Int}{n:DNode}(hi:N[i.toNat]? = some (.inr n))(hk:n.kind≠0):Fr2 N (sZ N i) [i.toNat] [i.toNat] 0:=by
 refine⟨by rw [Aq];exact Nat.le_refl _,by rw [Aq];exact Nat.le_max_left _ _,by rw [Dr];exact Nat.le_refl _,fun j x hj hx _=>by rw [AU N (by simpa using hj)];exact hx,fun j x hx hk=>?_,fun j hj=>.inl hj,fun j x hx hk=>?_,by simp,hc.out i,fun j hj=>?_⟩
 · have:=Co N i j
   rw [Ce hx] at this
   obtain⟨y,hy,hyk⟩:=Gi this
   exact⟨y,hy,by rw [hyk];exact hk⟩
 · by_cases hji:j=i.toNat
   · exact .inl (by simp [hji])
   · rw [AU N hji] at hx
     exact .inr ⟨by simpa using hji,x,hx,hk⟩
 · by_cases hji:j=i.toNat
   · subst hji
     have:=Co N i i.toNat
     rw [Ce hj,Ce hi] at this
     exact absurd (Option.some.inj this).symm hk
   · rw [AU N hji] at hj;exact hj
theorem Fr2.up {N N2:NL}{i:Nat}{I1 I2 I3 K:List Nat}{c:Nat}{i' : Int}(hi:i'.toNat=i)(f:Fr2 (sZ N i') N2 I2 K c)(hn:(i::(I1++(I2++I3))).Nodup)(hu : ∀ j∈i::(I1++(I2++I3)),∃ n:DNode,N[j]? = some (.inr n)∧n.kind≠0) :
 Fr2 N N2 (i::(I1++(I2++I3))) (i::(I1++(K++I3))) c:=by
 have hk : ∀(j:Nat) (x:Int ⊕ DNode),N[j]? = some x→yD x≠0→∃ y,(sZ N i')[j]? = some y∧yD y≠0:=fun j x hx hxk=>by
  have:=Co N i' j
  rw [Ce hx] at this
  obtain⟨y,hy,hyk⟩:=Gi this
  exact⟨y,hy,by rw [hyk];exact hxk⟩
 have hk' : ∀(j:Nat) (x:Int ⊕ DNode),(sZ N i')[j]? = some x→yD x≠0→∃ y,N[j]? = some y∧yD y≠0:=fun j x hx hxk=>by
  have:=Co N i' j
  rw [Ce hx] at this
  obtain⟨y,hy,hyk⟩:=Gi this.symm
  exact⟨y,hy,by rw [hyk];exact hxk⟩
 have hK : ∀ j∈K,j∈I2∨∀ x:Int ⊕ DNode,N[j]? = some x→yD x=0:=fun j hj=>(f.new j hj).imp id fun h x hx=>by
  by_cases h0:yD x=0
  · exact h0
  · obtain⟨y,hy,hyk⟩:=hk j x hx h0
    exact absurd (h y hy) hyk
 obtain⟨n1,n2⟩:=List.nodup_cons.1 hn
 obtain⟨n3,n4,n5⟩:=List.nodup_append.1 n2
 obtain⟨n6,n7,n8⟩:=List.nodup_append.1 n4
 have hKu : ∀ j∈K,j ∉ I2→∀ n:DNode,N[j]? = some (.inr n)→n.kind=0:=fun j hj hj2 n hx=>by
  rcases hK j hj with h | h
  · exact absurd h hj2
  · exact h _ hx
 have hne : ∀ j∈K,j∈i::(I1++(I2++I3))→j∈I2:=fun j hj hm=>by
  by_cases h2:j∈I2
  · exact h2
  · obtain⟨n,hx,hnk⟩:=hu j hm
    exact absurd (hKu j hj h2 n hx) hnk
 refine⟨by have:=f.len;rwa [Aq] at this,by have:=f.cap;rwa [Aq] at this,by have:=f.use;rwa [Dr] at this,fun j x hj hx hxk=>?_,fun j x hx hxk=>?_,fun j hj=>?_,fun j x hx hxk=>?_,?_,f.chk,fun j hj=>?_⟩
 · simp only [List.mem_cons,List.mem_append,not_or] at hj
   exact f.out j x hj.2.2.1 (by rw [AU N (by omega)];exact hx) hxk
 · obtain⟨y,hy,hyk⟩:=hk j x hx hxk
   exact f.kept j y hy hyk
 · simp only [List.mem_cons,List.mem_append] at hj ⊢
   rcases hj with h | h | h | h
   · exact .inl (.inl h)
   · exact .inl (.inr (.inl h))
   · exact(hK j h).imp (fun h=>.inr (.inr (.inl h))) id
   · exact .inl (.inr (.inr (.inr h)))
 · simp only [List.mem_cons,List.mem_append,not_or]
   rcases f.all j x hx hxk with h | ⟨h,y,hy,hyk⟩
   · exact .inl (.inr (.inr (.inl h)))
   · by_cases h0:j=i
     · exact .inl (.inl h0)
     by_cases h1:j∈I1
     · exact .inl (.inr (.inl h1))
     by_cases h3:j∈I3
     · exact .inl (.inr (.inr (.inr h3)))
     · exact .inr ⟨⟨h0,h1,h,h3⟩,hk' j y hy hyk⟩
 · refine List.nodup_cons.2 ⟨fun hm=>?_,List.nodup_append.2 ⟨n3,List.nodup_append.2 ⟨f.nodup,n7,fun a ha b hb e=>?_⟩,fun a ha b hb e=>?_⟩⟩
   · simp only [List.mem_append,not_or] at hm n1
     rcases hm with h | h | h
     · exact n1.1 h
     · exact n1.2.1 (hne i h List.mem_cons_self)
     · exact n1.2.2 h
   · subst e
     exact n8 a (hne a ha (by simp [hb])) a hb rfl
   · subst e
     rcases List.mem_append.1 hb with h | h
     · exact n5 a ha a (List.mem_append_left _ (hne a h (by simp [ha]))) rfl
     · exact n5 a ha a (List.mem_append_right _ h) rfl
 · have h0:=f.zero j hj
   by_cases hji:j=i'.toNat
   · subst hji
     obtain⟨n,hx,hnk⟩:=hu i List.mem_cons_self
     rw [← hi] at hx
     have:=Co N i' i'.toNat
     rw [Ce h0,Ce hx] at this
     exact absurd (Option.some.inj this).symm hnk
   · rw [AU N hji] at h0;exact h0
theorem Fr2.put {N N2:NL}{I K:List Nat}{c:Nat}(f:Fr2 N N2 I K c){i:Int}(hI:i.toNat∈I)(hK:i.toNat∈K){x:Int ⊕ DNode}(hx:N2[i.toNat]? = some x)(hxk:yD x≠0){n:DNode}(hn:n.kind≠0)(hc:AH n=0):Fr2 N (sE N2 i n) I K c:=by
 have hlt:=(ggs.1 hx).1
 have hu:used (sE N2 i n)=used N2:=GN hx hxk hn
 refine⟨by rw [Au];exact f.len,by rw [Au,hu];exact f.cap,by rw [hu];exact f.use,fun j y hj hy hyk=>?_,fun j y hy hyk=>?_,f.new,fun j y hy hyk=>?_,f.nodup,f.chk.put hc,fun j hj=>?_⟩
 · rw [AB N2 (show j≠i.toNat from fun e=>hj (by rw [e];exact hI))];exact f.out j y hj hy hyk
 · by_cases hji:j=i.toNat
   · subst hji;exact⟨_,AV N2 hlt,hn⟩
   · rw [AB N2 hji];exact f.kept j y hy hyk
 · by_cases hji:j=i.toNat
   · subst hji;exact .inl hK
   · rw [AB N2 hji] at hy;exact f.all j y hy hyk
 · by_cases hji:j=i.toNat
   · subst hji;rw [AV N2 hlt] at hj;cases hj
   · rw [AB N2 hji] at hj;exact f.zero j hj
structure TakeP (N:NL) (n:DNode) (N' : NL) (j:Nat):Prop where
 at_:N'[j]? = some (.inr n)
 same : ∀ q,q≠j→N'[q]? = N[q]?
 free : ∀ x:Int ⊕ DNode,N[j]? = some x→yD x=0
 len:N'.length=N.length∨N'.length=N.length+1∧j=N.length∧∀(q:Nat) (x:Int ⊕ DNode),N[q]? = some x→yD x≠0
 use:yD (.inr n)≠0→used N' = used N+1
theorem Fr2.take {N N2 N' : NL}{I K:List Nat}{c:Nat}(f:Fr2 N N2 I K c){n:DNode}{j:Nat}(t:TakeP N2 n N' j)(hn:n.kind≠0)(hc:AH n=0)(hK : ∀ q∈K,∃ x,N2[q]? = some x∧yD x≠0):Fr2 N N' I (j::K) (c+1):=by
 have hu:=t.use hn
 have hjN : ∀ x:Int ⊕ DNode,N[j]? = some x→yD x=0:=fun x hx=>by
  by_cases h0:yD x=0
  · exact h0
  · obtain⟨y,hy,hyk⟩:=f.kept j x hx h0
    exact absurd (t.free y hy) hyk
 have hlen:N2.length≤N'.length:=by rcases t.len with h | ⟨h,_⟩ <;> omega
 refine⟨Nat.le_trans f.len hlen,?_,by rw [hu];have:=f.use;omega,fun q x hq hx hxk=>?_,fun q x hx hxk=>?_,fun q hq=>?_,fun q x hx hxk=>?_,List.nodup_cons.2 ⟨fun hj=>?_,f.nodup⟩,fun m hm=>?_,fun q hq=>?_⟩
 · rcases t.len with h | ⟨h,_,ha⟩
   · rw [h,hu];have:=f.cap;omega
   · have:=Hn ha
     rw [hu,h,this];omega
 · have h1:=f.out q x hq hx hxk
   by_cases hqj:q=j
   · subst hqj;exact absurd (hjN x hx) hxk
   · rw [t.same q hqj];exact h1
 · obtain⟨y,hy,hyk⟩:=f.kept q x hx hxk
   by_cases hqj:q=j
   · subst hqj;exact⟨_,t.at_,hn⟩
   · exact⟨y,by rw [t.same q hqj];exact hy,hyk⟩
 · rcases List.mem_cons.1 hq with rfl | hq
   · exact .inr hjN
   · exact f.new q hq
 · by_cases hqj:q=j
   · subst hqj;exact .inl List.mem_cons_self
   · rw [t.same q hqj] at hx
     exact(f.all q x hx hxk).imp (List.mem_cons_of_mem _) id
 · obtain⟨x,hx,hxk⟩:=hK j hj
   exact hxk (t.free x hx)
 · obtain⟨x,hx,rfl⟩:=List.mem_map.1 hm
   obtain⟨q,hq⟩:=List.mem_iff_getElem?.1 hx
   by_cases hqj:q=j
   · subst hqj
     rw [t.at_] at hq
     obtain rfl:=Option.some.inj hq
     exact hc
   · rw [t.same q hqj] at hq
     exact f.chk _ (List.mem_map.2 ⟨x,List.mem_of_getElem? hq,rfl⟩)
 · by_cases hqj:q=j
   · subst hqj;rw [t.at_] at hq;cases hq
   · rw [t.same q hqj] at hq;exact f.zero q hq
end Go.Proofs.Ytcmkdoahkncakaa
namespace Go.Proofs.Ytcmkdoahkncakaa
set_option linter.unusedVariables false
set_option linter.unusedSimpArgs false
def Gn (F:Nat)(N:NL)(n:DNode):Option ((List (Int ⊕ DNode)) × Int) :=
 (iter (σ:=Int) (ρ:=(Unit) ⊕ ((List (Int ⊕ DNode)) × Int)) (fun x16 =>
  bif decide (x16<(N.length:Int)) then
   (xF N x16).bind fun kd4 =>
   bif (kd4 == 0) then
    (un N x16).bind fun u15 =>
    some (.inr (.inr ((sE N x16 n),x16)))
   else
    some (.inl (IntKind.i64.wrap (x16+1)))
   else
    some (.inr (.inl ()))) F 0).bind fun z=>match z with
  | .inl _ =>
   (yh 104 (N.length+1)).bind fun u16 =>
   some ((N++[(Sum.inr n:Int ⊕ DNode)]),IntKind.i64.wrap (((N++[(Sum.inr n:Int ⊕ DNode)]).length:Int)-1))
  | .inr q=>some q
def HY (F:Nat)(l:List DElem)(e:DElem):Option Int :=
 iter (σ:=Int) (ρ:=Int) (fun x15 =>
  (
   bif decide (x15<(l.length:Int)) then
    (idx l x15).bind fun e28 =>
    (sV e28).bind fun r68 =>
    (sV e).bind fun r69 =>
    (tx r68 r69).bind fun r70 =>
    some (decide (r70<0))
    else
     some false:Option (Bool)).bind fun z131 =>
   bif z131 then
    some (.inl (IntKind.i64.wrap (x15+1)))
   else
    some (.inr x15)) F 0
abbrev InsT:=(List (Int ⊕ DNode)) × Int × Int × Int × Int × Int × Bool
def EH (F:Nat)(e:DElem)(rf4:NL × Int→Option InsT)(x13:NL)(x14:Int)(n31:DNode):Option ((List DElem) × (List Int) × (List DSpot) × (List Int) × (List (Int ⊕ DNode))) :=
 bif (n31.kind == 1) then
  (HY F n31.elems e).bind fun z130 =>
  (yL 56 n31.elems z130 e).bind fun _ =>
  some ((sU n31.elems z130.toNat e),n31.kids,n31.seps,n31.tids,(sZ x13 x14))
  else
   (sV e).bind fun r71 =>
   (vK F n31 r71).bind fun r72 =>
   (idx n31.kids r72).bind fun e29 =>
   (rf4 ((sZ x13 x14),e29)).bind fun z=>match z with
    | (z132,z133,z134,z135,z136,z137,z138) =>
     (idx n31.kids r72).bind fun e30 =>
     (uh z132 e30).bind fun n32 =>
     (tj F n32).bind fun r73 =>
     (idx n31.tids r72).bind fun e31 =>
     bif z138 then
      (yL 8 n31.kids (IntKind.i64.wrap (r72+1)) z137).bind fun _ =>
      (yL 32 n31.seps r72 (DSpot.mk (DKey.mk z133 z134 z135) z136)).bind fun _ =>
      (uh z132 z137).bind fun n33 =>
      (tj F n33).bind fun r74 =>
      (yL 8 (n31.tids.set r72.toNat r73) (IntKind.i64.wrap (r72+1)) r74).bind fun _ =>
      some (n31.elems,(sU n31.kids (IntKind.i64.wrap (r72+1)).toNat z137),(sU n31.seps r72.toNat (DSpot.mk (DKey.mk z133 z134 z135) z136)),(sU (n31.tids.set r72.toNat r73) (IntKind.i64.wrap (r72+1)).toNat r74),z132)
     else
      some (n31.elems,n31.kids,n31.seps,(n31.tids.set r72.toNat r73),z132)
def CA (k:Int)(z125:List DElem)(z126:List Int)(z127:List DSpot)(z128:List Int):Option ((List Int) × (List DSpot) × (List Int) × (List DElem) × (List DElem) × (List Int) × (List DSpot) × (List Int) × Int × Int × Int × Int × Int) :=
 bif (k == 1) then
  (sL z125 4 (z125.length:Int)).bind fun s25 =>
  (uE 56 ([]:List DElem) s25).bind fun _ =>
  (sL z125 0 4).bind fun s26 =>
  (idx s25 0).bind fun e33 =>
  (sV e33).bind fun r76 =>
  some ([],[],[],s25,s26,z126,z127,z128,r76.key.pfs,r76.key.obj,r76.key.off,r76.made,1)
  else
   (sL z126 4 (z126.length:Int)).bind fun s27 =>
   (sL z127 4 (z127.length:Int)).bind fun s28 =>
   (sL z128 4 (z128.length:Int)).bind fun s29 =>
   (uE 8 ([]:List Int) s27).bind fun y37 =>
   (uE 32 ([]:List DSpot) s28).bind fun y38 =>
   (uE 8 ([]:List Int) s29).bind fun y39 =>
   (idx z127 3).bind fun e34 =>
   (sL z126 0 4).bind fun s30 =>
   (sL z127 0 3).bind fun s31 =>
   (sL z128 0 4).bind fun s32 =>
   some (s29,s28,s27,[],z125,s30,s31,s32,e34.key.pfs,e34.key.obj,e34.key.off,e34.made,2)
def DA (F:Nat)(e:DElem)(rf4:NL × Int→Option InsT)(x:NL × Int):Option InsT :=
 match x with
  | (x13,x14) =>
   (uh x13 x14).bind fun n31 =>
    (EH F e rf4 x13 x14 n31).bind fun z=>match z with
     | (z125,z126,z127,z128,z129) =>
      bif decide ((IntKind.i64.wrap ((z125.length:Int)+(z126.length:Int)))≤8) then
       (un z129 x14).bind fun u13 =>
       some ((sE z129 x14 (DNode.mk n31.kind z125 z126 z127 z128)),0,0,0,0,0,false)
      else
       (CA n31.kind z125 z126 z127 z128).bind fun z=>match z with
        | (z139,z140,z141,z142,z143,z144,z145,z146,z147,z148,z149,z150,z151) =>
         (un z129 x14).bind fun u14 =>
         (Gn F (sE z129 x14 (DNode.mk n31.kind z143 z144 z145 z146)) (DNode.mk z151 z142 z141 z140 z139)).bind fun z=>match z with
          | (z152,z153) =>
           some (z152,z147,z148,z149,z150,z153,true)
def HK (F:Nat)(e:DElem)(N:NL)(root:Int):Option (Int × NL) :=
 (xC (σ:=(List (Int ⊕ DNode)) × Int) (ρ:=InsT) (DA F e) F (N,root)).bind fun z=>match z with
  | (z39,z40,z41,z42,z43,z44,z45) =>
   bif (!z45) then
    some (root,z39)
   else
    (uh z39 root).bind fun n41 =>
    (uh z39 z44).bind fun n42 =>
    (tj F n41).bind fun r84 =>
    (tj F n42).bind fun r85 =>
    (Gn F z39 (DNode.mk 2 [] [root,z44] [(DSpot.mk (DKey.mk z40 z41 z42) z43)] [r84,r85])).bind fun z=>match z with
     | (z154,z155) =>
      some (z155,z154)
variable {F:Nat} [Big F]
theorem FK {N:NL}{k:Nat}{x:Int ⊕ DNode}(h:N[k]? = some x):xF N (k:Int)=some (yD x):=by
 unfold xF;rw [if_neg (by omega),Int.toNat_natCast,h];rfl
theorem Fw {N:NL}(n:DNode)(hl:N.length≤1000):∃ N' j,Gn F N n=some (N',((j:Nat):Int))∧TakeP N n N' j:=by
 unfold Gn
 rw [BN (ρ:=Unit ⊕ (List (Int ⊕ DNode) × Int)) N (fun k x=>if yD x=0 then some (.inr (sE N (k:Int) n,(k:Int))) else none) (.inl ()) (by omega) rfl ?hs ?he]
 case hs =>
  intro k x hk _
  have hkl:=(ggs.1 hk).1
  rw [decide_eq_true (by omega),cond_true,FK hk,obs]
  by_cases h:yD x=0
  · rw [show (yD x == 0)=true by simpa using h,cond_true,Ci ⟨by omega,by omega⟩,obs,if_pos h]
  · rw [show (yD x == 0)=false by simpa using h,cond_false,if_neg h,w64 (by omega) (by omega)]
 case he=>rw [decide_eq_false (by omega),cond_false]
 rw [obs]
 cases hf:N.zipIdx.findSome? (fun p=>if yD p.1=0 then some (Sum.inr (sE N (p.2:Int) n,(p.2:Int)):Unit ⊕ (List (Int ⊕ DNode) × Int)) else none) with
 | some r =>
  obtain⟨k,x,hk,hr⟩:=CQ (w:=fun k x=>if yD x=0 then some (Sum.inr (sE N (k:Int) n,(k:Int)):Unit ⊕ (List (Int ⊕ DNode) × Int)) else none) hf
  have hkl:=(ggs.1 hk).1
  split at hr
  · rename_i h0
    obtain rfl:=Option.some.inj hr
    refine⟨sE N (k:Int) n,k,rfl,⟨?_,fun q hq=>?_,fun y hy=>?_,.inl (Au _ _ _),fun hn=>?_⟩⟩
    · have:=AV N (i:=(k:Int)) (n:=n) (by rw [Int.toNat_natCast];exact hkl)
      rwa [Int.toNat_natCast] at this
    · exact AB N (by rw [Int.toNat_natCast];exact hq)
    · rw [hk] at hy
      obtain rfl:=Option.some.inj hy
      exact h0
    · unfold sE
      rw [Int.toNat_natCast]
      have:=Ec (.inr n) hk
      rw [if_neg (fun h=>BR.1 h h0),if_pos (BR.2 hn)] at this
      omega
  · cases hr
 | none =>
  have hn:=(B5 (w:=fun k x=>if yD x=0 then some (Sum.inr (sE N (k:Int) n,(k:Int)):Unit ⊕ (List (Int ⊕ DNode) × Int)) else none)).1 hf
  have hall : ∀(q:Nat) (x:Int ⊕ DNode),N[q]? = some x→yD x≠0:=fun q x hx h0=>by
   have:=hn q x hx
   rw [if_pos h0] at this;cases this
  refine⟨N++[.inr n],N.length,?_,⟨by rw [List.getElem?_append_right (Nat.le_refl _)];simp,fun q hq=>?_,fun x hx=>?_,.inr ⟨by simp,rfl,hall⟩,fun hk=>?_⟩⟩
  · have hr:yh 104 (N.length+1)=some ():=by unfold yh;rw [if_pos ⟨by omega,by unfold maxLen;omega⟩]
    dsimp only [Option.getD_none]
    rw [hr,obs,List.length_append,List.length_singleton,w64 (by omega) (by omega)]
    congr 2;omega
  · rcases Nat.lt_or_ge q N.length with h | h
    · rw [List.getElem?_append_left h]
    · rw [List.getElem?_eq_none (by rw [List.length_append,List.length_singleton];omega),List.getElem?_eq_none h]
  · have:=(ggs.1 hx).1;omega
  · unfold used
    rw [List.countP_append,List.countP_singleton,if_pos (BR.2 hk)]
theorem Hm {α:Type}{p:α→Bool}{x:α}:∀ {l:List α},x∈l.takeWhile p→p x=true
 | [],h=>by simp at h
 | a::l,h=>by
  cases ha:p a with
  | true =>
   rw [List.takeWhile_cons_of_pos ha] at h
   rcases List.mem_cons.1 h with rfl | h
   · exact ha
   · exact Hm h
  | false=>rw [List.takeWhile_cons_of_neg (by simp [ha])] at h;cases h
theorem HB (l:List DElem)(e:DElem)(hl:l.length≤1000):∃ w:Nat,HY F l e=some (w:Int)∧w≤l.length∧(∀ x∈l.take w,cmpS (Ap x) (Ap e)<0)∧∀ x,l[w]? = some x→¬ cmpS (Ap x) (Ap e)<0:=by
 obtain⟨w1,w2⟩ : (∀ x∈l.takeWhile (fun x=>decide (cmpS (Ap x) (Ap e)<0)),cmpS (Ap x) (Ap e)<0)∧∀ x,l[(l.takeWhile (fun x=>decide (cmpS (Ap x) (Ap e)<0))).length]? = some x→¬ cmpS (Ap x) (Ap e)<0:=by
  refine⟨fun x hx=>by simpa using Hm hx,?_⟩
  clear hl
  induction l with
  | nil=>intro x hx;simp at hx
  | cons a l ih =>
   intro x hx
   by_cases h:cmpS (Ap a) (Ap e)<0
   · rw [List.takeWhile_cons_of_pos (by simpa using h),List.length_cons,List.getElem?_cons_succ] at hx
     exact ih x hx
   · rw [List.takeWhile_cons_of_neg (by simpa using h)] at hx
     obtain rfl:a=x:=by simpa using hx
     exact h
 have hpre:l.takeWhile (fun x=>decide (cmpS (Ap x) (Ap e)<0)) <+: l:=List.takeWhile_prefix _
 have hle:=hpre.length_le
 have ht:l.take (l.takeWhile (fun x=>decide (cmpS (Ap x) (Ap e)<0))).length=l.takeWhile (fun x=>decide (cmpS (Ap x) (Ap e)<0)):=(List.prefix_iff_eq_take.1 hpre).symm
 generalize hw:(l.takeWhile (fun x=>decide (cmpS (Ap x) (Ap e)<0))).length=w at *
 refine⟨w,?_,hle,by rw [ht];exact w1,w2⟩
 unfold HY
 refine Ba (fun k=>(k:Int)) w rfl (by omega) (fun k hk=>?_) ?_
 · have hkl:k<l.length:=by omega
   have hg:l[k]? = some l[k]:=gge hkl
   have hmem:l[k]∈l.take w:=List.mem_of_getElem? (by rw [List.getElem?_take_of_lt hk];exact hg)
   rw [decide_eq_true (by omega),cond_true,Ar,hg,obs,Ax,obs,Ax,obs,AJ,obs,decide_eq_true (w1 _ (by rw [← ht];exact hmem)),obs,cond_true,w64 (by omega) (by omega)]
   rfl
 · by_cases h:w<l.length
   · have hg:l[w]? = some l[w]:=gge h
     rw [decide_eq_true (by omega),cond_true,Ar,hg,obs,Ax,obs,Ax,obs,AJ,obs,decide_eq_false (w2 _ hg),obs,cond_false]
   · rw [decide_eq_false (by omega),cond_false,obs,cond_false]
theorem EG {l:List DElem}{e:DElem}{w:Nat}(ho:l.Pairwise SpO)(hw:w≤l.length)(h1 : ∀ x∈l.take w,cmpS (Ap x) (Ap e)<0)(h2 : ∀ x,l[w]? = some x→¬ cmpS (Ap x) (Ap e)<0)(hne : ∀ x∈l,Ap x≠Ap e) :
 (sU l w e).Pairwise SpO∧∀ x,x∈sU l w e↔x=e∨x∈l:=by
 have ho':=ho
 rw [← List.take_append_drop w l] at ho'
 obtain⟨o1,o2,o3⟩:=List.pairwise_append.1 ho'
 have hd : ∀ x∈l.drop w,SpO e x:=fun x hx=>by
  have h0 : ∀ y,l[w]? = some y→SpO e y:=fun y hy=>by
   have h3:=h2 y hy
   have h4:=hne y (List.mem_of_getElem? hy)
   have h5:cmpS (Ap y) (Ap e)≠0:=fun h=>h4 ((As.zero _ _).1 h)
   have h6:=As.neg (Ap y) (Ap e)
   show cmpS (Ap e) (Ap y)<0
   omega
  obtain⟨q,hq⟩:=List.mem_iff_getElem?.1 hx
  rw [List.getElem?_drop] at hq
  cases q with
  | zero=>exact h0 x (by simpa using hq)
  | succ q =>
   have hlt:=(ggs.1 hq).1
   have hg:l[w]? = some l[w]:=gge (by omega)
   exact(h0 _ hg).trans (Bl ho (by omega) hg hq)
 unfold sU
 refine⟨List.pairwise_append.2 ⟨o1,List.pairwise_cons.2 ⟨hd,o2⟩,fun a ha b hb=>?_⟩,fun x=>?_⟩
 · rcases List.mem_cons.1 hb with rfl | hb
   · exact h1 a ha
   · exact o3 a ha b hb
 · conv=>rhs;rw [← List.take_append_drop w l]
   rw [List.mem_append,List.mem_cons,List.mem_append]
   constructor
   · rintro(h | h | h)
     · exact .inr (.inl h)
     · exact .inl h
     · exact .inr (.inr h)
   · rintro(h | h | h)
     · exact .inr (.inl h)
     · exact .inl h
     · exact .inr (.inr h)
structure InsPost (e:DElem) (N N' : NL) (h:Nat) (i:Int) (s:Span) (m:Nat) (R:List Int) (X:List DSpot):Prop where
 fr:Fr2 N N' (ids (fN N) h i) (R.flatMap (ids (fN N') h)) (h+1)
 ch:Ch (fun k t s'=>Az (fN N') h k m s'∧Aw (nd (fN N') k)=t) X s R (R.map fun k=>Aw (nd (fN N') k))
 elems : ∀ x,x∈R.flatMap (Ao (fN N') h)↔x=e∨x∈Ao (fN N) h i
theorem Bi {N N' : NL}{h:Nat}{X:List DSpot}{s:Span}{Ks Ts:List Int}(hl:N.length≤N'.length)(c:Ch (Ds (fN N) h) X s Ks Ts)(hj : ∀ j∈Ks.flatMap (ids (fN N) h),N'[j]? = N[j]?) :
 Ch (Ds (fN N') h) X s Ks Ts∧Ks.flatMap (ids (fN N') h)=Ks.flatMap (ids (fN N) h)∧Ks.flatMap (Ao (fN N') h)=Ks.flatMap (Ao (fN N) h):=by
 have key : ∀ k∈Ks,∀ {m:Nat} {s:Span},Az (fN N) h k m s→Az (fN N') h k m s∧ids (fN N') h k=ids (fN N) h k∧Ao (fN N') h k=Ao (fN N) h k∧nd (fN N') k=nd (fN N) k:=fun k hk {m s} x =>
  x.agree hl fun j hjk=>hj j (List.mem_flatMap.2 ⟨k,hk,hjk⟩)
 refine⟨c.mono fun k t s' hk x=>⟨(key k hk x.1).1,by rw [(key k hk x.1).2.2.2];exact x.2⟩,B6 fun k hk=>?_,AM fun k hk=>?_⟩
 · obtain⟨t,s',x,_⟩:=c.mem k hk;exact(key k hk x.1).2.1
 · obtain⟨t,s',x,_⟩:=c.mem k hk;exact(key k hk x.1).2.2.1
theorem Ch.tmem {P:Int→Int→Span→Prop}:∀ {xs:List DSpot} {s:Span} {ks ts:List Int},Ch P xs s ks ts→∀ t∈ts,∃ k s',k∈ks∧P k t s'
 | [],s,ks,ts,⟨k,t,h1,h2,c⟩,q,hq=>by
  subst h1 h2
  rw [List.mem_singleton.1 hq];exact⟨k,s,List.mem_cons_self,c⟩
 | x::xs,s,ks,ts,⟨k,ks',t,ts',h1,h2,h3,h4,c⟩,q,hq=>by
  subst h1 h2
  rcases List.mem_cons.1 hq with rfl | hq
  · exact⟨k,_,List.mem_cons_self,h4⟩
  · obtain⟨k',s',i1,i2⟩:=c.tmem q hq
    exact⟨k',s',List.mem_cons_of_mem _ i1,i2⟩
theorem BE {N:NL}(hc:Bm N)(hl:N.length≤400){h:Nat}{X:List DSpot}{s:Span}{Ks Ts:List Int}(c:Ch (Ds (fN N) h) X s Ks Ts)(h2:2≤Ks.length)(h8:Ks.length≤8)(ho:X.Pairwise SpotO)(hx : ∀ x∈X,Ay (zE x)=0) :
 Inner ⟨2,[],Ks,X,Ts⟩:=by
 have hlen:=c.lens
 refine⟨rfl,h2,h8,hlen.1,hlen.2,fun k hk=>?_,fun t ht=>?_,hx,ho⟩
 · obtain⟨t,s',x,_⟩:=c.mem k hk
   have:=x.1.range
   rw [Av] at this
   omega
 · obtain⟨k,s',_,x⟩:=c.tmem t ht
   rw [← x.2]
   exact Fb (Ct hc x.1.range)
theorem Az.some_elem {ns:List DNode}(hns : ∀ n∈ns,AH n=0){h:Nat}{i:Int}{s:Span}(c:Az ns h i 4 s):∃ e,e∈Ao ns h i:=by
 have h0:=(DP hns h i 1 s (by decide)).2 (by unfold mOf;rw [if_pos (by decide)];exact c)
 have:=FE hns h i 1 s h0 (by decide)
 have h1:0<4 ^ (h+1):=Nat.pow_pos (by decide)
 exact List.exists_mem_of_length_pos (by omega)
theorem FG {l:List DElem}(hl:l.length=9)(ks:List Int)(xs:List DSpot)(ts:List Int):∃ x,l[4]? = some x∧CA 1 l ks xs ts=some ([],[],[],l.drop 4,l.take 4,ks,xs,ts,(Ap x).key.pfs,(Ap x).key.obj,(Ap x).key.off,(Ap x).made,1):=by
 have hg:l[4]? = some l[4]:=gge (by omega)
 refine⟨_,hg,?_⟩
 unfold CA
 have h1:sL l 4 (l.length:Int)=some (l.drop 4):=AO (k:=4) (by omega)
 have h2:sL l 0 4=some (l.take 4):=Bb (k:=4) (by omega)
 have h3:idx (l.drop 4) 0=some l[4]:=by rw [show (0:Int)=((0:Nat):Int) from rfl,Ar,List.getElem?_drop];exact hg
 rw [show ((1:Int) == 1)=true from rfl,cond_true,h1,obs,AD (by simp [hl]) (by simp [hl]),obs,h2,obs,h3,obs,Ax,obs]
theorem Fc {ks:List Int}{xs:List DSpot}{ts:List Int}(hk:ks.length=9)(hx:xs.length=8)(ht:ts.length=9)(l:List DElem):∃ x,xs[3]? = some x∧CA 2 l ks xs ts=some (ts.drop 4,xs.drop 4,ks.drop 4,[],l,ks.take 4,xs.take 3,ts.take 4,x.key.pfs,x.key.obj,x.key.off,x.made,2):=by
 have hg:xs[3]? = some xs[3]:=gge (by omega)
 refine⟨_,hg,?_⟩
 unfold CA
 have h1:sL ks 4 (ks.length:Int)=some (ks.drop 4):=AO (k:=4) (by omega)
 have h2:sL xs 4 (xs.length:Int)=some (xs.drop 4):=AO (k:=4) (by omega)
 have h3:sL ts 4 (ts.length:Int)=some (ts.drop 4):=AO (k:=4) (by omega)
 have h4:sL ks 0 4=some (ks.take 4):=Bb (k:=4) (by omega)
 have h5:sL xs 0 3=some (xs.take 3):=Bb (k:=3) (by omega)
 have h6:sL ts 0 4=some (ts.take 4):=Bb (k:=4) (by omega)
 have h7:idx xs 3=some xs[3]:=by rw [show (3:Int)=((3:Nat):Int) from rfl,Ar];exact hg
 rw [show ((2:Int) == 1)=false from rfl,cond_false,h1,obs,h2,obs,h3,obs,AD (by simp [hk]) (by simp [hk]),obs,AD (by simp [hx]) (by simp [hx]),obs,AD (by simp [ht]) (by simp [ht]),obs,h7,obs,h4,obs,h5,obs,h6,obs]
end Go.Proofs.Ytcmkdoahkncakaa
namespace Go.Proofs.Ytcmkdoahkncakaa
set_option linter.unusedVariables false
set_option linter.unusedSimpArgs false
variable {F:Nat} [Big F]
theorem Fr2.cong {N N' : NL}{I I' K K' : List Nat}{c:Nat}(f:Fr2 N N' I K c)(h1:I=I')(h2:K=K'):Fr2 N N' I' K' c:=by subst h1 h2;exact f
theorem CB {N:NL}{i:Int}{n:DNode}(h:N[i.toNat]? = some (.inr n)):nd (fN N) i=n:=by unfold nd;rw [CE,h];rfl
def Fx (F:Nat)(e:DElem)(N:NL)(h mf:Nat)(i:Int)(s:Span)(m:Nat):Prop :=
 ∃(N' : NL) (sp:DSpot) (r:Int) (b:Bool),xC (DA F e) mf (N,i)=some (N',sp.key.pfs,sp.key.obj,sp.key.off,sp.made,r,b) ∧
  ((b=false∧InsPost e N N' h i s m [i] [])∨(b=true∧Ay (zE sp)=0∧InsPost e N N' h i s 4 [i,r] [sp]))
def z0:DSpot:=⟨⟨0,0,0⟩,0⟩
omit [Big F] in
theorem DY {e:DElem}{rf:NL × Int→Option InsT}{N N2:NL}{i:Int}{n:DNode}{l:List DElem}{ks:List Int}{xs:List DSpot}{ts:List Int}(hn:uh N i=some n)(hm:EH F e rf N i n=some (l,ks,xs,ts,N2))(h8:l.length+ks.length≤8)(hi:0≤i∧i<(N2.length:Int)) :
 DA F e rf (N,i)=some (sE N2 i ⟨n.kind,l,ks,xs,ts⟩,0,0,0,0,0,false):=by
 unfold DA
 dsimp only
 rw [hn,obs,hm,obs]
 dsimp only
 rw [w64 (by omega) (by omega),decide_eq_true (by omega),cond_true,Ci hi,obs]
theorem DX {e:DElem}{rf:NL × Int→Option InsT}{N N2:NL}{i:Int}{n:DNode}{l:List DElem}{ks:List Int}{xs:List DSpot}{ts:List Int}(hn:uh N i=some n)(hm:EH F e rf N i n=some (l,ks,xs,ts,N2))(h8:l.length+ks.length=9)(hi:0≤i∧i<(N2.length:Int))(hl:N2.length≤1000)
 {r1:List Int} {r2:List DSpot} {r3:List Int} {r4 l1:List DElem} {l2:List Int} {l3:List DSpot} {l4:List Int} {sp:DSpot} {k:Int} (hh:CA n.kind l ks xs ts=some (r1,r2,r3,r4,l1,l2,l3,l4,sp.key.pfs,sp.key.obj,sp.key.off,sp.made,k)) :
 ∃ N' j,DA F e rf (N,i)=some (N',sp.key.pfs,sp.key.obj,sp.key.off,sp.made,((j:Nat):Int),true)∧TakeP (sE N2 i ⟨n.kind,l1,l2,l3,l4⟩) ⟨k,r4,r3,r2,r1⟩ N' j:=by
 obtain⟨N',j,h1,h2⟩:=Fw (F:=F) (N:=sE N2 i ⟨n.kind,l1,l2,l3,l4⟩) ⟨k,r4,r3,r2,r1⟩ (by rw [Au];exact hl)
 refine⟨N',j,?_,h2⟩
 unfold DA
 dsimp only
 rw [hn,obs,hm,obs]
 dsimp only
 rw [w64 (by omega) (by omega),decide_eq_false (by omega),cond_false,hh,obs]
 dsimp only
 rw [Ci hi,obs,h1,obs]
theorem G7 {e:DElem}(he:Ay e=0){mf:Nat}{N:NL}{i:Int}{m:Nat}{s:Span}(hm:0<mf)(hc:Bm N)(hl:N.length≤400)(c:Az (fN N) 0 i m s)(hs:inS s (Ap e)=true)(hne : ∀ x∈Ao (fN N) 0 i,Ap x≠Ap e):Fx F e N 0 mf i s m:=by
 obtain⟨mf,rfl⟩ : ∃ q,mf=q+1:=⟨mf-1,by omega⟩
 have L:=c.leaf hc
 have hr:=c.range
 rw [Av] at hr
 obtain⟨hnode,hat⟩:=c.node
 have hk0:=c.kind
 obtain⟨_,hk1,hmk,hin⟩:=c
 have hne' : ∀ x∈(nd (fN N) i).elems,Ap x≠Ap e:=hne
 have hel : ∀ x,x∈Ao (fN N) 0 i↔x∈(nd (fN N) i).elems:=fun x=>Iff.rfl
 generalize hnn:nd (fN N) i=n at *
 obtain⟨w,hw,hwl,hw1,hw2⟩:=HB (F:=F) n.elems e (by have:=L.len;omega)
 obtain⟨so,sm⟩:=EG L.ord hwl hw1 hw2 hne'
 have hlen:=uq e hwl
 have h8:=L.len
 generalize hl' : sU n.elems w e=l' at *
 have hok : ∀ x∈l',Ay x=0:=fun x hx=>by
  rcases (sm x).1 hx with rfl | hx
  · exact he
  · exact L.ok x hx
 have hin' : ∀ x∈l',inS s (Ap x)=true:=fun x hx=>by
  rcases (sm x).1 hx with rfl | hx
  · exact hs
  · exact hin x hx
 have hM : ∀ rf,EH F e rf N i n=some (l',[],[],[],sZ N i):=fun rf=>by
  unfold EH
  rw [hk1,show ((1:Int) == 1)=true from rfl,cond_true,hw,obs]
  unfold yL
  rw [if_pos ⟨by omega,by omega,by omega,by unfold maxLen;omega⟩,obs,Int.toNat_natCast,hl',L.kids,L.seps,L.tids]
 have fr0:=Fr2.start hc hat hk0
 have hat1 : ∃ x,(sZ N i)[i.toNat]? = some x∧yD x≠0:=by
  have:=Co N i i.toNat
  rw [Ce hat] at this
  obtain⟨x,hx,hxk⟩:=Gi this
  exact⟨x,hx,by rw [hxk];exact hk0⟩
 obtain⟨x1,hx1,hxk1⟩:=hat1
 have hI:ids (fN N) 0 i=[i.toNat]:=rfl
 by_cases hs8:l'.length≤8
 · have Lf:Leaf ⟨1,l',[],[],[]⟩:=⟨rfl,rfl,rfl,hs8,hok,so⟩
   have hck:=Cc (n:=⟨1,l',[],[],[]⟩) rfl Lf
   have hnd:nd (fN (sE (sZ N i) i ⟨1,l',[],[],[]⟩)) i=⟨1,l',[],[],[]⟩:=EK (by rw [Aq];exact hr)
   refine⟨sE (sZ N i) i ⟨1,l',[],[],[]⟩,z0,0,false,?_,.inl ⟨rfl,⟨?_,?_,?_⟩⟩⟩
   · show DA F e (xC (DA F e) mf) (N,i)=_
     rw [DY hnode (hM _) (by simpa using hs8) (by rw [Aq];exact hr),hk1];rfl
   · exact((fr0.put List.mem_cons_self List.mem_cons_self hx1 hxk1 (show (1:Int)≠0 by decide) hck).more (Nat.zero_le _)).cong rfl (by simp [ids])
   · refine⟨i,_,rfl,rfl,⟨?_,by rw [hnd],by rw [hnd];show m≤l'.length;omega,by rw [hnd];exact hin'⟩,rfl⟩
     rw [Av,Au,Aq];exact hr
   · intro x
     rw [hel,← sm x,List.flatMap_singleton]
     show x∈(nd _ i).elems↔_
     rw [hnd]
 · have h9:l'.length=9:=by omega
   obtain⟨x,hx,hh⟩:=FG h9 [] [] []
   rw [← hk1] at hh
   obtain⟨N',j,hB,tk⟩:=DX (sp:=Ap x) hnode (hM (xC (DA F e) mf)) (by simpa using h9) (by rw [Aq];exact hr) (by rw [Aq];omega) hh
   rw [hk1] at tk
   have e48:l' = l'.take 4++l'.drop 4:=(List.take_append_drop 4 l').symm
   have hso:=so
   rw [e48] at hso
   obtain⟨o1,o2,o3⟩:=List.pairwise_append.1 hso
   have hl1:(l'.take 4).length=4:=by rw [List.length_take];omega
   have hl2:(l'.drop 4).length=5:=by rw [List.length_drop];omega
   have hxd : ∃ r,l'.drop 4=x::r:=by
    have h4:4<l'.length:=by omega
    rw [gge h4] at hx
    obtain rfl:=Option.some.inj hx
    exact⟨_,List.drop_eq_getElem_cons h4⟩
   obtain⟨rr,hrr⟩:=hxd
   have Lf1:Leaf ⟨1,l'.take 4,[],[],[]⟩:=⟨rfl,rfl,rfl,by show (l'.take 4).length≤8;omega,fun y hy=>hok y (List.mem_of_mem_take hy),o1⟩
   have Lf2:Leaf ⟨1,l'.drop 4,[],[],[]⟩:=⟨rfl,rfl,rfl,by show (l'.drop 4).length≤8;omega,fun y hy=>hok y (List.mem_of_mem_drop hy),o2⟩
   have hck1:=Cc (n:=⟨1,l'.take 4,[],[],[]⟩) rfl Lf1
   have hck2:=Cc (n:=⟨1,l'.drop 4,[],[],[]⟩) rfl Lf2
   have fr1:=fr0.put List.mem_cons_self List.mem_cons_self hx1 hxk1 (n:=⟨1,l'.take 4,[],[],[]⟩) (show (1:Int)≠0 by decide) hck1
   have hat2:(sE (sZ N i) i ⟨1,l'.take 4,[],[],[]⟩)[i.toNat]? = some (.inr ⟨1,l'.take 4,[],[],[]⟩):=AV _ (by rw [Aq];omega)
   have fr2:=fr1.take tk (show (1:Int)≠0 by decide) hck2 fun q hq=>by
    obtain rfl:q=i.toNat:=by simpa using hq
    exact⟨_,hat2,show (1:Int)≠0 by decide⟩
   have hij:i.toNat≠j:=fun h=>by
    subst h
    exact absurd (tk.free _ hat2) (show (1:Int)≠0 by decide)
   have hNi:N'[i.toNat]? = some (.inr ⟨1,l'.take 4,[],[],[]⟩):=by rw [tk.same _ hij];exact hat2
   have hnd1:nd (fN N') i=⟨1,l'.take 4,[],[],[]⟩:=CB hNi
   have hnd2:nd (fN N') (j:Int)=⟨1,l'.drop 4,[],[],[]⟩:=DI (by rw [CE,tk.at_];rfl)
   have hjl:j<N'.length:=(ggs.1 tk.at_).1
   have hil:i.toNat<N'.length:=(ggs.1 hNi).1
   have hxs:inS s (Ap x)=true:=hin' x (List.mem_of_mem_drop (by rw [hrr];exact List.mem_cons_self))
   refine⟨N',Ap x,(j:Int),true,hB,.inr ⟨rfl,EQ (hok x (List.mem_of_mem_drop (by rw [hrr];exact List.mem_cons_self))),⟨?_,?_,?_⟩⟩⟩
   · refine((fr2.more (by omega)).perm (K':=[i.toNat,j]) (List.Perm.swap _ _ _)).cong rfl ?_
     simp [ids]
   · refine⟨i,[(j:Int)],_,_,rfl,rfl,hxs,⟨⟨?_,by rw [hnd1],by rw [hnd1];show 4≤(l'.take 4).length;omega,?_⟩,rfl⟩,(j:Int),_,rfl,rfl,⟨?_,by rw [hnd2],by rw [hnd2];show 4≤(l'.drop 4).length;omega,?_⟩,rfl⟩
     · rw [Av];omega
     · rw [hnd1]
       intro y hy
       exact Bo.2 ⟨(AK.1 (hin' y (List.mem_of_mem_take hy))).1,o3 y hy x (by rw [hrr];exact List.mem_cons_self)⟩
     · rw [Av];omega
     · rw [hnd2]
       intro y hy
       refine B3.2 ⟨?_,(AK.1 (hin' y (List.mem_of_mem_drop hy))).2⟩
       have hy' : y∈x::rr:=by rw [← hrr];exact hy
       rw [hrr] at o2
       rcases List.mem_cons.1 hy' with rfl | hy'
       · rw [As.refl];decide
       · have:cmpS (Ap x) (Ap y)<0:=(List.pairwise_cons.1 o2).1 y hy'
         omega
   · intro y
     rw [hel,← sm y,List.flatMap_cons,List.flatMap_singleton]
     show y∈(nd _ i).elems++(nd _ (j:Int)).elems↔_
     rw [hnd1,hnd2]
     show y∈l'.take 4++l'.drop 4↔_
     rw [← e48]
theorem DE (l:List DElem)(a:List Int)(b:List DSpot)(c:List Int):(DNode.mk 2 l a b c).kind≠0:=show (2:Int)≠0 by decide
theorem Hy {e:DElem}{N N2:NL}{h mf:Nat}{i:Int}{m:Nat}{s:Span}{n:DNode}{Ks:List Int}{Xs:List DSpot}{Ts:List Int}(hnode:uh N i=some n)(hk2:n.kind=2)(hM:EH F e (xC (DA F e) mf) N i n=some ([],Ks,Xs,Ts,N2))(hi:0≤i∧i<(N2.length:Int))(hl2:N2.length≤400)
 (fr:Fr2 N N2 (ids (fN N) (h+1) i) (i.toNat::Ks.flatMap (ids (fN N2) h)) (h+1)) (hole : ∃ x,N2[i.toNat]? = some x∧yD x≠0) (c:Ch (Ds (fN N2) h) Xs s Ks Ts) (h2:2≤Ks.length) (h9:Ks.length≤9) (hm:m≤Ks.length) (ho:Xs.Pairwise SpotO) (hx : ∀ x∈Xs,Ay (zE x)=0)
 (el : ∀ x,x∈Ks.flatMap (Ao (fN N2) h)↔x=e∨x∈Ao (fN N) (h+1) i):Fx F e N (h+1) (mf+1) i s m:=by
 have hI:i.toNat∈ids (fN N) (h+1) i:=Az.head _ _
 have hc2:=fr.chk
 obtain⟨x1,hx1,hxk1⟩:=hole
 have hiK:i.toNat ∉ Ks.flatMap (ids (fN N2) h):=(List.nodup_cons.1 fr.nodup).1
 have hlens:=c.lens
 by_cases h8:Ks.length≤8
 · have hck:=AW (n:=⟨2,[],Ks,Xs,Ts⟩) rfl (BE hc2 hl2 c h2 h8 ho hx)
   have hnd:nd (fN (sE N2 i ⟨2,[],Ks,Xs,Ts⟩)) i=⟨2,[],Ks,Xs,Ts⟩:=EK hi
   obtain⟨a1,a2,a3⟩:=Bi (N':=sE N2 i ⟨2,[],Ks,Xs,Ts⟩) (by rw [Au];exact Nat.le_refl _) c fun j hj=>AB N2 (show j≠i.toNat from fun h=>hiK (by rw [← h];exact hj))
   refine⟨sE N2 i ⟨2,[],Ks,Xs,Ts⟩,z0,0,false,?_,.inl ⟨rfl,⟨?_,?_,?_⟩⟩⟩
   · show DA F e (xC (DA F e) mf) (N,i)=_
     rw [DY hnode hM (by simpa using h8) hi,hk2];rfl
   · refine((fr.put hI List.mem_cons_self hx1 hxk1 (DE _ _ _ _) hck).more (by omega)).cong rfl ?_
     rw [List.flatMap_singleton,ids,hnd,a2]
   · refine⟨i,_,rfl,rfl,⟨?_,by rw [hnd],by rw [hnd];exact hm,by rw [hnd];exact a1⟩,rfl⟩
     rw [Av,Au];exact hi
   · intro x
     rw [List.flatMap_singleton,Ao,hnd,a3]
     exact el x
 · have hk9:Ks.length=9:=by omega
   obtain⟨sp,hsp,hh⟩:=Fc hk9 (show Xs.length=8 by omega) (show Ts.length=9 by omega) []
   rw [← hk2] at hh
   obtain⟨N',j,hB,tk⟩:=DX hnode hM (by simpa using hk9) hi (by omega) hh
   rw [hk2] at tk
   have h3:3<Xs.length:=by omega
   have hspx:Xs[3]=sp:=by rw [gge h3] at hsp;exact Option.some.inj hsp
   have eX:Xs=Xs.take 3++sp::Xs.drop 4:=by rw [← hspx];exact Cs Xs h3
   have eK:Ks=Ks.take 4++Ks.drop 4:=(List.take_append_drop 4 Ks).symm
   have eT:Ts=Ts.take 4++Ts.drop 4:=(List.take_append_drop 4 Ts).symm
   have l1:(Ks.take 4).length=4:=by rw [List.length_take];omega
   have l2:(Xs.take 3).length=3:=by rw [List.length_take];omega
   have l3:(Ts.take 4).length=4:=by rw [List.length_take];omega
   have l4:(Ks.drop 4).length=5:=by rw [List.length_drop];omega
   have c':=c
   rw [eX,eK,eT] at c'
   have ho':=ho
   rw [eX] at ho'
   obtain⟨s1,s2,s3⟩:=Ch.split (by omega) (by omega) ho' c'
   obtain⟨o1,o2,o3⟩:=List.pairwise_append.1 ho'
   have hck1:=AW (n:=⟨2,[],Ks.take 4,Xs.take 3,Ts.take 4⟩) rfl (BE hc2 hl2 s2 (by omega) (by omega) o1 fun x h=>hx x (List.mem_of_mem_take h))
   have hck2:=AW (n:=⟨2,[],Ks.drop 4,Xs.drop 4,Ts.drop 4⟩) rfl (BE hc2 hl2 s3 (by omega) (by omega) (List.pairwise_cons.1 o2).2 fun x h=>hx x (List.mem_of_mem_drop h))
   have fr1:=fr.put hI List.mem_cons_self hx1 hxk1 (DE [] (Ks.take 4) (Xs.take 3) (Ts.take 4)) hck1
   have hat2:(sE N2 i ⟨2,[],Ks.take 4,Xs.take 3,Ts.take 4⟩)[i.toNat]? = some (.inr ⟨2,[],Ks.take 4,Xs.take 3,Ts.take 4⟩):=AV _ (by omega)
   have hKu : ∀ q∈Ks.flatMap (ids (fN N2) h),∃ n:DNode,N2[q]? = some (.inr n)∧n.kind≠0:=fun q hq=>by
    obtain⟨k,hk,hq⟩:=List.mem_flatMap.1 hq
    obtain⟨t,s',x,_⟩:=c.mem k hk
    exact x.1.used q hq
   have hne : ∀ q∈Ks.flatMap (ids (fN N2) h),q≠i.toNat:=fun q hq h=>hiK (by rw [← h];exact hq)
   have fr2:=fr1.take tk (DE _ _ _ _) hck2 fun q hq=>by
    rcases List.mem_cons.1 hq with rfl | hq
    · exact⟨_,hat2,DE _ _ _ _⟩
    · obtain⟨y,hy,hyk⟩:=hKu q hq
      exact⟨.inr y,by rw [AB N2 (hne q hq)];exact hy,hyk⟩
   have hij:i.toNat≠j:=fun h=>by
    subst h
    exact absurd (tk.free _ hat2) (DE _ _ _ _)
   have hNi:N'[i.toNat]? = some (.inr ⟨2,[],Ks.take 4,Xs.take 3,Ts.take 4⟩):=by rw [tk.same _ hij];exact hat2
   have hnd1:nd (fN N') i=⟨2,[],Ks.take 4,Xs.take 3,Ts.take 4⟩:=CB hNi
   have hnd2:nd (fN N') (j:Int)=⟨2,[],Ks.drop 4,Xs.drop 4,Ts.drop 4⟩:=CB (by rw [Int.toNat_natCast];exact tk.at_)
   have hjl:j<N'.length:=(ggs.1 tk.at_).1
   have hil:i.toNat<N'.length:=(ggs.1 hNi).1
   have hlen:N2.length≤N'.length:=by rcases tk.len with h | ⟨h,_⟩ <;> rw [Au] at h <;> omega
   have hag : ∀ q∈Ks.flatMap (ids (fN N2) h),N'[q]? = N2[q]?:=fun q hq=>by
    have hqj:q≠j:=fun h=>by
     subst h
     obtain⟨y,hy,hyk⟩:=hKu q hq
     exact absurd (tk.free (.inr y) (by rw [AB N2 (hne q hq)];exact hy)) hyk
    rw [tk.same q hqj,AB N2 (hne q hq)]
   have sub1 : ∀ q∈(Ks.take 4).flatMap (ids (fN N2) h),q∈Ks.flatMap (ids (fN N2) h):=fun q hq=>by
    rw [eK,List.flatMap_append];exact List.mem_append_left _ hq
   have sub2 : ∀ q∈(Ks.drop 4).flatMap (ids (fN N2) h),q∈Ks.flatMap (ids (fN N2) h):=fun q hq=>by
    rw [eK,List.flatMap_append];exact List.mem_append_right _ hq
   obtain⟨a1,a2,a3⟩:=Bi hlen s2 fun q hq=>hag q (sub1 q hq)
   obtain⟨b1,b2,b3⟩:=Bi hlen s3 fun q hq=>hag q (sub2 q hq)
   refine⟨N',sp,(j:Int),true,hB,.inr ⟨rfl,hx sp (by rw [eX];simp),⟨?_,?_,?_⟩⟩⟩
   · refine(fr2.perm (K':=i.toNat::((Ks.take 4).flatMap (ids (fN N2) h)++j::(Ks.drop 4).flatMap (ids (fN N2) h))) ?_).cong rfl ?_
     · rw [show Ks.flatMap (ids (fN N2) h)=(Ks.take 4).flatMap (ids (fN N2) h)++(Ks.drop 4).flatMap (ids (fN N2) h) by rw [← List.flatMap_append,← eK]]
       exact(List.Perm.swap _ _ _).trans (List.Perm.cons _ List.perm_middle.symm)
     · rw [List.flatMap_cons,List.flatMap_singleton,ids,ids,hnd1,hnd2,a2,b2,Int.toNat_natCast];rfl
   · refine⟨i,[(j:Int)],_,_,rfl,rfl,s1,⟨⟨?_,by rw [hnd1],by rw [hnd1];show 4≤(Ks.take 4).length;omega,by rw [hnd1];exact a1⟩,rfl⟩,(j:Int),_,rfl,rfl,⟨?_,by rw [hnd2],by rw [hnd2];show 4≤(Ks.drop 4).length;omega,by rw [hnd2];exact b1⟩,rfl⟩
     · rw [Av];omega
     · rw [Av];omega
   · intro x
     rw [← el x,List.flatMap_cons,List.flatMap_singleton,Ao,Ao,hnd1,hnd2]
     show x∈(Ks.take 4).flatMap _++(Ks.drop 4).flatMap _↔_
     rw [a3,b3,← List.flatMap_append,← eK]
theorem EP (sp:DSpot):DSpot.mk (DKey.mk sp.key.pfs sp.key.obj sp.key.off) sp.made=sp:=rfl
theorem G6 {e:DElem}(he:Ay e=0):∀(h mf:Nat) (N:NL) (i:Int) (m:Nat) (s:Span),h<mf→Bm N→N.length≤400→used N+(h+1)≤400→Az (fN N) h i m s→(ids (fN N) h i).Nodup→inS s (Ap e)=true→(∀ x∈Ao (fN N) h i,Ap x≠Ap e) →
 Fx F e N h mf i s m:=by
 intro h
 induction h with
 | zero=>exact fun mf N i m s hm hc hl _ c _ hs hne=>G7 he hm hc hl c hs hne
 | succ h ih =>
  intro mf N i m s hm hc hl hu c hn hs hne
  obtain⟨mf,rfl⟩ : ∃ q,mf=q+1:=⟨mf-1,by omega⟩
  have L:=c.inner hc
  have hr:=c.range
  rw [Av] at hr
  have hus:=c.used
  obtain⟨hnode,hat⟩:=c.node
  have hk0:=c.kind
  obtain⟨_,hk2,hmk,hch⟩:=c
  obtain⟨A,k,B,XA,XB,TA,t,TB,s',f⟩:=G0 L.seps L.tids L.ord hch hs
  have hids:ids (fN N) (h+1) i=i.toNat::(A.flatMap (ids (fN N) h)++(ids (fN N) h k++B.flatMap (ids (fN N) h))):=by
   rw [ids,f.kids,List.flatMap_append,List.flatMap_cons]
  have hels:Ao (fN N) (h+1) i=A.flatMap (Ao (fN N) h)++(Ao (fN N) h k++B.flatMap (Ao (fN N) h)):=by
   rw [Ao,f.kids,List.flatMap_append,List.flatMap_cons]
  generalize hnn:nd (fN N) i=n at *
  have hn0:=hn
  rw [ids,hnn,f.kids] at hn
  obtain⟨d1,d2,d3⟩:=DJ hn
  have hN1 : ∀ j∈ids (fN N) h k,(sZ N i)[j]? = N[j]?:=fun j hj=>AU N (fun e=>d1 (e▸hj))
  obtain⟨q1,q2,q3,q4⟩:=Az.agree (N':=sZ N i) (by rw [Aq];exact Nat.le_refl _) f.here.1 hN1
  obtain⟨N2,sp,r,b,hrun,hpost⟩:=ih mf (sZ N i) k 4 s' (by omega) (hc.out i) (by rw [Aq];exact hl) (by rw [Dr];omega) q1 (by rw [q2];exact d2) f.in_ (fun x hx=>hne x (by rw [hels,← q3];simp [hx]))
  have hw:BW n.seps (Ap e)=A.length:=f.way
  have hkl:n.kids.length=A.length+B.length+1:=by rw [f.kids];simp;omega
  have h8:=L.eight
  have hta:=f.ta
  have hxa:=f.xa
  obtain⟨R,X,P,hXp,hXc,hRl,hXo,hM⟩ : ∃ R X,InsPost e (sZ N i) N2 h k s' 4 R X∧(∀ x∈X,Ay (zE x)=0)∧X.length+1=R.length∧R.length≤2∧(XA++(X++XB)).Pairwise SpotO ∧
   EH F e (xC (DA F e) mf) N i n=some ([],A++(R++B),XA++(X++XB),TA++(R.map (fun k=>Aw (nd (fN N2) k))++TB),N2):=by
   have hord:=L.ord
   rw [f.seps] at hord
   have hcall : ∀(K:InsT→Option ((List DElem) × (List Int) × (List DSpot) × (List Int) × (List (Int ⊕ DNode)))),True:=fun _=>trivial
   rcases hpost with ⟨rfl,P⟩ | ⟨rfl,hsp,P⟩
   · refine⟨[k],[],P,by simp,rfl,by simp,by simpa using hord,?_⟩
     obtain⟨k',t',e1,e2,x⟩:=P.ch
     obtain rfl:k=k':=by simpa using e1
     unfold EH
     rw [hk2,show ((2:Int) == 1)=false from rfl,cond_false,Ax,obs,Cg n _ (BQ (AW hk2 L)),obs,hw,f.kids,B0,obs,hrun,obs]
     dsimp only
     rw [obs,x.1.node.1,obs,Bd P.fr.chk x.1.range,obs,f.tids,← hta,B0,obs,cond_false,Int.toNat_natCast,Dm,L.elems,f.seps]
     simp
   · obtain⟨k',ks',t',ts',e1,e2,i1,x,k2,t2,e3,e4,y⟩:=P.ch
     obtain⟨rfl,rfl⟩ : k=k'∧[r]=ks':=by simpa using e1
     obtain rfl:r=k2:=by simpa using e3
     refine⟨[k,r],[sp],P,by simpa using hsp,rfl,by simp,?_,?_⟩
     · obtain⟨p1,p2,p3⟩:=List.pairwise_append.1 hord
       obtain⟨y0,hy0⟩:=x.1.some_elem P.fr.chk
       have hy1:=(Bo.1 ((x.1.elems P.fr.chk).2 y0 hy0).1)
       have hy2:=Bx i1 ((x.1.elems P.fr.chk).2 y0 hy0).1
       have hlo : ∀ z∈XA,SpotO z sp:=fun z hz=>CY (f.loX z hz _ hy2) hy1.2
       have hhi : ∀ z∈XB,SpotO sp z:=fun z hz=>f.hiX z hz sp i1
       refine List.pairwise_append.2 ⟨p1,List.pairwise_cons.2 ⟨hhi,p2⟩,fun a ha b hb=>?_⟩
       rcases List.mem_cons.1 hb with rfl | hb
       · exact hlo a ha
       · exact p3 a ha b hb
     · have hXl:n.seps.length=A.length+B.length:=by have:=L.seps;omega
       have htl:(TA++Aw (nd (fN N2) k)::TB).length=A.length+B.length+1:=by have:=f.tb;simp;omega
       unfold EH
       rw [hk2,show ((2:Int) == 1)=false from rfl,cond_false,Ax,obs,Cg n _ (BQ (AW hk2 L)),obs,hw,f.kids,B0,obs,hrun,obs]
       dsimp only
       rw [obs,x.1.node.1,obs,Bd P.fr.chk x.1.range,obs,f.tids,show idx (TA++t::TB) (A.length:Int)=some t by rw [← hta];exact B0 _ _ _,obs,cond_true,w64 (by omega) (by omega),Int.toNat_natCast,show (TA++t::TB).set A.length (Aw (nd (fN N2) k))=TA++Aw (nd (fN N2) k)::TB by rw [← hta];exact Dm _ _ _ _,EP]
       have hi1:yL 8 (A++k::B) ((A.length:Int)+1) r=some (A++(k::r::B)):=by
        unfold yL
        rw [if_pos ⟨by omega,by simp;omega,by simp;omega,by unfold maxLen;simp;omega⟩,show ((A.length:Int)+1).toNat=A.length+1 by omega]
        unfold sU
        rw [show A++k::B=(A++[k])++B by simp,List.take_left' (by simp),List.drop_left' (by simp)];simp
       have hi2:yL 32 n.seps (A.length:Int) sp=some (XA++sp::XB):=by
        unfold yL
        rw [if_pos ⟨by omega,by omega,by omega,by unfold maxLen;omega⟩,Int.toNat_natCast]
        unfold sU
        rw [f.seps,List.take_left' hxa,List.drop_left' hxa]
       have hi3:yL 8 (TA++Aw (nd (fN N2) k)::TB) ((A.length:Int)+1) (Aw (nd (fN N2) r))=some (TA++(Aw (nd (fN N2) k)::Aw (nd (fN N2) r)::TB)):=by
        unfold yL
        rw [if_pos ⟨by omega,by omega,by omega,by unfold maxLen;omega⟩,show ((A.length:Int)+1).toNat=A.length+1 by omega]
        unfold sU
        rw [show TA++Aw (nd (fN N2) k)::TB=(TA++[Aw (nd (fN N2) k)])++TB by simp,List.take_left' (by simp;omega),List.drop_left' (by simp;omega)];simp
       obtain⟨_,_,_,_,j1⟩:=vR hi1
       obtain⟨_,_,_,_,j2⟩:=vR hi2
       obtain⟨_,_,_,_,j3⟩:=vR hi3
       rw [Int.toNat_natCast] at j2
       rw [hi1,obs,hi2,obs,y.1.node.1,obs,Bd P.fr.chk y.1.range,obs,hi3,obs,j1,j2,j3,L.elems]
       simp
  have hl2:N2.length≤400:=by
   have h1:=P.fr.cap
   have h2:=P.fr.use
   rw [Aq] at h1
   rw [Dr] at h2
   omega
  have hr2:0≤i∧i<(N2.length:Int):=by
   have:=P.fr.len
   rw [Aq] at this
   omega
  have hab : ∀ a,a∈A∨a∈B→∀ j∈ids (fN N) h a,N2[j]? = N[j]?:=fun a ha j hj=>by
   obtain⟨x1,x2⟩:=d3 a ha
   obtain⟨y,hy,hyk⟩:=hus j (by
    rw [hids]
    rcases ha with ha | ha
    · simp only [List.mem_cons,List.mem_append,List.mem_flatMap];exact .inr (.inl ⟨a,ha,hj⟩)
    · simp only [List.mem_cons,List.mem_append,List.mem_flatMap];exact .inr (.inr (.inr ⟨a,ha,hj⟩)))
   have hji:j≠i.toNat:=fun e=>x1 (e▸hj)
   rw [P.fr.out j (.inr y) (by rw [q2];exact x2 j hj) (by rw [AU N hji];exact hy) hyk,hy]
  have hlen2:N.length≤N2.length:=by have:=P.fr.len;rwa [Aq] at this
  have other : ∀ a,a∈A∨a∈B→∀ {m:Nat} {s:Span},Az (fN N) h a m s→_:=fun a ha m s c=>Az.agree (N:=N) (N':=N2) hlen2 c (hab a ha)
  have c2:=f.turn (Ds (fN N2) h) (fun a t' s'' ha x=>⟨(other a ha x.1).1,by rw [(other a ha x.1).2.2.2];exact x.2⟩) R X _ P.ch
  have hkids : ∀ a,a∈A∨a∈B→∃ t' s'',Az (fN N) h a 4 s'':=fun a ha=>by
   rcases ha with ha | ha
   · obtain⟨t',s'',x1,_⟩:=f.lo a ha;exact⟨t',s'',x1.1⟩
   · obtain⟨t',s'',x1,_⟩:=f.hi a ha;exact⟨t',s'',x1.1⟩
  have flat : ∀(l:List Int),(∀ a∈l,a∈A∨a∈B)→l.flatMap (ids (fN N2) h)=l.flatMap (ids (fN N) h)∧l.flatMap (Ao (fN N2) h)=l.flatMap (Ao (fN N) h):=fun l hl=>by
   constructor
   · exact B6 fun a ha=>by obtain ⟨t',s'',x1⟩:=hkids a (hl a ha);exact(other a (hl a ha) x1).2.1
   · exact AM fun a ha=>by obtain ⟨t',s'',x1⟩:=hkids a (hl a ha);exact(other a (hl a ha) x1).2.2.1
  have fr:=P.fr.up (i:=i.toNat) (I1:=A.flatMap (ids (fN N) h)) (I3:=B.flatMap (ids (fN N) h)) rfl (by rw [q2,← hids];exact hn0) (fun j hj=>hus j (by rw [hids,← q2];exact hj))
  rw [q2,← hids] at fr
  have hK:(A++(R++B)).flatMap (ids (fN N2) h)=A.flatMap (ids (fN N) h)++(R.flatMap (ids (fN N2) h)++B.flatMap (ids (fN N) h)):=by
   rw [List.flatMap_append,List.flatMap_append,(flat A fun a ha=>.inl ha).1,(flat B fun a ha=>.inr ha).1]
  refine Hy hnode hk2 hM hr2 hl2 (fr.cong rfl (by rw [hK])) (fr.kept _ _ hat hk0) c2 ?_ ?_ ?_ hXo ?_ ?_
  · have:=L.two;simp;omega
  · simp;omega
  · simp;omega
  · intro x hx
    rcases List.mem_append.1 hx with hx | hx
    · exact L.ok x (by rw [f.seps];exact List.mem_append_left _ hx)
    · rcases List.mem_append.1 hx with hx | hx
      · exact hXp x hx
      · exact L.ok x (by rw [f.seps];exact List.mem_append_right _ hx)
  · intro x
    have hp:=P.elems x
    rw [q3] at hp
    rw [List.flatMap_append,List.flatMap_append,(flat A fun a ha=>.inl ha).2,(flat B fun a ha=>.inr ha).2,hels,List.mem_append,List.mem_append,hp,List.mem_append,List.mem_append]
    constructor
    · rintro(h | (h | h) | h)
      · exact .inr (.inl h)
      · exact .inl h
      · exact .inr (.inr (.inl h))
      · exact .inr (.inr (.inr h))
    · rintro(h | h | h | h)
      · exact .inr (.inl (.inl h))
      · exact .inl h
      · exact .inr (.inl (.inr h))
      · exact .inr (.inr h)
end Go.Proofs.Ytcmkdoahkncakaa
namespace Go.Proofs.Ytcmkdoahkncakaa
set_option linter.unusedVariables false
set_option linter.unusedSimpArgs false
variable {F:Nat} [Big F] {α:Type}
theorem FO {f:Int→Option (Int ⊕ (Unit ⊕ Int))}(l:List α)(p:α→Bool)(hn:l.length≤9223372036854775807)
 (hs : ∀(k:Nat) (x:α),l[k]? = some x→f (k:Int)=some (if p x then .inr (.inr (k:Int)) else .inl ((k:Int)+1)))
 (he:f (l.length:Int)=some (.inr (.inl ()))):iter f F 0=some (match l.findIdx? p with | some i=>.inr (i:Int) | none=>.inl ()):=by
 cases h:l.findIdx? p with
 | none =>
  rw [List.findIdx?_eq_none_iff] at h
  refine Ba (fun k=>(k:Int)) l.length (show (0:Int)=_ from rfl) hn (fun k hk=>?_) he
  rw [hs k _ (gge hk),h _ (List.getElem_mem hk)];rfl
 | some i =>
  rw [List.findIdx?_eq_some_iff_getElem] at h
  obtain⟨hi,h1,h2⟩:=h
  refine Ba (fun k=>(k:Int)) i (show (0:Int)=_ from rfl) (by omega) (fun k hk=>?_) ?_
  · rw [hs k _ (gge (by omega)),if_neg (h2 k hk)];rfl
  · show f (i:Int)=_
    rw [hs i _ (gge hi),if_pos h1]
def dst (q:α→Bool)(l:List α)(i0:Nat):Nat→List α × Nat
 | 0=>(l,i0)
 | k+1=>match l[i0+1+k]? with
  | some x=>if q x then ((dst q l i0 k).1.set (dst q l i0 k).2 x,(dst q l i0 k).2+1) else dst q l i0 k
  | none=>dst q l i0 k
theorem Gb (q:α→Bool)(l:List α)(i0:Nat)(h0:(l.take (i0+1)).filter q=l.take i0)(hi:i0<l.length):∀ k,i0+1+k≤l.length →
 (dst q l i0 k).1.length=l.length∧(dst q l i0 k).2<i0+1+k∧(dst q l i0 k).1.take (dst q l i0 k).2=(l.take (i0+1+k)).filter q∧(dst q l i0 k).1.drop (i0+1+k)=l.drop (i0+1+k)
 | 0,_=>⟨rfl,by show i0<_;omega,by show l.take i0=_;exact h0.symm,rfl⟩
 | k+1,hk=>by
  obtain⟨h1,h2,h3,h4⟩:=Gb q l i0 h0 hi k (by omega)
  have hlt:i0+1+k<l.length:=by omega
  have hx:=gge hlt
  have ht:l.take (i0+1+(k+1))=l.take (i0+1+k)++[l[i0+1+k]]:=by rw [show i0+1+(k+1)=(i0+1+k)+1 by omega,List.take_add_one,hx];rfl
  have h5:(dst q l i0 k).1.drop (i0+1+(k+1))=l.drop (i0+1+(k+1)):=by
   rw [show i0+1+(k+1)=(i0+1+k)+1 by omega,← List.drop_drop,h4,List.drop_drop]
  rw [dst,hx]
  dsimp only
  rw [ht,List.filter_append]
  by_cases hq:q l[i0+1+k]=true
  · rw [if_pos hq]
    dsimp only
    refine⟨by rw [List.length_set,h1],by omega,?_,?_⟩
    · rw [List.take_add_one,List.take_set_of_le (Nat.le_refl _),h3,List.getElem?_set,if_pos rfl,if_pos (by omega)]
      simp [hq]
    · rw [List.drop_set_of_lt (by omega),h5]
  · rw [if_neg hq]
    refine⟨h1,by omega,?_,h5⟩
    rw [h3];simp [hq]
theorem Gz {f:List α × Int × Int→Option ((List α × Int × Int) ⊕ (List α × Int))}(l:List α)(q:α→Bool)(i0:Nat)(hi:i0<l.length)(hn:l.length≤9223372036854775806)(h0:(l.take (i0+1)).filter q=l.take i0)
 (hs : ∀(A:List α) (i j:Nat) (x:α),A.length=l.length→i<j→A[j]? = some x→f (A,(i:Int),(j:Int))=some (.inl (if q x then A.set i x else A,if q x then (i:Int)+1 else (i:Int),(j:Int)+1)))
 (he : ∀(A:List α) (i:Nat),A.length=l.length→f (A,(i:Int),(l.length:Int))=some (.inr (A,(i:Int)))) :
 ∃(A:List α) (i:Nat),iter f F (l,(i0:Int),(i0:Int)+1)=some (A,(i:Int))∧A.length=l.length∧i≤l.length∧A.take i=l.filter q:=by
 have inv:=Gb q l i0 h0 hi
 obtain⟨e1,e2,e3,e4⟩:=inv (l.length-(i0+1)) (by omega)
 refine⟨_,_,Ba (fun k=>((dst q l i0 k).1,((dst q l i0 k).2:Int),((i0+1+k:Nat):Int))) (l.length-(i0+1)) (r:=((dst q l i0 (l.length-(i0+1))).1,((dst q l i0 (l.length-(i0+1))).2:Int))) rfl (by omega) (fun k hk=>?_) ?_,e1,by omega,?_⟩
 · obtain⟨h1,h2,h3,h4⟩:=inv k (by omega)
   have hlt:i0+1+k<l.length:=by omega
   have hx:(dst q l i0 k).1[i0+1+k]? = some l[i0+1+k]:=by
    have:=congrArg (fun m=>m[0]?) h4
    simp only [List.getElem?_drop,Nat.add_zero] at this
    rw [this,gge hlt]
   rw [hs _ _ _ _ h1 h2 hx]
   have hd:dst q l i0 (k+1)=if q l[i0+1+k] then ((dst q l i0 k).1.set (dst q l i0 k).2 l[i0+1+k],(dst q l i0 k).2+1) else dst q l i0 k:=by
    conv=>lhs;rw [dst,gge hlt]
   rw [hd]
   by_cases hq:q l[i0+1+k]=true
   · simp only [hq,if_true];rfl
   · simp only [hq,if_false];rfl
 · rw [show i0+1+(l.length-(i0+1))=l.length by omega]
   exact he _ _ e1
 · rw [e3,show i0+1+(l.length-(i0+1))=l.length by omega,List.take_length]
theorem EC {l:List α}{q:α→Bool}{i:Nat}(h:l.findIdx? (fun x=>!q x)=some i):i<l.length∧(l.take (i+1)).filter q=l.take i:=by
 rw [List.findIdx?_eq_some_iff_getElem] at h
 obtain⟨hi,h1,h2⟩:=h
 refine⟨hi,?_⟩
 rw [List.take_add_one,gge hi,List.filter_append]
 have hq:q l[i]=false:=by simpa using h1
 have:(l.take i).filter q=l.take i:=by
  rw [List.filter_eq_self]
  intro x hx
  obtain⟨j,hj,rfl⟩:=List.getElem_of_mem hx
  rw [List.length_take] at hj
  rw [List.getElem_take]
  simpa using h2 j (by omega)
 rw [this];simp [hq]
theorem GK (A m:List α)(i:Nat)(h:i≤A.length):(over A i m).take i=A.take i:=by
 unfold over
 rw [List.append_assoc,List.take_append_of_le_length (by rw [List.length_take];omega),List.take_take,Nat.min_self]
end Go.Proofs.Ytcmkdoahkncakaa
namespace Go.Proofs.Ytcmkdoahkncakaa
set_option linter.unusedVariables false
set_option linter.unusedSimpArgs false
abbrev RemT:=(List Int) × (List DSpot) × (List Int) × (List (Int ⊕ DNode))
def HN (F:Nat)(l:List DElem)(p1:DSpot):Option (List DElem) :=
 (
  (
   (iter (σ:=Int) (ρ:=(Unit) ⊕ Int) (fun x3 =>
    bif decide (x3<(l.length:Int)) then
     (idx l x3).bind fun e1 =>
     (
      (sV e1).bind fun r8 =>
       some (r8 == p1):Option (Bool)).bind fun z6 =>
     bif z6 then
      some (.inr (.inr x3))
     else
      some (.inl (IntKind.i64.wrap (x3+1)))
     else
      some (.inr (.inl ()))) F 0).bind fun z=>match z with
    | .inl _ =>
     some (-1)
    | .inr q=>some q:Option (Int)).bind fun z5 =>
   bif (z5 == (-1)) then
    some l
   else
    (iter (σ:=(List DElem) × Int × Int) (ρ:=(List DElem) × Int) (fun x=>match x with
     | (x4,x5,x6) =>
      bif decide (x6<(x4.length:Int)) then
       (
        (idx x4 x6).bind fun e2 =>
         (
          (sV e2).bind fun r9 =>
           some (r9 == p1):Option (Bool)).bind fun z11 =>
         bif (!z11) then
          (idx x4 x5).bind fun e3 =>
          some ((x4.set x5.toNat e2),IntKind.i64.wrap (x5+1))
         else
          some (x4,x5):Option ((List DElem) × Int)).bind fun z=>match z with
        | (z9,z10) =>
         some (.inl (z9,z10,IntKind.i64.wrap (x6+1)))
       else
        some (.inr (x4,x5))) F (l,z5,IntKind.i64.wrap (z5+1))).bind fun z=>match z with
     | (z7,z8) =>
      (sL z7 z8 (z7.length:Int)).bind fun s2 =>
      (sL (over z7 z8.toNat (List.replicate s2.length ((DElem.mk (DKey.mk 0 0 0) 0 0 (ByteArray.mk #[])):DElem))) 0 z8).bind fun s3 =>
      some s3:Option ((List DElem)))
def Ge (n5 n6:DNode)(e10:DSpot):Option (List DSpot) :=
 (
  (uE 56 n5.elems n6.elems).bind fun _ =>
   (
    bif (n5.kind == 2) then
     (uE 32 n5.seps [e10]).bind fun y4 =>
     (uE 32 (n5.seps++[e10]) n6.seps).bind fun y5 =>
     some ((n5.seps++[e10])++n6.seps)
     else
      some n5.seps:Option ((List DSpot))).bind fun z23 =>
   (uE 8 n5.kids n6.kids).bind fun _ =>
   (uE 8 n5.tids n6.tids).bind fun _ =>
   some z23:Option ((List DSpot)))
def HI (F:Nat)(n1:DNode)(r10 r11:Int)(z12:NL)(z21 e8 e9:Int)(n5 n6:DNode)(z22:List DSpot):Option RemT :=
 bif decide ((8:Int)<(IntKind.i64.wrap (((n5.elems++n6.elems).length:Int)+((n5.kids++n6.kids).length:Int)))) then
  (CA n5.kind (n5.elems++n6.elems) (n5.kids++n6.kids) z22 (n5.tids++n6.tids)).bind fun z=>match z with
   | (z28,z29,z30,z31,z32,z33,z34,z35,z36,z37,z38,z39,z40) =>
    (un (sZ z12 e8) e8).bind fun u2 =>
    (un (sE (sZ z12 e8) e8 (DNode.mk n5.kind z32 z33 z34 z35)) e9).bind fun u3 =>
    (idx n1.seps z21).bind fun e15 =>
    (tj F (DNode.mk z40 z31 z30 z29 z28)).bind fun r25 =>
    (idx (n1.tids.set r10.toNat r11) (IntKind.i64.wrap (z21+1))).bind fun e16 =>
    some (n1.kids,(n1.seps.set z21.toNat (DSpot.mk (DKey.mk z36 z37 z38) z39)),((n1.tids.set r10.toNat r11).set ((IntKind.i64.wrap (z21+1)).toNat) r25),(sE (sE (sZ z12 e8) e8 (DNode.mk n5.kind z32 z33 z34 z35)) e9 (DNode.mk z40 z31 z30 z29 z28)))
  else
   (un (sZ z12 e8) e8).bind fun u4 =>
   (un (sE (sZ z12 e8) e8 (DNode.mk n5.kind (n5.elems++n6.elems) (n5.kids++n6.kids) z22 (n5.tids++n6.tids))) e9).bind fun u5 =>
   (ze n1.kids (IntKind.i64.wrap (z21+1)) (IntKind.i64.wrap (z21+2))).bind fun _ =>
   (ze n1.seps z21 (IntKind.i64.wrap (z21+1))).bind fun _ =>
   (ze (n1.tids.set r10.toNat r11) (IntKind.i64.wrap (z21+1)) (IntKind.i64.wrap (z21+2))).bind fun _ =>
   some ((tH n1.kids (IntKind.i64.wrap (z21+1)).toNat (IntKind.i64.wrap (z21+2)).toNat),(tH n1.seps z21.toNat (IntKind.i64.wrap (z21+1)).toNat),(tH (n1.tids.set r10.toNat r11) (IntKind.i64.wrap (z21+1)).toNat (IntKind.i64.wrap (z21+2)).toNat),(sE (sE (sZ z12 e8) e8 (DNode.mk n5.kind (n5.elems++n6.elems) (n5.kids++n6.kids) z22 (n5.tids++n6.tids))) e9 (DNode.mk 0 [] [] [] [])))
def E9 (F:Nat)(n1:DNode)(r10 r11:Int)(z12:NL):Option RemT :=
 (
  (
   bif (r10 == (IntKind.i64.wrap ((n1.kids.length:Int)-1))) then
    some (IntKind.i64.wrap (r10-1))
    else
     some r10:Option (Int)).bind fun z21 =>
   (idx n1.kids z21).bind fun e8 =>
   (idx n1.kids (IntKind.i64.wrap (z21+1))).bind fun e9 =>
   (uh z12 e8).bind fun n5 =>
   (uh (sZ z12 e8) e9).bind fun n6 =>
   (idx n1.seps z21).bind fun e10 =>
   (Ge n5 n6 e10).bind fun z22 =>
   (HI F n1 r10 r11 z12 z21 e8 e9 n5 n6 z22).bind fun z=>match z with
    | (z24,z25,z26,z27) =>
     (uh z27 e8).bind fun n13 =>
     (tj F n13).bind fun r30 =>
     (idx z26 z21).bind fun e19 =>
     some (z24,z25,(z26.set z21.toNat r30),z27):Option RemT)
def H1 (F:Nat)(n1 n4:DNode)(r10 r11:Int)(z12:NL):Option RemT :=
 bif decide ((IntKind.i64.wrap ((n4.elems.length:Int)+(n4.kids.length:Int)))<4) then
  (E9 F n1 r10 r11 z12).bind fun z=>match z with
   | (z17,z18,z19,z20) =>
    some (z17,z18,z19,z20)
  else
   some (n1.kids,n1.seps,(n1.tids.set r10.toNat r11),z12)
def Ei (F:Nat)(p1:DSpot)(rf1:NL × Int→Option NL)(x:NL × Int):Option NL :=
 match x with
  | (x1,x2) =>
   (uh x1 x2).bind fun n1 =>
    bif (n1.kind == 1) then
     (HN F n1.elems p1).bind fun z4 =>
     (un (sZ x1 x2) x2).bind fun u1 =>
     some (sE (sZ x1 x2) x2 (DNode.mk n1.kind z4 n1.kids n1.seps n1.tids))
    else
     (vK F n1 p1).bind fun r10 =>
     (idx n1.kids r10).bind fun e5 =>
     (rf1 ((sZ x1 x2),e5)).bind fun z12 =>
     (idx n1.kids r10).bind fun e6 =>
     (uh z12 e6).bind fun n4 =>
     (tj F n4).bind fun r11 =>
     (idx n1.tids r10).bind fun e7 =>
     (H1 F n1 n4 r10 r11 z12).bind fun z=>match z with
      | (z13,z14,z15,z16) =>
       (un z16 x2).bind fun u6 =>
       some (sE z16 x2 (DNode.mk n1.kind n1.elems z13 z14 z15))
def HX (F:Nat)(p1:DSpot)(N:NL)(root:Int):Option (NL × Int) :=
 (xC (σ:=(List (Int ⊕ DNode)) × Int) (ρ:=(List (Int ⊕ DNode))) (Ei F p1) F (N,root)).bind fun q2 =>
  (
   (uh q2 root).bind fun n15 =>
    bif ((n15.kids.length:Int) == 1) then
     (un (sZ q2 root) root).bind fun u7 =>
     (idx n15.kids 0).bind fun e22 =>
     some (e22,(sE (sZ q2 root) root (DNode.mk 0 [] [] [] [])))
    else
     some (root,(sE (sZ q2 root) root n15)):Option (Int × (List (Int ⊕ DNode)))).bind fun z=>match z with
   | (z41,z42) =>
    some (z42,z41)
variable {F:Nat} [Big F]
def BG (sp:DSpot)(e:DElem):Bool:=!(Ap e == sp)
theorem Hr (l:List DElem)(sp:DSpot)(hl:l.length≤1000):HN F l sp=some (l.filter (BG sp)):=by
 unfold HN
 rw [FO l (fun x=>Ap x == sp) (by omega) (fun n x hx=>?_) (by simp)]
 · rw [obs]
   have hq:(fun x:DElem=>Ap x == sp)=fun x=>!(BG sp x):=by funext x;simp [BG]
   cases hf:l.findIdx? (fun x=>Ap x == sp) with
   | none =>
    dsimp only
    rw [obs,show ((-1:Int) == -1)=true from rfl,cond_true,List.filter_eq_self.2 fun x hx=>?_]
    rw [List.findIdx?_eq_none_iff] at hf
    simpa [BG] using hf x hx
   | some n =>
    dsimp only
    rw [obs,show ((n:Int) == -1)=false by rw [beq_eq_false_iff_ne];omega,cond_false]
    rw [hq] at hf
    obtain⟨hn,h0⟩:=EC hf
    rw [w64 (n:=(n:Int)+1) (by omega) (by omega)]
    obtain⟨A,m,e1,e2,e3,e4⟩:=Gz (F:=F) (f:=fun x=>match x with
     | (x4,x5,x6) =>
      bif decide (x6<(x4.length:Int)) then
       (
        (idx x4 x6).bind fun e2 =>
         (
          (sV e2).bind fun r9 =>
           some (r9 == sp):Option (Bool)).bind fun z11 =>
         bif (!z11) then
          (idx x4 x5).bind fun e3 =>
          some ((x4.set x5.toNat e2),IntKind.i64.wrap (x5+1))
         else
          some (x4,x5):Option ((List DElem) × Int)).bind fun z=>match z with
        | (z9,z10) =>
         some (.inl (z9,z10,IntKind.i64.wrap (x6+1)))
       else
        some (.inr (x4,x5))) l (BG sp) n hn (by omega) h0 (fun A i j x hA hij hx=>by
     have hjl:=(ggs.1 hx).1
     dsimp only
     rw [decide_eq_true (by omega),cond_true,Ar,Ar,hx,obs,Ax,obs,obs,gge (show i<A.length by omega),obs,w64 (by omega) (by omega),w64 (by omega) (by omega),Int.toNat_natCast]
     unfold BG
     cases Ap x == sp <;> rfl) (fun A i hA=>by
     dsimp only
     rw [decide_eq_false (by omega)];rfl)
    refine Eq.trans (congrArg (fun z=>Option.bind z _) e1) ?_
    rw [obs]
    dsimp only
    rw [DB (by omega) (by omega) (by omega),obs,Int.toNat_natCast,Bb (by rw [tX _ _ _ (by simp;omega)];omega),obs,GK _ _ _ (by omega),e4]
 · have hnl:=(ggs.1 hx).1
   rw [decide_eq_true (by omega),cond_true,Ar,hx,obs,Ax,obs,obs,w64 (by omega) (by omega)]
   cases Ap x == sp <;> rfl
theorem Fd {l:List DElem}(hl:5≤l.length)(hl' : l.length≤100)(ks:List Int)(xs:List DSpot)(ts:List Int):∃ x,l[4]? = some x∧CA 1 l ks xs ts=some ([],[],[],l.drop 4,l.take 4,ks,xs,ts,(Ap x).key.pfs,(Ap x).key.obj,(Ap x).key.off,(Ap x).made,1):=by
 have hg:l[4]? = some l[4]:=gge (by omega)
 refine⟨_,hg,?_⟩
 unfold CA
 have h1:sL l 4 (l.length:Int)=some (l.drop 4):=AO (k:=4) (by omega)
 have h2:sL l 0 4=some (l.take 4):=Bb (k:=4) (by omega)
 have h3:idx (l.drop 4) 0=some l[4]:=by rw [show (0:Int)=((0:Nat):Int) from rfl,Ar,List.getElem?_drop];exact hg
 rw [show ((1:Int) == 1)=true from rfl,cond_true,h1,obs,AD (by simp;omega) (by simp;omega),obs,h2,obs,h3,obs,Ax,obs]
theorem EF {ks:List Int}{xs:List DSpot}{ts:List Int}(hk:5≤ks.length)(hk' : ks.length≤100)(hx:xs.length+1=ks.length)(ht:ts.length=ks.length)(l:List DElem):∃ x,xs[3]? = some x∧CA 2 l ks xs ts=some (ts.drop 4,xs.drop 4,ks.drop 4,[],l,ks.take 4,xs.take 3,ts.take 4,x.key.pfs,x.key.obj,x.key.off,x.made,2):=by
 have hg:xs[3]? = some xs[3]:=gge (by omega)
 refine⟨_,hg,?_⟩
 unfold CA
 have h1:sL ks 4 (ks.length:Int)=some (ks.drop 4):=AO (k:=4) (by omega)
 have h2:sL xs 4 (xs.length:Int)=some (xs.drop 4):=AO (k:=4) (by omega)
 have h3:sL ts 4 (ts.length:Int)=some (ts.drop 4):=AO (k:=4) (by omega)
 have h4:sL ks 0 4=some (ks.take 4):=Bb (k:=4) (by omega)
 have h5:sL xs 0 3=some (xs.take 3):=Bb (k:=3) (by omega)
 have h6:sL ts 0 4=some (ts.take 4):=Bb (k:=4) (by omega)
 have h7:idx xs 3=some xs[3]:=by rw [show (3:Int)=((3:Nat):Int) from rfl,Ar];exact hg
 rw [show ((2:Int) == 1)=false from rfl,cond_false,h1,obs,h2,obs,h3,obs,AD (by simp;omega) (by simp;omega),obs,AD (by simp;omega) (by simp;omega),obs,AD (by simp;omega) (by simp;omega),obs,h7,obs,h4,obs,h5,obs,h6,obs]
def put2 (N:NL)(k1 k2:Int)(a b:DNode):NL:=sE (sE (sZ N k1) k1 a) k2 b
omit [Big F] in
theorem AY (N:NL)(k1 k2:Int)(a b:DNode):(put2 N k1 k2 a b).length=N.length:=by unfold put2;rw [Au,Au,Aq]
theorem CL (N:NL){k1 k2:Int}(a b:DNode){j:Nat}(h1:j≠k1.toNat)(h2:j≠k2.toNat):(put2 N k1 k2 a b)[j]? = N[j]?:=by unfold put2;rw [AB _ h2,AB _ h1,AU _ h1]
theorem Dk {N:NL}{k1 k2:Int}(a b:DNode)(hne:k1.toNat≠k2.toNat)(h:k1.toNat<N.length):(put2 N k1 k2 a b)[k1.toNat]? = some (.inr a):=by unfold put2;rw [AB _ hne,AV _ (by rw [Aq];exact h)]
theorem CM {N:NL}{k1 k2:Int}(a b:DNode)(h:k2.toNat<N.length):(put2 N k1 k2 a b)[k2.toNat]? = some (.inr b):=by unfold put2;rw [AV _ (by rw [Au,Aq];exact h)]
theorem Bm.put2 {N:NL}(h:Bm N){k1 k2:Int}{a b:DNode}(ha:AH a=0)(hb:AH b=0):Bm (put2 N k1 k2 a b):=((h.out k1).put ha).put hb
theorem F4:AH zN=0:=by decide
theorem FP {N:NL}{k1 k2:Int}(hne:k2.toNat≠k1.toNat):uh (sZ N k1) k2=uh N k2:=by unfold uh;rw [AU N hne]
structure PairPost (N2 N3:NL) (h:Nat) (k1 k2:Int) (s:Span) (K:List Int) (X:List DSpot):Prop where
 len:N3.length=N2.length
 out : ∀ j:Nat,j≠k1.toNat→j≠k2.toNat→N3[j]? = N2[j]?
 chk:Bm N3
 ch:Ch (Ds (fN N3) h) X s K (K.map fun k=>Aw (nd (fN N3) k))
 ok : ∀ x∈X,Ay (zE x)=0
 perm : ∃ Z,(ids (fN N2) h k1++ids (fN N2) h k2).Perm (Z++K.flatMap (ids (fN N3) h))∧∀ j∈Z,N3[j]? = some (.inr zN)
 elems:K.flatMap (Ao (fN N3) h)=Ao (fN N2) h k1++Ao (fN N2) h k2
def Ex (N2:NL)(h:Nat)(k1 k2:Int)(s:Span)(n5 n6:DNode)(x:DSpot):Prop :=
 ∃ z22,Ge n5 n6 x=some z22 ∧
  ((((n5.elems++n6.elems).length:Int)+((n5.kids++n6.kids).length:Int)≤8∧PairPost N2 (put2 N2 k1 k2 ⟨n5.kind,n5.elems++n6.elems,n5.kids++n6.kids,z22,n5.tids++n6.tids⟩ zN) h k1 k2 s [k1] []) ∨
   (8<((n5.elems++n6.elems).length:Int)+((n5.kids++n6.kids).length:Int)∧∃(y:DSpot) (r1:List Int) (r2:List DSpot) (r3:List Int) (r4 l1:List DElem) (l2:List Int) (l3:List DSpot) (l4:List Int) (kd:Int),
    CA n5.kind (n5.elems++n6.elems) (n5.kids++n6.kids) z22 (n5.tids++n6.tids)=some (r1,r2,r3,r4,l1,l2,l3,l4,y.key.pfs,y.key.obj,y.key.off,y.made,kd) ∧
    PairPost N2 (put2 N2 k1 k2 ⟨n5.kind,l1,l2,l3,l4⟩ ⟨kd,r4,r3,r2,r1⟩) h k1 k2 s [k1,k2] [y]))
omit [Big F] in
theorem Fg {n5 n6:DNode}(x:DSpot)(h5:AH n5=0)(h6:AH n6=0):Ge n5 n6 x=some (bif n5.kind == 2 then n5.seps++x::n6.seps else n5.seps):=by
 obtain⟨a1,a2⟩:=BP h5
 obtain⟨b1,b2⟩:=BP h6
 have sm : ∀ {n:DNode},AH n=0→n.seps.length≤8∧n.tids.length≤8:=fun {n} h=>by
  have:=BP h
  rcases AL.1 h with h | h | h
  · rw [h.2.2.2.1,h.2.2.2.2];simp
  · rw [h.2.seps,h.2.tids];simp
  · have:=h.2.seps;have:=h.2.tids;omega
 obtain⟨a3,a4⟩:=sm h5
 obtain⟨b3,b4⟩:=sm h6
 unfold Ge
 rw [AD (by omega) (by omega),obs,AD (l:=n5.kids) (by omega) (by omega),AD (l:=n5.tids) (by omega) (by omega)]
 cases n5.kind == 2 with
 | true =>
  rw [cond_true,cond_true,AD (by simp;omega) (by simp;omega),obs,AD (by simp;omega) (by simp;omega),obs,obs,obs,obs,List.append_assoc];rfl
 | false=>rw [cond_false,cond_false,obs,obs,obs]
omit [Big F] in
theorem GF {N2:NL}(hc:Bm N2){k1 k2:Int}{s:Span}{x:DSpot}(hx:inS s x=true)(hne:k1.toNat≠k2.toNat)(c1:Az (fN N2) 0 k1 3 (hiS s x))(c2:Az (fN N2) 0 k2 3 (loS s x))(hfew:(nd (fN N2) k1).elems.length+(nd (fN N2) k2).elems.length≤12) :
 Ex N2 0 k1 k2 s (nd (fN N2) k1) (nd (fN N2) k2) x:=by
 have L1:=c1.leaf hc
 have L2:=c2.leaf hc
 have r1:=c1.range
 have r2:=c2.range
 have g1:=Ct hc r1
 have g2:=Ct hc r2
 rw [Av] at r1 r2
 have hz:=Fg x g1 g2
 obtain⟨_,hk1,hm1,hin1⟩:=c1
 obtain⟨_,hk2,hm2,hin2⟩:=c2
 have e1:Ao (fN N2) 0 k1=(nd (fN N2) k1).elems:=rfl
 have e2:Ao (fN N2) 0 k2=(nd (fN N2) k2).elems:=rfl
 generalize nd (fN N2) k1=n5 at *
 generalize nd (fN N2) k2=n6 at *
 rw [hk1,show ((1:Int) == 2)=false from rfl,cond_false,L1.seps] at hz
 have h8:=L1.len
 have h8':=L2.len
 obtain⟨l,hl⟩ : ∃ l,l=n5.elems++n6.elems:=⟨_,rfl⟩
 have so:l.Pairwise SpO:=by
  rw [hl]
  refine List.pairwise_append.2 ⟨L1.ord,L2.ord,fun a ha b hb=>?_⟩
  have q1:=(Bo.1 (hin1 a ha)).2
  have q2:=(B3.1 (hin2 b hb)).1
  exact Bw q1 q2
 have hin : ∀ y∈l,inS s (Ap y)=true:=fun y hy=>by
  rw [hl] at hy
  rcases List.mem_append.1 hy with hy | hy
  · exact Bx hx (hin1 y hy)
  · exact BL hx (hin2 y hy)
 have hok : ∀ y∈l,Ay y=0:=fun y hy=>by
  rw [hl] at hy
  rcases List.mem_append.1 hy with hy | hy
  · exact L1.ok y hy
  · exact L2.ok y hy
 have hlen:l.length=n5.elems.length+n6.elems.length:=by rw [hl,List.length_append]
 refine⟨_,hz,?_⟩
 rw [L1.kids,L2.kids,L1.tids,L2.tids,← hl,hk1]
 by_cases ht:l.length≤8
 · refine .inl ⟨by simp;omega,?_⟩
   have hck:=Cc (n:=⟨1,l,[],[],[]⟩) rfl ⟨rfl,rfl,rfl,ht,hok,so⟩
   have hnd:=CB (Dk (N:=N2) (k1:=k1) (k2:=k2) ⟨1,l,[],[],[]⟩ zN hne (by omega))
   refine⟨AY _ _ _ _ _,fun j h1 h2=>CL N2 _ _ h1 h2,hc.put2 hck F4,⟨k1,_,rfl,rfl,⟨?_,by rw [List.append_nil,hnd],by rw [List.append_nil,hnd];show 4≤l.length;omega,by rw [List.append_nil,hnd];exact hin⟩,rfl⟩,by simp,⟨[k2.toNat],?_,fun j hj=>?_⟩,?_⟩
   · rw [Av,AY];exact r1
   · simp only [ids,List.flatMap_singleton,List.singleton_append]
     exact List.Perm.swap _ _ _
   · rw [List.mem_singleton.1 hj,List.append_nil];exact CM _ _ (by omega)
   · rw [List.flatMap_singleton,e1,e2,← hl]
     show (nd _ _).elems=_
     rw [List.append_nil,hnd]
 · refine .inr ⟨by have : 8 < l.length := by omega
                   simp;omega,?_⟩
   obtain⟨y,hy,hh⟩:=Fd (l:=l) (by omega) (by omega) ([]++[]) [] ([]++[])
   refine⟨Ap y,_,_,_,_,_,_,_,_,_,hh,?_⟩
   have e48:l=l.take 4++l.drop 4:=(List.take_append_drop 4 l).symm
   have hso:=so
   rw [e48] at hso
   obtain⟨o1,o2,o3⟩:=List.pairwise_append.1 hso
   have hl1:(l.take 4).length=4:=by rw [List.length_take];omega
   have hl2:(l.drop 4).length=l.length-4:=by rw [List.length_drop]
   have hxd : ∃ r,l.drop 4=y::r:=by
    have h4:4<l.length:=by omega
    rw [gge h4] at hy
    obtain rfl:=Option.some.inj hy
    exact⟨_,List.drop_eq_getElem_cons h4⟩
   obtain⟨rr,hrr⟩:=hxd
   have hyl:y∈l:=List.mem_of_mem_drop (by rw [hrr];exact List.mem_cons_self)
   have hck1:=Cc (n:=⟨1,l.take 4,[],[],[]⟩) rfl ⟨rfl,rfl,rfl,by show (l.take 4).length≤8;omega,fun y hy=>hok y (List.mem_of_mem_take hy),o1⟩
   have hck2:=Cc (n:=⟨1,l.drop 4,[],[],[]⟩) rfl ⟨rfl,rfl,rfl,by show (l.drop 4).length≤8;omega,fun y hy=>hok y (List.mem_of_mem_drop hy),o2⟩
   have hnd1:=CB (Dk (N:=N2) (k1:=k1) (k2:=k2) ⟨1,l.take 4,[],[],[]⟩ ⟨1,l.drop 4,[],[],[]⟩ hne (by omega))
   have hnd2:=CB (CM (N:=N2) (k1:=k1) (k2:=k2) ⟨1,l.take 4,[],[],[]⟩ ⟨1,l.drop 4,[],[],[]⟩ (by omega))
   rw [List.append_nil]
   refine⟨AY _ _ _ _ _,fun j h1 h2=>CL N2 _ _ h1 h2,hc.put2 hck1 hck2,⟨k1,[k2],_,_,rfl,rfl,hin y hyl,⟨⟨?_,by rw [hnd1],by rw [hnd1];show 4≤(l.take 4).length;omega,?_⟩,rfl⟩,k2,_,rfl,rfl,⟨?_,by rw [hnd2],by rw [hnd2];show 4≤(l.drop 4).length;omega,?_⟩,rfl⟩,?_,⟨[],?_,by simp⟩,?_⟩
   · rw [Av,AY];exact r1
   · rw [hnd1]
     intro z hz
     exact Bo.2 ⟨(AK.1 (hin z (List.mem_of_mem_take hz))).1,o3 z hz y (by rw [hrr];exact List.mem_cons_self)⟩
   · rw [Av,AY];exact r2
   · rw [hnd2]
     intro z hz
     refine B3.2 ⟨?_,(AK.1 (hin z (List.mem_of_mem_drop hz))).2⟩
     have hz' : z∈y::rr:=by rw [← hrr];exact hz
     rw [hrr] at o2
     rcases List.mem_cons.1 hz' with rfl | hz'
     · rw [As.refl];decide
     · have:cmpS (Ap y) (Ap z)<0:=(List.pairwise_cons.1 o2).1 z hz'
       omega
   · intro z hz
     rw [List.mem_singleton.1 hz];exact EQ (hok y hyl)
   · simp [ids]
   · rw [List.flatMap_cons,List.flatMap_singleton,e1,e2,← hl]
     show (nd _ _).elems++(nd _ _).elems=_
     rw [hnd1,hnd2];exact e48.symm
omit [Big F] in
theorem Fu {N:NL}(hc:Bm N){h:Nat}{X:List DSpot}{s:Span}{Ks Ts:List Int}{x:DSpot}(hx:inS s x=true)(c:Ch (Ds (fN N) h) X (loS s x) Ks Ts)(ho:X.Pairwise SpotO):∀ y∈X,SpotO x y:=by
 cases X with
 | nil=>intro y hy;cases hy
 | cons z X =>
  obtain⟨k,ks,t,ts,e1,e2,i1,i2,c'⟩:=c
  obtain⟨e,he⟩:=i2.1.some_elem hc
  have hs:=Bo.1 ((i2.1.elems hc).2 e he).1
  have hz:cmpS x z<0:=CY (hs.1 rfl) hs.2
  intro y hy
  rcases List.mem_cons.1 hy with rfl | hy
  · exact hz
  · exact As.lt_trans hz ((List.pairwise_cons.1 ho).1 y hy)
omit [Big F] in
theorem FW {N2:NL}(hc:Bm N2)(hl:N2.length≤400){h:Nat}{k1 k2:Int}{s:Span}{x:DSpot}(hx:inS s x=true)(hxo:Ay (zE x)=0)(c1:Az (fN N2) (h+1) k1 3 (hiS s x))(c2:Az (fN N2) (h+1) k2 3 (loS s x))(hn:(ids (fN N2) (h+1) k1++ids (fN N2) (h+1) k2).Nodup)
 (hfew:((nd (fN N2) k1).kids.length+(nd (fN N2) k2).kids.length)≤12) :
 Ex N2 (h+1) k1 k2 s (nd (fN N2) k1) (nd (fN N2) k2) x:=by
 have L1:=c1.inner hc
 have L2:=c2.inner hc
 have r1:=c1.range
 have r2:=c2.range
 have hz:=Fg x (Ct hc r1) (Ct hc r2)
 rw [Av] at r1 r2
 obtain⟨_,hk1,hm1,ch1⟩:=c1
 obtain⟨_,hk2,hm2,ch2⟩:=c2
 have i1:ids (fN N2) (h+1) k1=k1.toNat::(nd (fN N2) k1).kids.flatMap (ids (fN N2) h):=rfl
 have i2:ids (fN N2) (h+1) k2=k2.toNat::(nd (fN N2) k2).kids.flatMap (ids (fN N2) h):=rfl
 have e1:Ao (fN N2) (h+1) k1=(nd (fN N2) k1).kids.flatMap (Ao (fN N2) h):=rfl
 have e2:Ao (fN N2) (h+1) k2=(nd (fN N2) k2).kids.flatMap (Ao (fN N2) h):=rfl
 generalize nd (fN N2) k1=n5 at *
 generalize nd (fN N2) k2=n6 at *
 rw [hk1,show ((2:Int) == 2)=true from rfl,cond_true] at hz
 have cc:=Ch.join hx ch1 ch2
 have hlens:=cc.lens
 have hord:(n5.seps++x::n6.seps).Pairwise SpotO:=by
  have q2:=Fu hc hx ch2 L2.ord
  refine List.pairwise_append.2 ⟨L1.ord,List.pairwise_cons.2 ⟨q2,L2.ord⟩,fun a ha b hb=>?_⟩
  have q1:cmpS a x<0:=(Bo.1 (ch1.seps a ha)).2
  rcases List.mem_cons.1 hb with rfl | hb
  · exact q1
  · exact As.lt_trans q1 (q2 b hb)
 have hxs : ∀ y∈n5.seps++x::n6.seps,Ay (zE y)=0:=fun y hy=>by
  rcases List.mem_append.1 hy with hy | hy
  · exact L1.ok y hy
  · rcases List.mem_cons.1 hy with rfl | hy
    · exact hxo
    · exact L2.ok y hy
 have hin : ∀ y∈n5.seps++x::n6.seps,inS s y=true:=cc.seps
 have hK:(n5.kids++n6.kids).length=n5.kids.length+n6.kids.length:=List.length_append
 have t1:=L1.two
 have t2:=L2.two
 have hfl:(n5.kids++n6.kids).flatMap (ids (fN N2) h)=n5.kids.flatMap (ids (fN N2) h)++n6.kids.flatMap (ids (fN N2) h):=List.flatMap_append
 have hfe:(n5.kids++n6.kids).flatMap (Ao (fN N2) h)=n5.kids.flatMap (Ao (fN N2) h)++n6.kids.flatMap (Ao (fN N2) h):=List.flatMap_append
 rw [i1,i2] at hn
 have hn' : (k1.toNat::k2.toNat::(n5.kids++n6.kids).flatMap (ids (fN N2) h)).Nodup:=by
  refine(List.Perm.nodup_iff ?_).1 hn
  rw [hfl,List.cons_append]
  exact List.Perm.cons _ List.perm_middle
 obtain⟨n1,n2⟩:=List.nodup_cons.1 hn'
 obtain⟨n3,n4⟩:=List.nodup_cons.1 n2
 have hne:k1.toNat≠k2.toNat:=fun e=>n1 (by rw [e];exact List.mem_cons_self)
 refine⟨_,hz,?_⟩
 rw [L1.elems,L2.elems,hk1]
 generalize hKs:n5.kids++n6.kids=Ks at *
 generalize hXs:n5.seps++x::n6.seps=Xs at *
 generalize hTs:n5.tids++n6.tids=Ts at *
 have agree : ∀(a b:DNode),∀ q∈Ks.flatMap (ids (fN N2) h),(put2 N2 k1 k2 a b)[q]? = N2[q]?:=fun a b q hq=>CL N2 a b (fun e=>n1 (by rw [← e];exact List.mem_cons_of_mem _ hq)) (fun e=>n3 (by rw [← e];exact hq))
 have hperm:(k1.toNat::n5.kids.flatMap (ids (fN N2) h)++k2.toNat::n6.kids.flatMap (ids (fN N2) h)).Perm (k2.toNat::k1.toNat::Ks.flatMap (ids (fN N2) h)):=by
  rw [hfl,List.cons_append]
  exact(List.Perm.cons _ List.perm_middle).trans (List.Perm.swap _ _ _)
 by_cases ht:Ks.length≤8
 · refine .inl ⟨by simp;omega,?_⟩
   have hck:=AW (n:=⟨2,[],Ks,Xs,Ts⟩) rfl (BE hc hl cc (by omega) ht hord hxs)
   have hnd:=CB (Dk (N:=N2) (k1:=k1) (k2:=k2) ⟨2,[],Ks,Xs,Ts⟩ zN hne (by omega))
   obtain⟨a1,a2,a3⟩:=Bi (N':=put2 N2 k1 k2 ⟨2,[],Ks,Xs,Ts⟩ zN) (by rw [AY];exact Nat.le_refl _) cc fun j hj=>agree _ _ j hj
   rw [List.append_nil]
   refine⟨AY _ _ _ _ _,fun j h1 h2=>CL N2 _ _ h1 h2,hc.put2 hck F4,⟨k1,_,rfl,rfl,⟨?_,by rw [hnd],by rw [hnd];show 4≤Ks.length;omega,by rw [hnd];exact a1⟩,rfl⟩,by simp,⟨[k2.toNat],?_,fun j hj=>?_⟩,?_⟩
   · rw [Av,AY];exact r1
   · rw [List.flatMap_singleton,i1,i2,ids,hnd]
     show List.Perm _ (k2.toNat::k1.toNat::Ks.flatMap _)
     rw [a2]
     exact hperm
   · rw [List.mem_singleton.1 hj];exact CM _ _ (by omega)
   · rw [List.flatMap_singleton,e1,e2,Ao,hnd,← hfe]
     exact a3
 · refine .inr ⟨by simp;omega,?_⟩
   obtain⟨y,hy,hh⟩:=EF (ks:=Ks) (xs:=Xs) (ts:=Ts) (by omega) (by omega) hlens.1 hlens.2 []
   rw [List.append_nil]
   refine⟨y,_,_,_,_,_,_,_,_,_,hh,?_⟩
   have h3:3<Xs.length:=by omega
   have hspx:Xs[3]=y:=by rw [gge h3] at hy;exact Option.some.inj hy
   have eX:Xs=Xs.take 3++y::Xs.drop 4:=by rw [← hspx];exact Cs Xs h3
   have eK:Ks=Ks.take 4++Ks.drop 4:=(List.take_append_drop 4 Ks).symm
   have eT:Ts=Ts.take 4++Ts.drop 4:=(List.take_append_drop 4 Ts).symm
   have l1:(Ks.take 4).length=4:=by rw [List.length_take];omega
   have l2:(Xs.take 3).length=3:=by rw [List.length_take];omega
   have l3:(Ts.take 4).length=4:=by rw [List.length_take];omega
   have l4:(Ks.drop 4).length=Ks.length-4:=by rw [List.length_drop]
   have c':=cc
   rw [eX,eK,eT] at c'
   have ho':=hord
   rw [eX] at ho'
   obtain⟨s1,s2,s3⟩:=Ch.split (by omega) (by omega) ho' c'
   obtain⟨o1,o2,o3⟩:=List.pairwise_append.1 ho'
   have hck1:=AW (n:=⟨2,[],Ks.take 4,Xs.take 3,Ts.take 4⟩) rfl (BE hc hl s2 (by omega) (by omega) o1 fun x h=>hxs x (List.mem_of_mem_take h))
   have hck2:=AW (n:=⟨2,[],Ks.drop 4,Xs.drop 4,Ts.drop 4⟩) rfl (BE hc hl s3 (by omega) (by omega) (List.pairwise_cons.1 o2).2 fun x h=>hxs x (List.mem_of_mem_drop h))
   have hnd1:=CB (Dk (N:=N2) (k1:=k1) (k2:=k2) ⟨2,[],Ks.take 4,Xs.take 3,Ts.take 4⟩ ⟨2,[],Ks.drop 4,Xs.drop 4,Ts.drop 4⟩ hne (by omega))
   have hnd2:=CB (CM (N:=N2) (k1:=k1) (k2:=k2) ⟨2,[],Ks.take 4,Xs.take 3,Ts.take 4⟩ ⟨2,[],Ks.drop 4,Xs.drop 4,Ts.drop 4⟩ (by omega))
   have ag:=agree ⟨2,[],Ks.take 4,Xs.take 3,Ts.take 4⟩ ⟨2,[],Ks.drop 4,Xs.drop 4,Ts.drop 4⟩
   have hlen:=AY N2 k1 k2 ⟨2,[],Ks.take 4,Xs.take 3,Ts.take 4⟩ ⟨2,[],Ks.drop 4,Xs.drop 4,Ts.drop 4⟩
   have hckL:Bm (put2 N2 k1 k2 ⟨2,[],Ks.take 4,Xs.take 3,Ts.take 4⟩ ⟨2,[],Ks.drop 4,Xs.drop 4,Ts.drop 4⟩):=hc.put2 hck1 hck2
   have hget : ∀ j:Nat,j≠k1.toNat→j≠k2.toNat→(put2 N2 k1 k2 ⟨2,[],Ks.take 4,Xs.take 3,Ts.take 4⟩ ⟨2,[],Ks.drop 4,Xs.drop 4,Ts.drop 4⟩)[j]? = N2[j]?:=fun j h1 h2=>CL N2 _ _ h1 h2
   generalize put2 N2 k1 k2 ⟨2,[],Ks.take 4,Xs.take 3,Ts.take 4⟩ ⟨2,[],Ks.drop 4,Xs.drop 4,Ts.drop 4⟩=N3 at *
   have sub1 : ∀ q∈(Ks.take 4).flatMap (ids (fN N2) h),q∈Ks.flatMap (ids (fN N2) h):=fun q hq=>by
    rw [eK,List.flatMap_append];exact List.mem_append_left _ hq
   have sub2 : ∀ q∈(Ks.drop 4).flatMap (ids (fN N2) h),q∈Ks.flatMap (ids (fN N2) h):=fun q hq=>by
    rw [eK,List.flatMap_append];exact List.mem_append_right _ hq
   obtain⟨a1,a2,a3⟩:=Bi (by omega) s2 fun q hq=>ag q (sub1 q hq)
   obtain⟨b1,b2,b3⟩:=Bi (by omega) s3 fun q hq=>ag q (sub2 q hq)
   refine⟨hlen,hget,hckL,⟨k1,[k2],_,_,rfl,rfl,s1,⟨⟨?_,by rw [hnd1],by rw [hnd1];show 4≤(Ks.take 4).length;omega,by rw [hnd1];exact a1⟩,rfl⟩,k2,_,rfl,rfl,⟨?_,by rw [hnd2],by rw [hnd2];show 4≤(Ks.drop 4).length;omega,by rw [hnd2];exact b1⟩,rfl⟩,?_,⟨[],?_,by simp⟩,?_⟩
   · rw [Av,hlen];exact r1
   · rw [Av,hlen];exact r2
   · intro z hz
     rw [List.mem_singleton.1 hz];exact hxs y (by rw [eX];simp)
   · rw [List.flatMap_cons,List.flatMap_singleton,i1,i2,ids,ids,hnd1,hnd2,List.nil_append]
     show List.Perm _ (k1.toNat::(Ks.take 4).flatMap _++k2.toNat::(Ks.drop 4).flatMap _)
     rw [a2,b2]
     refine hperm.trans ((List.Perm.swap _ _ _).trans ?_)
     rw [List.cons_append]
     refine List.Perm.cons _ ?_
     conv=>lhs;rw [eK,List.flatMap_append]
     exact List.perm_middle.symm
   · rw [List.flatMap_cons,List.flatMap_singleton,e1,e2,Ao,Ao,hnd1,hnd2,← hfe]
     show (Ks.take 4).flatMap _++(Ks.drop 4).flatMap _=_
     rw [a3,b3,← List.flatMap_append,← eK]
def Gp (ns:List DNode)(h:Nat)(k:Int):Int→Int→Span→Prop:=fun a t s=>Az ns h a 3 s∧(a≠k→Ds ns h a t s)
structure EvenPost (N2 N3:NL) (h:Nat) (s:Span) (n:DNode) (K:List Int) (X:List DSpot) (T:List Int):Prop where
 len:N3.length=N2.length
 out : ∀ j:Nat,j ∉ n.kids.flatMap (ids (fN N2) h)→N3[j]? = N2[j]?
 chk:Bm N3
 ch:Ch (Ds (fN N3) h) X s K T
 more:n.kids.length≤K.length+1
 few:K.length≤n.kids.length
 ord:X.Pairwise SpotO
 ok : ∀ x∈X,Ay (zE x)=0
 perm : ∃ Z,(n.kids.flatMap (ids (fN N2) h)).Perm (Z++K.flatMap (ids (fN N3) h))∧∀ j∈Z,N3[j]? = some (.inr zN)
 elems:K.flatMap (Ao (fN N3) h)=n.kids.flatMap (Ao (fN N2) h)
omit [Big F] in
theorem Fl {α:Type}(l:List α){z:Nat}(h:z+1<l.length):∃ a b,l[z]? = some a∧l[z+1]? = some b∧l=l.take z++a::b::l.drop (z+2):=by
 refine⟨l[z],l[z+1],gge _,gge _,?_⟩
 have:=Cs l (w:=z) (by omega)
 rw [List.drop_eq_getElem_cons h] at this
 exact this
omit [Big F] in
theorem GY {N2 N3:NL}{h:Nat}{n:DNode}{s s' : Span}{k k1 k2:Int}{A B:List Int}{XA XB:List DSpot}{TA TB K:List Int}{X:List DSpot}{x:DSpot}
 (hkids:n.kids=A++k1::k2::B) (hseps:n.seps=XA++x::XB) (hk:k=k1∨k=k2) (hnd:(n.kids.flatMap (ids (fN N2) h)).Nodup) (ho:n.seps.Pairwise SpotO) (hxok : ∀ x∈n.seps,Ay (zE x)=0)
 (loX : ∀ x∈XA,∀ y,inS s' y=true→cmpS x y≤0) (hiX : ∀ x∈XB,∀ y,inS s' y=true→cmpS y x<0)
 (wc : ∀ a,a∈A∨a∈B→∃ t s'',Gp (fN N2) h k a t s'')
 (turn : ∀ Q:Int→Int→Span→Prop,(∀ a t s',a∈A∨a∈B→Gp (fN N2) h k a t s'→Q a t s')→∀ M' XM' TM',Ch Q XM' s' M' TM'→Ch Q (XA++(XM'++XB)) s (A++(M'++B)) (TA++(TM'++TB)))
 (P:PairPost N2 N3 h k1 k2 s' K X) (hsh:(K=[k1]∧X=[])∨(K=[k1,k2]∧∃ y,X=[y])) :
 EvenPost N2 N3 h s n (A++(K++B)) (XA++(X++XB)) (TA++(K.map (fun k=>Aw (nd (fN N3) k))++TB)):=by
 have hfl:n.kids.flatMap (ids (fN N2) h)=A.flatMap (ids (fN N2) h)++((ids (fN N2) h k1++ids (fN N2) h k2)++B.flatMap (ids (fN N2) h)):=by
  rw [hkids,List.flatMap_append,List.flatMap_cons,List.flatMap_cons,List.append_assoc]
 rw [hfl] at hnd
 obtain⟨n1,n2,n3⟩:=List.nodup_append.1 hnd
 obtain⟨n4,n5,n6⟩:=List.nodup_append.1 n2
 have dis : ∀ a,a∈A∨a∈B→∀ j∈ids (fN N2) h a,j ∉ ids (fN N2) h k1∧j ∉ ids (fN N2) h k2:=fun a ha j hj=>by
  rcases ha with ha | ha
  · have hjA:j∈A.flatMap (ids (fN N2) h):=List.mem_flatMap.2 ⟨a,ha,hj⟩
    exact⟨fun h=>n3 j hjA j (by simp [h]) rfl,fun h=>n3 j hjA j (by simp [h]) rfl⟩
  · have hjB:j∈B.flatMap (ids (fN N2) h):=List.mem_flatMap.2 ⟨a,ha,hj⟩
    exact⟨fun h=>n6 j (by simp [h]) j hjB rfl,fun h=>n6 j (by simp [h]) j hjB rfl⟩
 have hak : ∀ a,a∈A∨a∈B→a≠k:=fun a ha e=>by
  obtain⟨d1,d2⟩:=dis a ha a.toNat (Az.head h a)
  rcases hk with rfl | rfl
  · exact d1 (by rw [← e];exact Az.head h a)
  · exact d2 (by rw [← e];exact Az.head h a)
 have agr : ∀ a,a∈A∨a∈B→∀ j∈ids (fN N2) h a,N3[j]? = N2[j]?:=fun a ha j hj=>by
  obtain⟨d1,d2⟩:=dis a ha j hj
  exact P.out j (fun e=>d1 (by rw [e];exact Az.head h k1)) (fun e=>d2 (by rw [e];exact Az.head h k2))
 have other : ∀ a,a∈A∨a∈B→∀ {m:Nat} {s:Span},Az (fN N2) h a m s→_:=fun a ha m s c=>Az.agree (N:=N2) (N':=N3) (by rw [P.len];exact Nat.le_refl _) c (agr a ha)
 have flat : ∀(l:List Int),(∀ a∈l,a∈A∨a∈B)→l.flatMap (ids (fN N3) h)=l.flatMap (ids (fN N2) h)∧l.flatMap (Ao (fN N3) h)=l.flatMap (Ao (fN N2) h):=fun l hl=>by
  constructor
  · exact B6 fun a ha=>by obtain ⟨t',s'',x1⟩:=wc a (hl a ha);exact(other a (hl a ha) x1.1).2.1
  · exact AM fun a ha=>by obtain ⟨t',s'',x1⟩:=wc a (hl a ha);exact(other a (hl a ha) x1.1).2.2.1
 have hch:=turn (Ds (fN N3) h) (fun a t s'' ha q=>by
  have c:=q.2 (hak a ha)
  exact⟨(other a ha c.1).1,by rw [(other a ha c.1).2.2.2];exact c.2⟩) K X _ P.ch
 have hKl:n.kids.length=A.length+2+B.length:=by rw [hkids];simp;omega
 rw [hseps] at ho
 obtain⟨p1,p2,p3⟩:=List.pairwise_append.1 ho
 obtain⟨p4,p5⟩:=List.pairwise_cons.1 p2
 refine⟨P.len,fun j hj=>?_,P.chk,hch,?_,?_,?_,fun y hy=>?_,?_,?_⟩
 · rw [hfl] at hj
   simp only [List.mem_append,not_or] at hj
   exact P.out j (fun e=>hj.2.1.1 (by rw [e];exact Az.head h k1)) (fun e=>hj.2.1.2 (by rw [e];exact Az.head h k2))
 · rcases hsh with ⟨rfl,_⟩ | ⟨rfl,_⟩ <;> simp <;> omega
 · rcases hsh with ⟨rfl,_⟩ | ⟨rfl,_⟩ <;> simp <;> omega
 · rcases hsh with ⟨_,rfl⟩ | ⟨rfl,y,rfl⟩
   · exact List.pairwise_append.2 ⟨p1,p5,fun a ha b hb=>p3 a ha b (List.mem_cons_of_mem _ hb)⟩
   · obtain⟨a1,al,t1,ts,e1,e2,i1,i2,c'⟩:=P.ch
     obtain⟨e,he⟩:=i2.1.some_elem P.chk
     have hs1:=((i2.1.elems P.chk).2 e he).1
     have hs2:=Bo.1 hs1
     have hs3:=Bx i1 hs1
     refine List.pairwise_append.2 ⟨p1,List.pairwise_cons.2 ⟨fun b hb=>hiX b hb y i1,p5⟩,fun a ha b hb=>?_⟩
     rcases List.mem_cons.1 hb with rfl | hb
     · exact CY (loX a ha _ hs3) hs2.2
     · exact p3 a ha b (List.mem_cons_of_mem _ hb)
 · rcases List.mem_append.1 hy with hy | hy
   · exact hxok y (by rw [hseps];exact List.mem_append_left _ hy)
   · rcases List.mem_append.1 hy with hy | hy
     · exact P.ok y hy
     · exact hxok y (by rw [hseps];simp [hy])
 · obtain⟨Z,hZ,hz⟩:=P.perm
   refine⟨Z,?_,hz⟩
   rw [hfl,List.flatMap_append,List.flatMap_append,(flat A fun a ha=>.inl ha).1,(flat B fun a ha=>.inr ha).1]
   refine((hZ.append_right _).append_left _).trans ?_
   rw [List.append_assoc]
   exact List.perm_append_comm_assoc _ _ _
 · rw [List.flatMap_append,List.flatMap_append,(flat A fun a ha=>.inl ha).2,(flat B fun a ha=>.inr ha).2,P.elems,hkids,List.flatMap_append,List.flatMap_cons,List.flatMap_cons,List.append_assoc]
omit [Big F] in
theorem Hv {α:Type}(A:List α)(x y:α)(B:List α):idx (A++x::y::B) ((A.length:Int)+1)=some y:=by
 rw [show ((A.length:Int)+1)=((A.length+1:Nat):Int) by omega,Ar,List.getElem?_append_right (by omega)];simp
omit [Big F] in
theorem Ez {α:Type}{l:List α}{i j:Nat}(h1:i<j)(h2:j≤l.length):ze l (i:Int) (j:Int)=some (tH l i j):=by
 unfold ze
 rw [if_pos ⟨by omega,by omega,by omega⟩,Int.toNat_natCast,Int.toNat_natCast]
omit [Big F] in
theorem Ga {α:Type}(A:List α)(x y:α)(B:List α):tH (A++x::y::B) (A.length+1) (A.length+2)=A++x::B:=by
 unfold tH
 rw [show A++x::y::B=(A++[x])++y::B by simp,List.take_left' (by simp),show (A++[x])++y::B=(A++[x,y])++B by simp,List.drop_left' (by simp)]
 simp
omit [Big F] in
theorem Hs {α:Type}(A:List α)(x:α)(B:List α):tH (A++x::B) A.length (A.length+1)=A++B:=by
 unfold tH
 rw [List.take_left' rfl,show A++x::B=(A++[x])++B by simp,List.drop_left' (by simp)]
omit [Big F] in
theorem HF {α:Type}(A:List α)(x y z:α)(B:List α):(A++x::y::B).set (A.length+1) z=A++x::z::B:=by
 rw [List.set_append_right _ _ (by omega)];simp
theorem Ht {N2:NL}(hc:Bm N2)(hl:N2.length≤400){h:Nat}{n:DNode}{r10 r11:Int}{s:Span}{k:Int}{z:Nat}{tids' : List Int}
 (ht:n.tids.set r10.toNat r11=tids') (hz:z+1<n.kids.length) (h8:n.kids.length≤8) (hs:n.seps.length+1=n.kids.length) (htl:tids'.length=n.kids.length)
 (hk:n.kids[z]? = some k∨n.kids[z+1]? = some k) (hzz:(bif (r10 == (IntKind.i64.wrap ((n.kids.length:Int)-1))) then some (IntKind.i64.wrap (r10-1)) else some r10:Option Int)=some (z:Int))
 (ho:n.seps.Pairwise SpotO) (hxok : ∀ x∈n.seps,Ay (zE x)=0) (wc:Ch (Gp (fN N2) h k) n.seps s n.kids tids') (hnd:(n.kids.flatMap (ids (fN N2) h)).Nodup)
 (hlow:(nd (fN N2) k).elems.length+(nd (fN N2) k).kids.length<4) :
 ∃ K X T N3,E9 F n r10 r11 N2=some (K,X,T,N3)∧EvenPost N2 N3 h s n K X T:=by
 obtain⟨k1,k2,hk1,hk2,eK⟩:=Fl n.kids hz
 obtain⟨t1,t2,ht1,ht2,eT⟩:=Fl tids' (z:=z) (by omega)
 obtain⟨x,eX⟩ : ∃ x,n.seps=n.seps.take z++x::n.seps.drop (z+1):=⟨_,Cs n.seps (w:=z) (by omega)⟩
 have lA:(n.kids.take z).length=z:=by rw [List.length_take];omega
 have lX:(n.seps.take z).length=z:=by rw [List.length_take];omega
 have lT:(tids'.take z).length=z:=by rw [List.length_take];omega
 have lB:(n.kids.drop (z+2)).length=n.kids.length-(z+2):=List.length_drop
 have lXB:(n.seps.drop (z+1)).length=n.seps.length-(z+1):=List.length_drop
 have lTB:(tids'.drop (z+2)).length=tids'.length-(z+2):=List.length_drop
 generalize n.kids.take z=A at *
 generalize n.kids.drop (z+2)=B at *
 generalize n.seps.take z=XA at *
 generalize n.seps.drop (z+1)=XB at *
 generalize tids'.take z=TA at *
 generalize tids'.drop (z+2)=TB at *
 have hkk:k=k1∨k=k2:=by
  rcases hk with h | h
  · rw [hk1] at h;exact .inl (Option.some.inj h).symm
  · rw [hk2] at h;exact .inr (Option.some.inj h).symm
 have wc':=wc
 rw [eK,eX,eT] at wc'
 have ho':=ho
 rw [eX] at ho'
 obtain⟨s',i1,i2,i3,i4,i5,i6⟩:=Ch.focus (XA:=XA) (XM:=[x]) (XB:=XB) (A:=A) (M:=[k1,k2]) (B:=B) (TA:=TA) (TM:=[t1,t2]) (TB:=TB) (by omega) (by omega) rfl rfl (by omega) (by omega) ho' wc'
 obtain⟨k1',ks',t1',ts',e1,e2,hx,p1,k2',t2',e3,e4,p2⟩:=i1
 obtain⟨rfl,rfl⟩ : k1=k1'∧[k2]=ks':=by simpa using e1
 obtain rfl:k2=k2':=by simpa using e3
 have hfl:n.kids.flatMap (ids (fN N2) h)=A.flatMap (ids (fN N2) h)++((ids (fN N2) h k1++ids (fN N2) h k2)++B.flatMap (ids (fN N2) h)):=by
  rw [eK,List.flatMap_append,List.flatMap_cons,List.flatMap_cons,List.append_assoc]
 have hn12:(ids (fN N2) h k1++ids (fN N2) h k2).Nodup:=by
  rw [hfl] at hnd
  exact(List.nodup_append.1 (List.nodup_append.1 hnd).2.1).1
 have hne:k1.toNat≠k2.toNat:=fun e=>(List.nodup_append.1 hn12).2.2 _ (Az.head h k1) _ (Az.head h k2) e
 have b1:=BP (Ct hc p1.1.range)
 have b2:=BP (Ct hc p2.1.range)
 have b3:(nd (fN N2) k1).elems.length+(nd (fN N2) k2).elems.length≤12∧(nd (fN N2) k1).kids.length+(nd (fN N2) k2).kids.length≤12:=by
  rcases hkk with rfl | rfl <;> omega
 have hpo:Ex N2 h k1 k2 s' (nd (fN N2) k1) (nd (fN N2) k2) x:=by
  cases h with
  | zero=>exact GF hc hx hne p1.1 p2.1 b3.1
  | succ h=>exact FW hc hl hx (hxok x (by rw [eX];simp)) p1.1 p2.1 hn12 b3.2
 obtain⟨z22,hz22,hpair⟩:=hpo
 have r1:=p1.1.range
 have r2:=p2.1.range
 rw [Av] at r1 r2
 have wcm : ∀ a,a∈A∨a∈B→∃ t s'',Gp (fN N2) h k a t s'':=fun a ha=>by
  obtain⟨t,s'',q,_⟩:=wc.mem a (by
   rw [eK]
   rcases ha with ha | ha
   · exact List.mem_append_left _ ha
   · simp [ha])
  exact⟨t,s'',q⟩
 have fin:=fun {N3:NL} {K:List Int} {X:List DSpot} (P:PairPost N2 N3 h k1 k2 s' K X) hsh=>GY (TA:=TA) (TB:=TB) eK eX hkk hnd ho hxok i3 i4 wcm i6 P hsh
 have hi1:idx n.kids (z:Int)=some k1:=by rw [Ar];exact hk1
 have hi2:idx n.kids ((z:Int)+1)=some k2:=by rw [show ((z:Int)+1)=((z+1:Nat):Int) by omega,Ar];exact hk2
 have hi3:idx n.seps (z:Int)=some x:=by
  have:=B0 XA x XB
  rwa [lX,← eX] at this
 have hd1:ze n.kids ((z:Int)+1) ((z:Int)+2)=some (A++k1::B):=by
  have:=Ez (l:=n.kids) (i:=z+1) (j:=z+2) (by omega) (by omega)
  rw [show ((z+1:Nat):Int)=(z:Int)+1 by omega,show ((z+2:Nat):Int)=(z:Int)+2 by omega] at this
  rw [this,eK]
  have:=Ga A k1 k2 B
  rw [lA] at this;rw [this]
 have hd2:ze n.seps (z:Int) ((z:Int)+1)=some (XA++XB):=by
  have:=Ez (l:=n.seps) (i:=z) (j:=z+1) (by omega) (by omega)
  rw [show ((z+1:Nat):Int)=(z:Int)+1 by omega] at this
  rw [this,eX]
  have:=Hs XA x XB
  rw [lX] at this;rw [this]
 have hd3:ze tids' ((z:Int)+1) ((z:Int)+2)=some (TA++t1::TB):=by
  have:=Ez (l:=tids') (i:=z+1) (j:=z+2) (by omega) (by omega)
  rw [show ((z+1:Nat):Int)=(z:Int)+1 by omega,show ((z+2:Nat):Int)=(z:Int)+2 by omega] at this
  rw [this,eT]
  have:=Ga TA t1 t2 TB
  rw [lT] at this;rw [this]
 obtain⟨_,_,_,_,j1⟩:=wu hd1
 obtain⟨_,_,_,_,j2⟩:=wu hd2
 obtain⟨_,_,_,_,j3⟩:=wu hd3
 have hset : ∀(l:List Int) (a b:Int),(TA++a::l).set z b=TA++b::l:=fun l a b=>by
  have:=Dm TA a b l
  rwa [lT] at this
 unfold E9
 rw [hzz,obs,hi1,obs,w64 (n:=(z:Int)+1) (by omega) (by omega),hi2,obs,p1.1.node.1,obs,FP (Ne.symm hne),p2.1.node.1,obs,hi3,obs,hz22,obs]
 unfold HI
 rw [ht]
 generalize nd (fN N2) k1=n5 at *
 generalize nd (fN N2) k2=n6 at *
 rw [w64 (n:=((n5.elems++n6.elems).length:Int)+((n5.kids++n6.kids).length:Int)) (by omega) (by simp only [List.length_append];omega),w64 (n:=(z:Int)+1) (by omega) (by omega)]
 rcases hpair with ⟨hle,P⟩ | ⟨hgt,y,q1,q2,q3,q4,l1,l2,l3,l4,kd,hh,P⟩
 · obtain⟨a1,u1,e5,e6,c1⟩:=P.ch
   obtain rfl:k1=a1:=by simpa using e5
   have hnode:=c1.1.node.1
   have hgr:=Bd (F:=F) P.chk c1.1.range
   have hE:=fin P (.inl ⟨rfl,rfl⟩)
   refine⟨_,_,_,_,?_,hE⟩
   rw [decide_eq_false (by omega),cond_false,Ci (by rw [Aq];exact r1),obs,Ci (by rw [Au,Aq];exact r2),obs,w64 (n:=(z:Int)+2) (by omega) (by omega),hd1,obs,hd2,obs,hd3,obs,obs]
   dsimp only
   rw [j1,j2,j3]
   refine Eq.trans (congrArg (fun q=>Option.bind q _) hnode) ?_
   rw [obs,hgr,obs]
   have hm:=B0 TA t1 TB
   rw [lT] at hm
   rw [hm,obs,Int.toNat_natCast,hset]
   rfl
 · obtain⟨a1,al,u1,us,e5,e6,i7,c1,a2,u2,e7,e8,c2⟩:=P.ch
   obtain⟨rfl,rfl⟩ : k1=a1∧[k2]=al:=by simpa using e5
   obtain rfl:k2=a2:=by simpa using e7
   have hnode:=c1.1.node.1
   have hgr:=Bd (F:=F) P.chk c1.1.range
   have hgr2:=Bd (F:=F) P.chk c2.1.range
   have hnd2:=CB (CM (N:=N2) (k1:=k1) (k2:=k2) ⟨n5.kind,l1,l2,l3,l4⟩ ⟨kd,q4,q3,q2,q1⟩ (by omega))
   have hgr3:tj F ⟨kd,q4,q3,q2,q1⟩=some (Aw (nd (fN (put2 N2 k1 k2 ⟨n5.kind,l1,l2,l3,l4⟩ ⟨kd,q4,q3,q2,q1⟩)) k2)):=by
    rw [← hgr2,hnd2]
   have hE:=fin P (.inr ⟨rfl,y,rfl⟩)
   refine⟨_,_,_,_,?_,hE⟩
   rw [decide_eq_true (by omega),cond_true,hh,obs]
   dsimp only
   rw [Ci (by rw [Aq];exact r1),obs,Ci (by rw [Au,Aq];exact r2),obs,hi3,obs,hgr3,obs]
   have hm:=Hv TA t1 t2 TB
   rw [lT,← eT] at hm
   rw [hm,obs,obs]
   dsimp only
   refine Eq.trans (congrArg (fun q=>Option.bind q _) hnode) ?_
   rw [obs,hgr,obs]
   have hst:=HF TA t1 t2 (Aw (nd (fN (put2 N2 k1 k2 ⟨n5.kind,l1,l2,l3,l4⟩ ⟨kd,q4,q3,q2,q1⟩)) k2)) TB
   rw [lT,← eT] at hst
   have hm2:=B0 TA t1 (Aw (nd (fN (put2 N2 k1 k2 ⟨n5.kind,l1,l2,l3,l4⟩ ⟨kd,q4,q3,q2,q1⟩)) k2)::TB)
   rw [lT] at hm2
   have hsx:n.seps.set z y=XA++y::XB:=by
    have:=Dm XA x y XB
    rw [lX,← eX] at this;exact this
   rw [show ((z:Int)+1).toNat=z+1 by omega,hst,hm2,obs,Int.toNat_natCast,hset,EP,hsx,eK]
   rfl
structure RemPost (sp:DSpot) (N N' : NL) (h:Nat) (i:Int) (s:Span) (m:Nat):Prop where
 len:N'.length=N.length
 out : ∀ j:Nat,j ∉ ids (fN N) h i→N'[j]? = N[j]?
 chk:Bm N'
 sub:Az (fN N') h i (m-1) s
 perm : ∃ Z,(ids (fN N) h i).Perm (Z++ids (fN N') h i)∧∀ j∈Z,N'[j]? = some (.inr zN)
 elems:Ao (fN N') h i=(Ao (fN N) h i).filter (BG sp)
structure RemMid (sp:DSpot) (N N3:NL) (h:Nat) (i:Int) (s:Span) (n:DNode) (K:List Int) (X:List DSpot) (T:List Int):Prop where
 len:N3.length=N.length
 hole:N3[i.toNat]? = (sZ N i)[i.toNat]?
 out : ∀ j:Nat,j ∉ ids (fN N) (h+1) i→N3[j]? = N[j]?
 chk:Bm N3
 ch:Ch (Ds (fN N3) h) X s K T
 more:n.kids.length≤K.length+1
 few:K.length≤n.kids.length
 ord:X.Pairwise SpotO
 ok : ∀ x∈X,Ay (zE x)=0
 perm : ∃ Z,(n.kids.flatMap (ids (fN N) h)).Perm (Z++K.flatMap (ids (fN N3) h))∧∀ j∈Z,N3[j]? = some (.inr zN)
 elems:K.flatMap (Ao (fN N3) h)=(n.kids.flatMap (Ao (fN N) h)).filter (BG sp)
def GQ (F:Nat)(sp:DSpot)(h:Nat):Prop:=∀(mf:Nat) (N:NL) (i:Int) (m:Nat) (s:Span),h<mf→Bm N→N.length≤400→(h=0∨3≤m)→Az (fN N) h i m s→(ids (fN N) h i).Nodup→inS s sp=true →
 ∃ N',xC (Ei F sp) mf (N,i)=some N'∧RemPost sp N N' h i s m
omit [Big F] in
theorem Dh {sp:DSpot}{l:List DElem}(h : ∀ x∈l,Ap x≠sp):l.filter (BG sp)=l:=List.filter_eq_self.2 fun x hx=>by unfold BG;simpa using h x hx
theorem Hg (sp:DSpot):GQ F sp 0:=by
 intro mf N i m s hm hc hl _ c hn hs
 obtain⟨mf,rfl⟩ : ∃ q,mf=q+1:=⟨mf-1,by omega⟩
 have L:=c.leaf hc
 have hr:=c.range
 rw [Av] at hr
 obtain⟨hnode,hat⟩:=c.node
 obtain⟨_,hk1,hmk,hin⟩:=c
 have hel:Ao (fN N) 0 i=(nd (fN N) i).elems:=rfl
 generalize nd (fN N) i=n at *
 have hlen:n.elems.length≤(n.elems.filter (BG sp)).length+1:=by
  have key : ∀ l:List DElem,l.Pairwise SpO→l.length≤(l.filter (BG sp)).length+1:=by
   intro l
   induction l with
   | nil=>intro _;simp
   | cons a l ih =>
    intro ho
    rw [List.pairwise_cons] at ho
    by_cases h:Ap a=sp
    · have : l.filter (BG sp) = l := Dh fun x hx e => by
       have:=ho.1 x hx
       unfold SpO at this
       rw [h,e,As.refl] at this
       omega
      rw [List.filter_cons]
      split <;> rw [this] <;> simp
    · have:=ih ho.2
      rw [List.filter_cons,if_pos (by unfold BG;simpa using h)]
      simpa using this
  exact key _ L.ord
 obtain⟨n',hn'⟩ : ∃ n' : DNode,n' = ⟨1,n.elems.filter (BG sp),[],[],[]⟩:=⟨_,rfl⟩
 have hck:AH n' = 0:=by
  rw [hn']
  exact Cc rfl ⟨rfl,rfl,rfl,by have:=List.length_filter_le (BG sp) n.elems;have:=L.len;show (n.elems.filter (BG sp)).length≤8;omega,fun x hx=>L.ok x ((List.mem_filter.1 hx).1),L.ord.filter _⟩
 have hnd:nd (fN (sE (sZ N i) i n')) i=n':=EK (by rw [Aq];exact hr)
 refine⟨sE (sZ N i) i n',?_,⟨by rw [Au,Aq],fun j hj=>?_,(hc.out i).put hck,⟨?_,by rw [hnd,hn'],?_,?_⟩,⟨[],?_,by simp⟩,?_⟩⟩
 · show Ei F sp (xC (Ei F sp) mf) (N,i)=_
   unfold Ei
   dsimp only
   rw [hnode,obs,hk1,show ((1:Int) == 1)=true from rfl,cond_true,Hr _ _ (by have:=L.len;omega),obs,Ci (by rw [Aq];exact hr),obs,L.kids,L.seps,L.tids,hn']
 · have hji:j≠i.toNat:=by simpa [ids] using hj
   rw [AB _ hji,AU _ hji]
 · rw [Av,Au,Aq];exact hr
 · rw [hnd,hn'];show m-1≤(n.elems.filter (BG sp)).length;omega
 · rw [hnd,hn']
   intro x hx
   exact hin x ((List.mem_filter.1 hx).1)
 · simp [ids]
 · rw [hel]
   show (nd _ i).elems=_
   rw [hnd,hn']
omit [Big F] in
theorem Az.count {ns:List DNode}(hns : ∀ n∈ns,AH n=0){h:Nat}{i:Int}{m m' : Nat}{s:Span}(c:Az ns h i m s)(hm:m'≤(nd ns i).elems.length+(nd ns i).kids.length):Az ns h i m' s:=by
 cases h with
 | zero =>
  have L:=c.leaf hns
  rw [L.kids] at hm
  exact⟨c.1,c.2.1,by simpa using hm,c.2.2.2⟩
 | succ h =>
  have L:=c.inner hns
  rw [L.elems] at hm
  exact⟨c.1,c.2.1,by simpa using hm,c.2.2.2⟩
theorem Gj {sp:DSpot}{h:Nat}(ih:GQ F sp h){mf:Nat}{N:NL}{i:Int}{m:Nat}{s:Span}(hm:h<mf)(hc:Bm N)(hl:N.length≤400)(c:Az (fN N) (h+1) i m s)(hn:(ids (fN N) (h+1) i).Nodup)(hs:inS s sp=true) :
 ∃ N3 K X T,xC (Ei F sp) (mf+1) (N,i)=some (sE N3 i ⟨2,[],K,X,T⟩)∧RemMid sp N N3 h i s (nd (fN N) i) K X T:=by
 have L:=c.inner hc
 have hr:=c.range
 rw [Av] at hr
 obtain⟨hnode,hat⟩:=c.node
 have hus:=c.used
 obtain⟨_,hk2,hmk,hch⟩:=c
 obtain⟨A,k,B,XA,XB,TA,t,TB,s',f⟩:=G0 L.seps L.tids L.ord hch hs
 have hids:ids (fN N) (h+1) i=i.toNat::(nd (fN N) i).kids.flatMap (ids (fN N) h):=rfl
 generalize hnn:nd (fN N) i=n at *
 have hflN:n.kids.flatMap (ids (fN N) h)=A.flatMap (ids (fN N) h)++(ids (fN N) h k++B.flatMap (ids (fN N) h)):=by rw [f.kids,List.flatMap_append,List.flatMap_cons]
 have hn0:=hn
 rw [hids] at hn0
 rw [ids,hnn,f.kids] at hn
 obtain⟨d1,d2,d3⟩:=DJ hn
 have hN1 : ∀ j∈ids (fN N) h k,(sZ N i)[j]? = N[j]?:=fun j hj=>AU N (fun e=>d1 (e▸hj))
 obtain⟨q1,q2,q3,q4⟩:=Az.agree (N':=sZ N i) (by rw [Aq];exact Nat.le_refl _) f.here.1 hN1
 obtain⟨N2,hrun,P2⟩:=ih mf (sZ N i) k 4 s' hm (hc.out i) (by rw [Aq];exact hl) (.inr (by omega)) q1 (by rw [q2];exact d2) f.in_
 have hlen2:N2.length=N.length:=by rw [P2.len,Aq]
 obtain⟨Z2,hZ2,hz2⟩:=P2.perm
 rw [q2] at hZ2
 have hout2 : ∀ j:Nat,j≠i.toNat→j ∉ ids (fN N) h k→N2[j]? = N[j]?:=fun j h1 h2=>by rw [P2.out j (by rw [q2];exact h2),AU N h1]
 have other : ∀ a,a∈A∨a∈B→∀ {m:Nat} {s:Span},Az (fN N) h a m s→_:=fun a ha m s c=>Az.agree (N:=N) (N':=N2) (by rw [hlen2];exact Nat.le_refl _) c fun j hj=>by
  obtain⟨x1,x2⟩:=d3 a ha
  exact hout2 j (fun e=>x1 (e▸hj)) (x2 j hj)
 have hkids : ∀ a,a∈A∨a∈B→∃ t' s'',Az (fN N) h a 4 s''∧(∀ x∈Ao (fN N) h a,Ap x≠sp):=fun a ha=>by
  rcases ha with ha | ha
  · obtain⟨t',s'',x1,x2⟩:=f.lo a ha
    exact⟨t',s'',x1.1,fun x hx e=>by have:=x2 _ ((x1.1.elems hc).2 x hx).1;rw [e,As.refl] at this;omega⟩
  · obtain⟨t',s'',x1,x2⟩:=f.hi a ha
    exact⟨t',s'',x1.1,fun x hx e=>by have:=x2 _ ((x1.1.elems hc).2 x hx).1;rw [e,As.refl] at this;omega⟩
 have flat : ∀(l:List Int),(∀ a∈l,a∈A∨a∈B)→l.flatMap (ids (fN N2) h)=l.flatMap (ids (fN N) h) ∧
  l.flatMap (Ao (fN N2) h)=(l.flatMap (Ao (fN N) h)).filter (BG sp):=fun l hl=>by
  constructor
  · exact B6 fun a ha=>by obtain ⟨t',s'',x1,_⟩:=hkids a (hl a ha);exact(other a (hl a ha) x1).2.1
  · rw [List.filter_flatMap]
    exact AM fun a ha=>by obtain ⟨t',s'',x1,x2⟩:=hkids a (hl a ha);rw [(other a (hl a ha) x1).2.2.1];exact(Dh x2).symm
 have hfl2:n.kids.flatMap (ids (fN N2) h)=A.flatMap (ids (fN N) h)++(ids (fN N2) h k++B.flatMap (ids (fN N) h)):=by
  rw [f.kids,List.flatMap_append,List.flatMap_cons,(flat A fun a ha=>.inl ha).1,(flat B fun a ha=>.inr ha).1]
 have hperm:(n.kids.flatMap (ids (fN N) h)).Perm (Z2++n.kids.flatMap (ids (fN N2) h)):=by
  rw [hflN,hfl2]
  refine((hZ2.append_right _).append_left _).trans ?_
  rw [List.append_assoc]
  exact List.perm_append_comm_assoc _ _ _
 obtain⟨n1,n2⟩:=List.nodup_cons.1 hn0
 have hnp:=hperm.nodup_iff.1 n2
 obtain⟨m1,m2,m3⟩:=List.nodup_append.1 hnp
 have hsub : ∀ j∈n.kids.flatMap (ids (fN N2) h),j∈n.kids.flatMap (ids (fN N) h):=fun j hj=>hperm.mem_iff.2 (List.mem_append_right _ hj)
 have hi2:i.toNat ∉ n.kids.flatMap (ids (fN N2) h):=fun hj=>n1 (hsub _ hj)
 have hw:BW n.seps sp=A.length:=f.way
 have hta:=f.ta
 have hxa:=f.xa
 have htb:=f.tb
 have hxb:=f.xb
 have hkl:n.kids.length=A.length+B.length+1:=by rw [f.kids];simp;omega
 have h8:=L.eight
 have h2:=L.two
 have hsl:=L.seps
 have htl:=L.tids
 obtain⟨g,hg⟩ : ∃ g,g=Aw (nd (fN N2) k):=⟨_,rfl⟩
 have htids:n.tids.set A.length g=TA++g::TB:=by rw [f.tids,← hta,Dm]
 have hgr:=Bd (F:=F) P2.chk P2.sub.range
 have hE : ∃ K X T N3,H1 F n (nd (fN N2) k) (A.length:Int) g N2=some (K,X,T,N3)∧EvenPost N2 N3 h s n K X T:=by
  obtain⟨b1,b2⟩:=BP (Ct P2.chk P2.sub.range)
  unfold H1
  rw [w64 (by omega) (by omega),Int.toNat_natCast,htids]
  by_cases hlow:(nd (fN N2) k).elems.length+(nd (fN N2) k).kids.length<4
  · have wc:=f.turn (Gp (fN N2) h k) (fun a t' s'' ha x=>⟨((other a ha x.1).1).weak (by omega),fun _=>⟨(other a ha x.1).1,by rw [(other a ha x.1).2.2.2];exact x.2⟩⟩) [k] [] [g] ⟨k,_,rfl,rfl,⟨P2.sub,fun hne=>absurd rfl hne⟩⟩
    have wc' : Ch (Gp (fN N2) h k) n.seps s n.kids (TA++g::TB):=by rw [f.seps,f.kids];simpa using wc
    have hev : ∀ z:Nat,z+1<n.kids.length→(n.kids[z]? = some k∨n.kids[z+1]? = some k)→(bif ((A.length:Int) == (IntKind.i64.wrap ((n.kids.length:Int)-1))) then some (IntKind.i64.wrap ((A.length:Int)-1)) else some (A.length:Int):Option Int)=some (z:Int) →
     ∃ K X T N3,E9 F n (A.length:Int) g N2=some (K,X,T,N3)∧EvenPost N2 N3 h s n K X T:=fun z z1 z2 z3 =>
     Ht P2.chk (by omega) (by rw [Int.toNat_natCast];exact htids) z1 h8 hsl (by simp;omega) z2 z3 L.ord L.ok wc' m2 hlow
    have hAk:n.kids[A.length]? = some k:=by rw [f.kids,List.getElem?_append_right (Nat.le_refl _)];simp
    obtain⟨K,X,T,N3,e1,e2⟩ : ∃ K X T N3,E9 F n (A.length:Int) g N2=some (K,X,T,N3)∧EvenPost N2 N3 h s n K X T:=by
     by_cases hB:B.length=0
     · refine hev (A.length-1) (by omega) (.inr (by rw [show A.length-1+1=A.length by omega];exact hAk)) ?_
       rw [w64 (by omega) (by omega),show ((A.length:Int) == (n.kids.length:Int)-1)=true by rw [beq_iff_eq];omega,cond_true,w64 (by omega) (by omega)]
       congr 1;omega
     · refine hev A.length (by omega) (.inl hAk) ?_
       rw [w64 (by omega) (by omega),show ((A.length:Int) == (n.kids.length:Int)-1)=false by rw [beq_eq_false_iff_ne];omega,cond_false]
    refine⟨K,X,T,N3,?_,e2⟩
    rw [decide_eq_true (by omega),cond_true,e1,obs]
  · have hsub4:Az (fN N2) h k 4 s':=P2.sub.count P2.chk (by omega)
    have cc:=f.turn (Ds (fN N2) h) (fun a t' s'' ha x=>⟨(other a ha x.1).1,by rw [(other a ha x.1).2.2.2];exact x.2⟩) [k] [] [g] ⟨k,_,rfl,rfl,⟨hsub4,hg.symm⟩⟩
    refine⟨n.kids,n.seps,TA++g::TB,N2,?_,⟨rfl,fun _ _=>rfl,P2.chk,by rw [f.seps,f.kids];simpa using cc,by omega,Nat.le_refl _,L.ord,L.ok,⟨[],by simp,by simp⟩,rfl⟩⟩
    rw [decide_eq_false (by omega),cond_false]
 obtain⟨K,X,T,N3,hM,E⟩:=hE
 have hlen3:N3.length=N.length:=by rw [E.len,hlen2]
 refine⟨N3,K,X,T,?_,⟨hlen3,?_,fun j hj=>?_,E.chk,E.ch,E.more,E.few,E.ord,E.ok,?_,?_⟩⟩
 · show Ei F sp (xC (Ei F sp) mf) (N,i)=_
   generalize xC (Ei F sp) mf=rf at hrun
   have hix:idx n.kids (A.length:Int)=some k:=by rw [f.kids];exact B0 _ _ _
   have hit:idx n.tids (A.length:Int)=some t:=by rw [f.tids,← hta];exact B0 _ _ _
   unfold Ei
   dsimp only
   rw [hnode,obs,hk2,show ((2:Int) == 1)=false from rfl,cond_false,Cg n _ (BQ (AW hk2 L)),obs,hw,hix,obs,hrun,obs,obs,P2.sub.node.1,obs,hgr,obs,hit,obs,← hg,hM,obs]
   dsimp only
   rw [Ci (by rw [hlen3];exact hr),obs,L.elems]
 · rw [E.out _ hi2,P2.out _ (by rw [q2];exact d1)]
 · rw [hids,List.mem_cons,not_or] at hj
   rw [E.out j (fun hh=>hj.2 (hsub j hh)),hout2 j hj.1 (fun hh=>hj.2 (by rw [hflN];simp [hh]))]
 · obtain⟨Z3,hZ3,hz3⟩:=E.perm
   refine⟨Z2++Z3,?_,fun j hj=>?_⟩
   · rw [List.append_assoc]
     exact hperm.trans (hZ3.append_left _)
   · rcases List.mem_append.1 hj with hj | hj
     · rw [E.out j (fun hh=>m3 j hj j hh rfl)];exact hz2 j hj
     · exact hz3 j hj
 · rw [E.elems,f.kids,List.flatMap_append,List.flatMap_cons,List.flatMap_append,List.flatMap_cons,List.filter_append,List.filter_append,(flat A fun a ha=>.inl ha).2,(flat B fun a ha=>.inr ha).2,P2.elems,q3]
theorem Gk {sp:DSpot}{N N3:NL}{h:Nat}{i:Int}{s:Span}{m:Nat}{K:List Int}{X:List DSpot}{T:List Int}(hl:N.length≤400)(c:Az (fN N) (h+1) i m s)(hc:Bm N)(hn:(ids (fN N) (h+1) i).Nodup)(M:RemMid sp N N3 h i s (nd (fN N) i) K X T)(h2:2≤K.length) :
 RemPost sp N (sE N3 i ⟨2,[],K,X,T⟩) (h+1) i s m:=by
 have L:=c.inner hc
 have hr:=c.range
 rw [Av] at hr
 have hmk:=c.2.2.1
 have hids:ids (fN N) (h+1) i=i.toNat::(nd (fN N) i).kids.flatMap (ids (fN N) h):=rfl
 have hels:Ao (fN N) (h+1) i=(nd (fN N) i).kids.flatMap (Ao (fN N) h):=rfl
 obtain⟨Z,hZ,hz⟩:=M.perm
 have hmore:=M.more
 have hfew:=M.few
 rw [hids] at hn
 obtain⟨n1,n2⟩:=List.nodup_cons.1 hn
 have hik:i.toNat ∉ K.flatMap (ids (fN N3) h):=fun hh=>n1 (hZ.mem_iff.2 (List.mem_append_right _ hh))
 have hck:=AW (n:=⟨2,[],K,X,T⟩) rfl (BE M.chk (by rw [M.len];exact hl) M.ch h2 (by have:=L.eight;omega) M.ord M.ok)
 have hnd:nd (fN (sE N3 i ⟨2,[],K,X,T⟩)) i=⟨2,[],K,X,T⟩:=EK (by rw [M.len];exact hr)
 obtain⟨a1,a2,a3⟩:=Bi (N':=sE N3 i ⟨2,[],K,X,T⟩) (by rw [Au];exact Nat.le_refl _) M.ch fun j hj=>AB N3 (show j≠i.toNat from fun h=>hik (by rw [← h];exact hj))
 refine⟨by rw [Au,M.len],fun j hj=>?_,M.chk.put hck,⟨?_,by rw [hnd],by rw [hnd];show m-1≤K.length;omega,by rw [hnd];exact a1⟩,⟨Z,?_,fun j hj=>?_⟩,?_⟩
 · have:=M.out j hj
   rw [hids,List.mem_cons,not_or] at hj
   rw [AB N3 hj.1,this]
 · rw [Av,Au,M.len];exact hr
 · rw [hids,ids,hnd]
   show List.Perm _ (Z++i.toNat::K.flatMap _)
   rw [a2]
   exact(List.Perm.cons _ hZ).trans List.perm_middle.symm
 · rw [AB N3 (show j≠i.toNat from fun e=>n1 (hZ.mem_iff.2 (List.mem_append_left _ (by rw [← e];exact hj))))]
   exact hz j hj
 · rw [hels,Ao,hnd,← M.elems]
   exact a3
theorem Fs (sp:DSpot):∀ h,GQ F sp h:=by
 intro h
 induction h with
 | zero=>exact Hg sp
 | succ h ih =>
  intro mf N i m s hm hc hl h3 c hn hs
  obtain⟨mf,rfl⟩ : ∃ q,mf=q+1:=⟨mf-1,by omega⟩
  obtain⟨N3,K,X,T,h1,M⟩:=Gj (mf:=mf) ih (by omega) hc hl c hn hs
  have h4:m≤(nd (fN N) i).kids.length:=c.2.2.1
  have h5:=M.more
  exact⟨_,h1,Gk hl c hc hn M (by omega)⟩
end Go.Proofs.Ytcmkdoahkncakaa
