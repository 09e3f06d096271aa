/- Plain Lean: what build.Of computes. Its conditions: none. -/
import Derived.Test.YtcmkdoahkncakaaBuildFH
import Derived.Test.YtcmkdoahkncakaaMBuildH
import Derived.Test.YtcmkdoahkncakaaMEditH
import Derived.Test.YtcmkdoahkncakaaPTreeH
import Derived.Test.YtcmkdoahkncakaaInsH
import Derived.Test.YtcmkdoahkncakaaPLoopH
import Derived.Test.YtcmkdoahkncakaaTreeFH
import Derived.Test.YtcmkdoahkncakaaRecH
import Derived.Test.YtcmkdoahkncakaaMapH
import Derived.Test.YtcmkdoahkncakaaCpFH
import Derived.Test.YtcmkdoahkncakaaTreeOH
import Derived.Test.YtcmkdoahkncakaaRangeH
import Derived.Test.YtcmkdoahkncakaaPastCFH
import Derived.Test.YtcmkdoahkncakaaPRunH
import Derived.Test.YtcmkdoahkncakaaWrHFH
import Derived.Test.YtcmkdoahkncakaaWrPFH
import Derived.Test.YtcmkdoahkncakaaWrCFH
import Derived.Test.YtcmkdoahkncakaaEqsFH
import Derived.Test.YtcmkdoahkncakaaWWriteSameFH
import Derived.Test.YtcmkdoahkncakaaRows
import Derived.Test.YtcmkdoahkncakaaLawH
namespace Go.Proofs.Ytcmkdoahkncakaa
set_option linter.unusedSimpArgs false
set_option linter.unusedVariables false
section
variable {F:Nat} [Big F]
def EN (n i:Nat):Nat:=off n (kOf n) (i+1)-off n (kOf n) i
def Gt (n:Nat):List Int:=(List.range (kOf n)).map fun i=>((EN n i:Nat):Int)
theorem ER (n:Nat):(Gt n).length=kOf n:=by unfold Gt;simp
theorem Hu {n i:Nat}(h:i<kOf n):(Gt n)[i]? = some ((EN n i:Nat):Int):=by
 unfold Gt;rw [List.getElem?_map,List.getElem?_range h];rfl
theorem Mr (n:Nat):kOf n≤n+1:=by unfold kOf;split <;> omega
theorem FK {α:Type}{l:List α}{i:Nat}{x:α}(h:l[i]? = some x):l.take (i+1)=l.take i++[x]:=by
 rw [List.take_add_one,h];rfl
theorem FV {n:Nat}(hn:n≤100000):yu F (n:Int)=some (Gt n):=by
 unfold yu
 have hE:(if (1:Int)<(IntKind.i64.wrap ((IntKind.i64.wrap ((IntKind.i64.wrap ((n:Int)+8))-1):Int).tdiv 8)) then IntKind.i64.wrap ((IntKind.i64.wrap ((IntKind.i64.wrap ((n:Int)+8))-1):Int).tdiv 8) else 1)=(kOf n:Int):=by
  rw [w64 (n:=(n:Int)+8) (by omega) (by omega),w64 (n:=(n:Int)+8-1) (by omega) (by omega),show (n:Int)+8-1=((n+7:Nat):Int) by omega]
  have e:(((n+7:Nat):Int)).tdiv 8=(((n+7) / 8:Nat):Int):=rfl
  rw [e,w64 (by omega) (by omega)]
  unfold kOf
  by_cases h:8<n
  · rw [if_pos h,if_pos (by omega)]
  · rw [if_neg h,if_neg (by omega)];rfl
 rw [hE]
 have hk:=El n
 have hk1:=Mr n
 rw [EL (List.range (kOf n)) (fun acc i=>acc++[((EN n i:Nat):Int)]) [] (r:=Gt n) (by rw [List.length_range];omega) rfl ?hs ?he]
 · rfl
 case hs =>
  intro i e hi
  have hi':=hi
  have hlt:=(ggs.1 hi).1
  rw [List.length_range] at hlt
  rw [List.getElem?_range hlt] at hi
  obtain rfl:=Option.some.inj hi
  dsimp only
  rw [HM]
  rw [show decide ((i:Int)<(kOf n:Int))=true from decide_eq_true (by omega),cond_true]
  have ht:BR (kOf n:Int)=some (kOf n:Int):=by unfold BR;rw [if_neg (by omega)]
  rw [ht,obs,obs]
  have hb1:n*(i+1)≤100000*100002:=Nat.mul_le_mul hn (by omega)
  have hb0:n*i≤100000*100002:=Nat.mul_le_mul hn (by omega)
  have e1:(n:Int)*((i:Int)+1)=((n*(i+1):Nat):Int):=by push_cast;rfl
  have e0:(n:Int)*(i:Int)=((n*i:Nat):Int):=by push_cast;rfl
  have d1:(((n*(i+1):Nat):Int)).tdiv (kOf n:Int)=((off n (kOf n) (i+1):Nat):Int):=rfl
  have d0:(((n*i:Nat):Int)).tdiv (kOf n:Int)=((off n (kOf n) i:Nat):Int):=rfl
  have hm:=G0 (n:=n) (k:=kOf n) (show i≤i+1 by omega)
  have hl:=J7 (n:=n) hk (show i+1≤kOf n by omega)
  have es:((off n (kOf n) (i+1):Nat):Int)-((off n (kOf n) i:Nat):Int)=((EN n i:Nat):Int):=by unfold EN;omega
  have hsh:EN n i≤n:=by unfold EN;omega
  rw [w64 (n:=(i:Int)+1) (by omega) (by omega),e1,e0,w64 (n:=((n*(i+1):Nat):Int)) (by omega) (by omega),w64 (n:=((n*i:Nat):Int)) (by omega) (by omega),d1,d0,w64 (n:=((off n (kOf n) (i+1):Nat):Int)) (by omega) (by omega),w64 (n:=((off n (kOf n) i:Nat):Int)) (by omega) (by omega),es,w64 (by omega) (by omega)]
  rw [DL (by simp;omega) (by simp;omega)]
  rfl
 case he =>
  dsimp only
  rw [HM,List.length_range,decide_eq_false (by omega),cond_false];rfl
theorem Ev {n:DNode}(h:DT n=0):Small n:=by
 obtain⟨h1,h2⟩:=E9 h
 rcases DX.1 h with q | q | q
 · refine⟨by omega,by omega,?_,?_⟩
   · rw [q.2.2.2.1];simp
   · rw [q.2.2.2.2];simp
 · refine⟨by omega,by omega,?_,?_⟩
   · rw [q.2.seps];simp
   · rw [q.2.tids];simp
 · exact⟨by omega,by omega,by have:=q.2.seps;omega,by have:=q.2.tids;omega⟩
def JM (l:List DElem):Option Int:=l.zipIdx.findSome? fun p=>Eo l p.2 p.1
def ofR (l:List DElem):DTree × Int:=if 400<l.length then (⟨0,[]⟩,2) else match JM l with
 | some e=>(⟨0,[]⟩,e)
 | none=>(EV l,0)
theorem Ie {l:List DElem}:JM l=none↔(∀ e∈l,DG e=0)∧l.Pairwise SpO:=by
 unfold JM
 rw [EW]
 constructor
 · intro h
   refine⟨fun e he=>?_,Fe (R:=SpO) (fun a b c h1 h2=>SpO.trans h1 h2) fun j p e hp he=>?_⟩
   · obtain⟨k,hk⟩:=List.mem_iff_getElem?.1 he
     exact(EJ.1 (h k e hk)).1
   · exact(EJ.1 (h (j+1) e he)).2 j p rfl hp
 · rintro⟨h1,h2⟩ k e hk
   exact EJ.2 ⟨h1 e (List.mem_of_getElem? hk),fun j p hj hp=>Ei h2 (by omega) hp hk⟩
theorem Js {α:Type}{G:List (List α)}{β:Type}{φ:List α × Nat→β}{i:Nat}{g:List α}(h:G[i]? = some g):(G.zipIdx.map φ)[i]? = some (φ (g,i)):=by
 rw [List.getElem?_map,List.getElem?_zipIdx,h];simp
theorem IA {α:Type}(l:List α)(i:Nat):(l.drop (off l.length (kOf l.length) i)).drop (EN l.length i)=l.drop (off l.length (kOf l.length) (i+1)):=by
 rw [List.drop_drop]
 congr 1
 have:=G0 (n:=l.length) (k:=kOf l.length) (show i≤i+1 by omega)
 unfold EN;omega
theorem Iz {α:Type}(l:List α){i:Nat}(h:i<kOf l.length):EN l.length i≤(l.drop (off l.length (kOf l.length) i)).length:=by
 have h1:=J7 (n:=l.length) (El l.length) (show i+1≤kOf l.length by omega)
 rw [List.length_drop];unfold EN;omega
theorem Jb (l:List DElem):AL F l=some (ofR l):=by
 unfold AL ofR
 by_cases hl:400<l.length
 · rw [show decide ((400:Int)<(l.length:Int))=true from decide_eq_true (by omega),cond_true,if_pos hl]
 rw [show decide ((400:Int)<(l.length:Int))=false from decide_eq_false (by omega),cond_false,if_neg hl]
 rw [EK l (fun k e=>(Eo l k e).map fun x=>Sum.inr ((⟨0,[]⟩ : DTree),x)) (.inl ()) (by omega) rfl (fun k e hk hb=>?_) (by simp)]
 rotate_left
 · have hkl:=(ggs.1 hk).1
   rw [decide_eq_true (by omega),cond_true,DA,hk,obs,Eb,obs]
   unfold Eo
   by_cases hc:DG e=0
   · rw [DI hc,cond_false,if_neg (show ¬ (DG e≠0) by simpa using hc)]
     cases k with
     | zero =>
      rw [show decide ((0:Int)<((0:Nat):Int))=false from rfl,cond_false,obs,cond_false,w64 (by omega) (by omega)];rfl
     | succ j =>
      obtain⟨p,hp⟩ : ∃ p,l[j]? = some p:=⟨_,gge (by omega)⟩
      have e1:IntKind.i64.wrap (((j+1:Nat):Int)-1)=(j:Int):=by rw [w64 (by omega) (by omega)];omega
      rw [decide_eq_true (show (0:Int)<((j+1:Nat):Int) by omega),cond_true,e1,DA,hp]
      simp only [obs,DF,DN,hp]
      by_cases hs:0≤cmpS (Dy p) (Dy e)
      · rw [decide_eq_true hs,if_pos hs];rfl
      · rw [decide_eq_false hs,if_neg hs,cond_false,w64 (by omega) (by omega)];rfl
   · rw [DU hc,cond_true,if_pos (show (DG e≠0) by simpa using hc)];rfl
 have hbad:((l.zipIdx.findSome? fun p=>(Eo l p.2 p.1).map fun x=>(Sum.inr ((⟨0,[]⟩ : DTree),x):Unit ⊕ (DTree × Int))).getD (.inl ()))=match JM l with
  | some e=>.inr (⟨0,[]⟩,e)
  | none=>.inl ():=by
  have : ∀ q:List (DElem × Nat),(q.findSome? fun p=>(Eo l p.2 p.1).map fun x=>(Sum.inr ((⟨0,[]⟩ : DTree),x):Unit ⊕ (DTree × Int)))=(q.findSome? fun p=>Eo l p.2 p.1).map fun x=>Sum.inr (⟨0,[]⟩,x):=by
   intro q
   induction q with
   | nil=>rfl
   | cons a q ih=>rw [List.findSome?_cons,List.findSome?_cons];cases Eo l a.2 a.1 with
    | none=>exact ih
    | some x=>rfl
  rw [this]
  unfold JM
  cases (l.zipIdx.findSome? fun p=>Eo l p.2 p.1) <;> rfl
 rw [hbad,obs]
 cases hb:JM l with
 | some e=>rfl
 | none =>
  obtain⟨ho,hp⟩:=Ie.1 hb
  dsimp only
  have hk:=El l.length
  have hk50:kOf l.length≤50:=Ir (by omega) (by decide)
  have hglen:=DS l
  rw [FV (by omega),obs]
  rw [D8 (fun i=>(((D1 l).take i,(Fx l).take i,l.drop (off l.length (kOf l.length) i),(i:Int)):List DNode × List Dbuild_low × List DElem × Int)) (kOf l.length) (r:=(D1 l,Fx l)) (by rw [Gd];rfl) (by omega) ?hs ?he]
  case he =>
   dsimp only
   rw [ER,decide_eq_false (by omega),cond_false,List.take_of_length_le (by unfold D1;rw [List.length_map];omega),List.take_of_length_le (by unfold Fx;rw [List.length_map,List.length_zipIdx];omega)]
  case hs =>
   intro i hi
   dsimp only
   have hg:=GE hi
   have hn0:(D1 l)[i]? = some (Lx (EU l (kOf l.length) i)):=by unfold D1;rw [List.getElem?_map,hg];rfl
   have hl0:(Fx l)[i]? = some ⟨(i:Int),GV (EU l (kOf l.length) i)⟩:=Js hg
   have hrl:=Iz l hi
   have hrn:=IA l i
   have hpc:EU l (kOf l.length) i=(l.drop (off l.length (kOf l.length) i)).take (EN l.length i):=rfl
   have hpl:(EU l (kOf l.length) i).length≤8:=(D7 (List.mem_of_getElem? hg)).1
   generalize hrest:l.drop (off l.length (kOf l.length) i)=rest at *
   have htl:((D1 l).take i).length=i:=by rw [List.length_take];unfold D1;rw [List.length_map];omega
   have htl2:((Fx l).take i).length=i:=by rw [List.length_take];unfold Fx;rw [List.length_map,List.length_zipIdx];omega
   rw [ER,decide_eq_true (by omega),cond_true,DA,Hu hi,obs]
   have hspot:(bif decide ((0:Int)<((EN l.length i:Nat):Int)) then (idx rest 0).bind fun e4=>(wj e4).bind fun r8=>some (r8.key.pfs,r8.key.obj,r8.key.off,r8.made) else some (0,0,0,0):Option (Int × Int × Int × Int)) =
    some ((GV (EU l (kOf l.length) i)).key.pfs,(GV (EU l (kOf l.length) i)).key.obj,(GV (EU l (kOf l.length) i)).key.off,(GV (EU l (kOf l.length) i)).made):=by
    by_cases h0:0<EN l.length i
    · rw [decide_eq_true (show (0:Int)<((EN l.length i:Nat):Int) by omega),cond_true]
      cases rest with
      | nil=>simp at hrl;omega
      | cons e r =>
       obtain⟨q,hq⟩ : ∃ q,EN l.length i=q+1:=⟨EN l.length i-1,by omega⟩
       rw [hpc,hq,show idx (e::r) 0=some e from rfl,obs,DF];rfl
    · have h00:EN l.length i=0:=by omega
      rw [h00,List.take_zero] at hpc
      rw [hpc,h00];rfl
   rw [hspot,obs]
   dsimp only
   rw [D6 hrl,obs,← hpc,DL (by simp;omega) (by simp;omega),obs,DL (by simp;omega) (by simp;omega),obs,DL (by simp;omega) (by simp;omega),obs,DQ hrl,obs,hrn,w64 (by omega) (by omega),htl,FK hn0,FK hl0]
   rfl
  rw [obs]
  dsimp only
  have L0:=Lev.zero (by omega) ho hp
  have hlv0:(Fx l).length≤400:=by have:=L0.size;omega
  have hout : ∀ {K:List DNode × List Dbuild_low→Option (DTree × Int)} {f:List DNode × List Dbuild_low→Option ((List DNode × List Dbuild_low) ⊕ (List DNode × List Dbuild_low))},
   (∀ ns lv h,Lev ns lv l h→f (ns,lv)=some (if 1<lv.length then .inl (D3 (ns,lv)) else .inr (ns,lv)))→(iter f F (D1 l,Fx l)).bind K=K (up 400 (D1 l,Fx l)):=by
   intro K f hf
   obtain⟨q,hq⟩ : ∃ q,K (up 400 (D1 l,Fx l))=some q∨True:=⟨(⟨0,[]⟩,0),.inr trivial⟩
   have hit:iter f F (D1 l,Fx l)=some (up 400 (D1 l,Fx l)):=by
    have:=Lz (F:=F) (f:=f) (K:=some) (fun m s q=>q=up m s∧s.2.length≤m∧∃ h,Lev s.1 s.2 l h) ?_ (m:=400) (s:=(D1 l,Fx l)) (q:=up 400 (D1 l,Fx l)) (by omega) ⟨rfl,hlv0,0,L0⟩
    · simpa using this
    · rintro m ⟨ns,lv⟩ q ⟨rfl,hm,h,L⟩
      dsimp only at hm L
      have hpos:0<lv.length:=by rw [L.count];exact JO _ _
      by_cases h1:1<lv.length
      · right
        obtain⟨m,rfl⟩ : ∃ k,m=k+1:=⟨m-1,by omega⟩
        have L':=L.next hp ho h1
        have hc:(D3 (ns,lv)).2.length=kOf lv.length:=by unfold D3;dsimp only;rw [List.length_map,List.length_zipIdx,DS]
        have hh:=GR h1
        refine⟨m,D3 (ns,lv),by omega,by rw [hf ns lv h L,if_pos h1],?_,Nat.le_trans (Nat.le_of_eq hc) (by omega),h+1,L'⟩
        rw [up,if_pos h1]
      · left
        refine⟨(ns,lv),by rw [hf ns lv h L,if_neg h1],?_⟩
        cases m with
        | zero=>rfl
        | succ m=>rw [up,if_neg h1]
   rw [hit,obs]
  rw [hout ?hstep]
  case hstep =>
   intro ns lv h L
   dsimp only
   have hsize:=L.size
   by_cases h1:1<lv.length
   rotate_left
   · rw [if_neg h1,show decide ((1:Int)<(lv.length:Int))=false from decide_eq_false (by omega),cond_false]
   rw [if_pos h1,show decide ((1:Int)<(lv.length:Int))=true from decide_eq_true (by omega),cond_true]
   rw [FV (by omega),obs]
   have hkl:=GR h1
   have hkp:=El lv.length
   have hgl:=DS lv
   have hgm:((groups lv).map (FD ns)).length=kOf lv.length:=by rw [List.length_map];exact hgl
   have hlm:(D3 (ns,lv)).2.length=kOf lv.length:=by unfold D3;dsimp only;rw [List.length_map,List.length_zipIdx,DS]
   rw [D8 (fun i=>(((D3 (ns,lv)).2.take i,ns++((groups lv).map (FD ns)).take i,lv.drop (off lv.length (kOf lv.length) i),(i:Int)):List Dbuild_low × List DNode × List Dbuild_low × Int)) (kOf lv.length) (r:=((D3 (ns,lv)).2,(D3 (ns,lv)).1)) (by rw [Gd];simp) (by omega) ?hs2 ?he2]
   · rfl
   case he2 =>
    dsimp only
    rw [ER,decide_eq_false (by omega),cond_false,List.take_of_length_le (by omega),List.take_of_length_le (by omega)];rfl
   case hs2 =>
    intro i hi
    dsimp only
    have hg:=GE hi
    have hn0:((groups lv).map (FD ns))[i]? = some (FD ns (EU lv (kOf lv.length) i)):=by rw [List.getElem?_map,hg];rfl
    have hl0:(D3 (ns,lv)).2[i]? = some ⟨((ns.length+i:Nat):Int),Kx (EU lv (kOf lv.length) i)⟩:=Js hg
    have hrl:=Iz lv hi
    have hrn:=IA lv i
    have hpc:EU lv (kOf lv.length) i=(lv.drop (off lv.length (kOf lv.length) i)).take (EN lv.length i):=rfl
    obtain⟨hp8,_,_,hp1⟩:=D7 (List.mem_of_getElem? hg)
    have hp1:=hp1 h1
    have hsub:=(Gs (List.mem_of_getElem? hg)).subset
    generalize EU lv (kOf lv.length) i=g at *
    generalize lv.drop (off lv.length (kOf lv.length) i)=rest at *
    have htl:(((groups lv).map (FD ns)).take i).length=i:=by rw [List.length_take];omega
    have htl2:((D3 (ns,lv)).2.take i).length=i:=by rw [List.length_take];omega
    rw [ER,decide_eq_true (by omega),cond_true,DA,Hu hi,obs,D6 hrl,obs,← hpc]
    rw [D8 (s:=(([]:List DSpot),([]:List Int),([]:List Int),(0:Int))) (fun j=>(((g.take j).tail.map (·.s),(g.take j).map (fun k=>DE (nd ns k.i)),(g.take j).map (·.i),(j:Int)):List DSpot × List Int × List Int × Int)) g.length (r:=(g.tail.map (·.s),g.map (fun k=>DE (nd ns k.i)),g.map (·.i))) rfl (by omega) ?hs3 ?he3]
    case he3 =>
     dsimp only
     rw [decide_eq_false (by omega),cond_false,List.take_length]
    case hs3 =>
     intro j hj
     dsimp only
     have hgj:g[j]? = some g[j]:=gge hj
     have hin:=hsub (List.mem_of_getElem? hgj)
     have hrange:=(L.fit _ hin).range
     generalize g[j]=e at *
     have hnd:idx (ns++((groups lv).map (FD ns)).take i) e.i=some (nd ns e.i):=by
      rw [GI hrange.1 (by rw [List.length_append];have:=hrange.2;omega),GJ ns _ hrange]
     have htk:(g.take j).length=j:=by rw [List.length_take];omega
     rw [decide_eq_true (by omega),cond_true,DA,hgj,obs,DL (by rw [List.length_map,htk,List.length_singleton];omega) (by rw [List.length_map,htk,List.length_singleton];omega),obs,hnd,obs,Eg _ (Ev (L.chk _ (EE hrange.1 hrange.2))),obs,DL (by rw [List.length_map,htk,List.length_singleton];omega) (by rw [List.length_map,htk,List.length_singleton];omega),obs,w64 (by omega) (by omega),FK hgj,List.map_append,List.map_append]
     cases j with
     | zero=>rfl
     | succ j =>
      have hne:g.take (j+1)≠[]:=fun h=>by rw [h] at htk;simp at htk
      rw [decide_eq_true (show (0:Int)<((j+1:Nat):Int) by omega),cond_true,DL (by rw [List.length_map,List.length_tail,htk,List.length_singleton];omega) (by rw [List.length_map,List.length_tail,htk,List.length_singleton];omega),List.tail_append_of_ne_nil hne,List.map_append]
      rfl
    rw [obs]
    dsimp only
    obtain⟨y,g',rfl⟩ : ∃ y g',g=y::g':=by
     cases g with
     | nil=>simp at hp1
     | cons y g'=>exact ⟨y,g',rfl⟩
    have hy:idx rest 0=some y:=by
     cases rest with
     | nil=>simp at hpc
     | cons z r =>
      cases hsh:EN lv.length i with
      | zero=>rw [hsh] at hpc;simp at hpc
      | succ q=>rw [hsh,List.take_succ_cons] at hpc;rw [(List.cons.inj hpc).1];rfl
    rw [hy,obs,DL (by rw [htl2,List.length_singleton];omega) (by rw [htl2,List.length_singleton];omega),obs,DL (by rw [List.length_append,htl,List.length_singleton];omega) (by rw [List.length_append,htl,List.length_singleton];omega),obs,DQ hrl,obs,hrn,w64 (by omega) (by omega),List.length_append,htl,FK hn0,FK hl0,List.append_assoc]
    rfl
  obtain⟨h,L,h1⟩:=Lev.up hp ho 400 L0 hlv0
  unfold EV
  dsimp only
  generalize up 400 (D1 l,Fx l)=x at L h1
  obtain⟨ns,lv⟩:=x
  dsimp only at L h1 ⊢
  obtain⟨y,rfl⟩:=List.length_eq_one_iff.1 h1
  rfl
end
section
def EH (e x:DElem):DElem:=if Dy x=Dy e then e else x
theorem Hm (e x:DElem):Dy (EH e x)=Dy x:=by
 unfold EH
 split
 · rename_i h;exact h.symm
 · rfl
theorem Md {e x:DElem}(he:DG e=0)(hx:DG x=0):DG (EH e x)=0:=by
 unfold EH;split <;> assumption
theorem JF {e:DElem}{l:List DElem}(h:l.Pairwise SpO):(l.map (EH e)).Pairwise SpO:=by
 rw [List.pairwise_map]
 exact h.imp fun {a b} hab=>by unfold SpO at hab ⊢;rw [Hm,Hm];exact hab
theorem GM {e:DElem}{l:List DElem}(h : ∀ x∈l,Dy x≠Dy e):l.map (EH e)=l:=by
 conv=>rhs;rw [← List.map_id l]
 exact List.map_congr_left fun x hx=>by unfold EH;rw [if_neg (h x hx)];rfl
structure ChgPost (e:DElem) (N N' : NL) (h:Nat) (i:Int) (m:Nat) (s:Span):Prop where
 len:N'.length=N.length
 out : ∀ j,j ∉ ids (fN N) h i→N'[j]? = N[j]?
 kinds : ∀ j,kd N' j=kd N j
 chk:Em N'
 sub:DK (fN N') h i m s
 ids:ids (fN N') h i=ids (fN N) h i
 elems:Dx (fN N') h i=(Dx (fN N) h i).map (EH e)
def Gv (F:Nat)(e:DElem)(rf1:NL × Int→Option NL)(x:NL × Int):Option NL :=
 match x with
  | (x1,x2) =>
   (xp x1 x2).bind fun n1 =>
    bif (n1.kind == 1) then
     (iter (σ:=(List DElem) × Int) (ρ:=(List DElem)) (fun x=>match x with
      | (x3,x4) =>
       bif decide (x4<(n1.elems.length:Int)) then
        (
         (idx x3 x4).bind fun e1 =>
          (wj e1).bind fun r8 =>
          (wj e).bind fun r9 =>
          bif (r8 == r9) then
           (idx x3 x4).bind fun e2 =>
           some (x3.set x4.toNat e)
          else
           some x3:Option ((List DElem))).bind fun z3 =>
        some (.inl (z3,IntKind.i64.wrap (x4+1)))
        else
         some (.inr x3)) F (n1.elems,0)).bind fun z2 =>
     (BF n1 (DNode.mk n1.kind z2 n1.kids n1.seps n1.tids)).bind fun u1 =>
     some (v0 (wt x1 x2) x2 (DNode.mk n1.kind z2 n1.kids n1.seps n1.tids))
    else
     (wj e).bind fun r10 =>
     (yd F n1 r10).bind fun r11 =>
     (idx n1.kids r11).bind fun e3 =>
     (rf1 ((wt x1 x2),e3)).bind fun z4 =>
     (idx n1.kids r11).bind fun e4 =>
     (xp z4 e4).bind fun n2 =>
     (wy F n2).bind fun r12 =>
     (idx n1.tids r11).bind fun e5 =>
     (BF n1 (DNode.mk n1.kind n1.elems n1.kids n1.seps (n1.tids.set r11.toNat r12))).bind fun u2 =>
     some (v0 z4 x2 (DNode.mk n1.kind n1.elems n1.kids n1.seps (n1.tids.set r11.toNat r12)))
variable {F:Nat} [Big F]
theorem Kw {a b:DNode}(h1:a.elems.length=b.elems.length)(h2:a.kids.length=b.kids.length)(h3:a.seps.length=b.seps.length)(h4:a.tids.length=b.tids.length):BF a b=some ():=by
 unfold BF;rw [if_pos ⟨h1,h2,h3,h4⟩]
theorem Fh {n:DNode}(h1:n.kind=1)(h2:Leaf n):DT n=0:=DX.2 (.inr (.inl ⟨h1,h2⟩))
theorem D0 {n:DNode}(h1:n.kind=2)(h2:Inner n):DT n=0:=DX.2 (.inr (.inr ⟨h1,h2⟩))
theorem FE {N:NL}(h:Em N){i:Int}(hi:0≤i∧i<((fN N).length:Int)):DT (nd (fN N) i)=0:=h _ (EE hi.1 hi.2)
theorem Ec {N:NL}(h:Em N){i:Int}(hi:0≤i∧i<((fN N).length:Int)):wy F (nd (fN N) i)=some (DE (nd (fN N) i)):=Eg _ (Ev (FE h hi))
theorem LH (l:List DElem)(e:DElem)(hl:l.length≤8) :
 iter (σ:=(List DElem) × Int) (ρ:=(List DElem)) (fun x=>match x with
  | (x3,x4) =>
   bif decide (x4<(l.length:Int)) then
    (
     (idx x3 x4).bind fun e1 =>
      (wj e1).bind fun r8 =>
      (wj e).bind fun r9 =>
      bif (r8 == r9) then
       (idx x3 x4).bind fun e2 =>
       some (x3.set x4.toNat e)
      else
       some x3:Option ((List DElem))).bind fun z3 =>
    some (.inl (z3,IntKind.i64.wrap (x4+1)))
    else
     some (.inr x3)) F (l,0)=some (l.map (EH e)):=by
 refine D8 (fun k=>((l.take k).map (EH e)++l.drop k,(k:Int))) l.length (by simp) (by omega) (fun k hk=>?_) ?_
 · have hs:l.drop k=l[k]::l.drop (k+1):=List.drop_eq_getElem_cons hk
   have hlen:((l.take k).map (EH e)).length=k:=by rw [List.length_map,List.length_take];omega
   have hi:idx ((l.take k).map (EH e)++l.drop k) (k:Int)=some l[k]:=by
    rw [hs]
    have:=EA ((l.take k).map (EH e)) l[k] (l.drop (k+1))
    rwa [hlen] at this
   have ht:l.take (k+1)=l.take k++[l[k]]:=by rw [List.take_add_one,gge hk];rfl
   dsimp only
   rw [decide_eq_true (by omega),cond_true,hi,obs,DF,obs,DF,obs,w64 (by omega) (by omega),ht,List.map_append,List.append_assoc]
   by_cases h:Dy l[k]=Dy e
   · rw [show (Dy l[k] == Dy e)=true by simpa using h,cond_true,obs,obs,Int.toNat_natCast,hs]
     have:=FA ((l.take k).map (EH e)) l[k] e (l.drop (k+1))
     rw [hlen] at this
     rw [this]
     show _=some (Sum.inl ((l.take k).map (EH e)++([EH e l[k]]++l.drop (k+1)),_))
     unfold EH
     rw [if_pos h];rfl
   · rw [show (Dy l[k] == Dy e)=false by simpa using h,cond_false,obs]
     show _=some (Sum.inl ((l.take k).map (EH e)++([EH e l[k]]++l.drop (k+1)),_))
     rw [hs]
     conv=>rhs;unfold EH
     rw [if_neg h];rfl
 · dsimp only
   rw [decide_eq_false (by omega),cond_false,List.drop_length,List.take_length,List.append_nil]
theorem Li {e:DElem}(he:DG e=0):∀(h mf:Nat) (N:NL) (i:Int) (m:Nat) (s:Span),h<mf→Em N→DK (fN N) h i m s→(ids (fN N) h i).Nodup→inS s (Dy e)=true →
 ∃ N',Ae (Gv F e) mf (N,i)=some N'∧ChgPost e N N' h i m s:=by
 intro h
 induction h with
 | zero =>
  intro mf N i m s hm hc c hn hs
  obtain⟨mf,rfl⟩ : ∃ q,mf=q+1:=⟨mf-1,by omega⟩
  have L:=c.leaf hc
  have hr:=c.range
  rw [DD] at hr
  obtain⟨hnode,hat⟩:=c.node
  have hk1:=c.2.1
  have L' : Leaf ⟨1,(nd (fN N) i).elems.map (EH e),(nd (fN N) i).kids,(nd (fN N) i).seps,(nd (fN N) i).tids⟩ :=
   ⟨L.kids,L.seps,L.tids,by rw [List.length_map];exact L.len,fun x hx=>by
    obtain⟨y,hy,rfl⟩:=List.mem_map.1 hx
    exact Md he (L.ok y hy),JF L.ord⟩
  have hc':=Fh (n:=⟨1,(nd (fN N) i).elems.map (EH e),(nd (fN N) i).kids,(nd (fN N) i).seps,(nd (fN N) i).tids⟩) rfl L'
  have hnd:nd (fN (v0 (wt N i) i ⟨1,(nd (fN N) i).elems.map (EH e),(nd (fN N) i).kids,(nd (fN N) i).seps,(nd (fN N) i).tids⟩)) i=_:=Hj (by rw [Dz];exact hr)
  refine⟨v0 (wt N i) i ⟨1,(nd (fN N) i).elems.map (EH e),(nd (fN N) i).kids,(nd (fN N) i).seps,(nd (fN N) i).tids⟩,?_,?_,?_,?_,(hc.out i).put hc',?_,rfl,?_⟩
  · show Gv F e (Ae (Gv F e) mf) (N,i)=_
    have hfit:BF (nd (fN N) i) ⟨1,(nd (fN N) i).elems.map (EH e),(nd (fN N) i).kids,(nd (fN N) i).seps,(nd (fN N) i).tids⟩=some ():=Kw (by simp) rfl rfl rfl
    unfold Gv
    dsimp only
    rw [hnode,obs,hk1,show ((1:Int) == 1)=true from rfl,cond_true,LH _ _ L.len,obs,hfit,obs]
  · rw [DB,Dz]
  · intro j hj
    have hji:j≠i.toNat:=by simpa [ids] using hj
    rw [DH _ hji,DR _ hji]
  · intro j
    by_cases hji:j=i.toNat
    · subst hji
      unfold kd
      rw [DY _ (by rw [Dz];omega),hat]
      show some 1=some (nd (fN N) i).kind
      rw [hk1]
    · unfold kd;rw [DH _ hji,DR _ hji]
  · refine⟨?_,by rw [hnd],by rw [hnd,List.length_map];exact c.2.2.1,?_⟩
    · rw [DD,DB,Dz];exact hr
    · rw [hnd]
      intro x hx
      obtain⟨y,hy,rfl⟩:=List.mem_map.1 hx
      rw [Hm];exact c.2.2.2 y hy
  · show (nd _ i).elems=_
    rw [hnd];rfl
 | succ h ih =>
  intro mf N i m s hm hc c hn hs
  obtain⟨mf,rfl⟩ : ∃ q,mf=q+1:=⟨mf-1,by omega⟩
  have L:=c.inner hc
  have hr:=c.range
  rw [DD] at hr
  obtain⟨hnode,hat⟩:=c.node
  obtain⟨_,hk2,hmk,hch⟩:=c
  obtain⟨A,k,B,XA,XB,TA,t,TB,s',f⟩:=JU L.seps L.tids L.ord hch hs
  generalize hnn:nd (fN N) i=n at *
  rw [ids,hnn,f.kids] at hn
  obtain⟨d1,d2,d3⟩:=Gb hn
  have hN1 : ∀ j∈ids (fN N) h k,(wt N i)[j]? = N[j]?:=fun j hj=>DR N (fun e=>d1 (e▸hj))
  obtain⟨q1,q2,q3,q4⟩:=DK.agree (N':=wt N i) (by rw [Dz];exact Nat.le_refl _) f.here.1 hN1
  obtain⟨N2,hrun,P2⟩:=ih mf (wt N i) k 4 s' (by omega) (hc.out i) q1 (by rw [q2];exact d2) f.in_
  have hlen2:N2.length=N.length:=by rw [P2.len,Dz]
  obtain⟨hnode2,_⟩:=P2.sub.node
  have hg:=F6 (FE P2.chk P2.sub.range)
  have hw:Fl n.seps (Dy e)=TA.length:=by rw [f.way,f.ta]
  have htids:(n.tids.set TA.length (DE (nd (fN N2) k)))=TA++DE (nd (fN N2) k)::TB:=by rw [f.tids,FA]
  have L' : Inner ⟨2,n.elems,n.kids,n.seps,TA++DE (nd (fN N2) k)::TB⟩ :=
   ⟨L.elems,L.two,L.eight,L.seps,by have h5:=L.tids;rw [f.tids] at h5;simpa using h5,L.kid,fun x hx=>by
    rcases List.mem_append.1 hx with hx | hx
    · exact L.tid x (by rw [f.tids];exact List.mem_append_left _ hx)
    · rcases List.mem_cons.1 hx with rfl | hx
      · exact hg
      · exact L.tid x (by rw [f.tids];exact List.mem_append_right _ (List.mem_cons_of_mem _ hx)),L.ok,L.ord⟩
  obtain⟨n',hn'⟩ : ∃ n' : DNode,n' = ⟨2,n.elems,n.kids,n.seps,TA++DE (nd (fN N2) k)::TB⟩:=⟨_,rfl⟩
  have e2:n'.kind=2:=by rw [hn']
  have ek:n'.kids=n.kids:=by rw [hn']
  have es:n'.seps=n.seps:=by rw [hn']
  have et:n'.tids=TA++DE (nd (fN N2) k)::TB:=by rw [hn']
  rw [← hn'] at L'
  have hc':=D0 e2 L'
  have hnd:nd (fN (v0 N2 i n')) i=n':=Hj (by rw [hlen2];exact hr)
  have hi2:i.toNat ∉ ids (fN N2) h k:=by rw [P2.ids,q2];exact d1
  obtain⟨r1,r2,r3,r4⟩:=DK.agree (N':=v0 N2 i n') (by rw [DB];exact Nat.le_refl _) P2.sub fun j hj=>DH N2 (fun e=>hi2 (e▸hj))
  have other : ∀ a,a∈A∨a∈B→∀ {m:Nat} {s:Span},DK (fN N) h a m s→_:=fun a ha m s c=>DK.agree (N:=N) (N':=v0 N2 i n') (by rw [DB,hlen2];exact Nat.le_refl _) c fun j hj=>by
   obtain⟨x1,x2⟩:=d3 a ha
   have hji:j≠i.toNat:=fun e=>x1 (e▸hj)
   rw [DH N2 hji,P2.out j (by rw [q2];exact x2 j hj),DR N hji]
  have hkids : ∀ a,a∈A∨a∈B→∃ t' s'',DK (fN N) h a 4 s''∧(∀ x∈Dx (fN N) h a,Dy x≠Dy e):=fun a ha=>by
   rcases ha with ha | ha
   · obtain⟨t',s'',x1,x2⟩:=f.lo a ha
     exact⟨t',s'',x1.1,fun x hx e=>by have:=x2 _ ((x1.1.elems hc).2 x hx).1;rw [e,DC.refl] at this;omega⟩
   · obtain⟨t',s'',x1,x2⟩:=f.hi a ha
     exact⟨t',s'',x1.1,fun x hx e=>by have:=x2 _ ((x1.1.elems hc).2 x hx).1;rw [e,DC.refl] at this;omega⟩
  have flat : ∀(l:List Int),(∀ a∈l,a∈A∨a∈B)→l.flatMap (ids (fN (v0 N2 i n')) h)=l.flatMap (ids (fN N) h) ∧
   l.flatMap (Dx (fN (v0 N2 i n')) h)=(l.flatMap (Dx (fN N) h)).map (EH e):=fun l hl=>by
   constructor
   · exact EX fun a ha=>by obtain ⟨t',s'',x1,_⟩:=hkids a (hl a ha);exact(other a (hl a ha) x1).2.1
   · rw [List.map_flatMap]
     exact DV fun a ha=>by obtain ⟨t',s'',x1,x2⟩:=hkids a (hl a ha);rw [(other a (hl a ha) x1).2.2.1,GM x2]
  refine⟨v0 N2 i n',?_,by rw [DB,hlen2],?_,?_,P2.chk.put hc',?_,?_,?_⟩
  · rw [hn']
    show Gv F e (Ae (Gv F e) mf) (N,i)=_
    have hfit:BF n ⟨2,n.elems,n.kids,n.seps,TA++DE (nd (fN N2) k)::TB⟩=some ():=Kw rfl rfl rfl (by rw [f.tids];simp)
    generalize Ae (Gv F e) mf=rf at hrun
    unfold Gv
    dsimp only
    rw [hnode,obs,hk2,show ((2:Int) == 1)=false from rfl,cond_false,DF,obs,Fj n _ (Ev (D0 hk2 L)),obs,f.way,f.kids,EA,obs,hrun,obs,obs,hnode2,obs,Ec P2.chk P2.sub.range,obs,f.tids,← f.ta,EA,obs,Int.toNat_natCast,FA]
    rw [f.kids] at hfit
    rw [hfit,obs]
  · intro j hj
    rw [ids,hnn,f.kids,List.flatMap_append,List.flatMap_cons] at hj
    simp only [List.mem_cons,List.mem_append,not_or] at hj
    rw [DH N2 hj.1,P2.out j (by rw [q2];exact hj.2.2.1),DR N hj.1]
  · intro j
    by_cases hji:j=i.toNat
    · subst hji
      unfold kd
      rw [DY _ (by rw [hlen2];omega),hat]
      show some n'.kind=some n.kind
      rw [hk2,e2]
    · have:=P2.kinds j
      rw [Fv] at this
      rw [← this]
      unfold kd;rw [DH N2 hji]
  · refine⟨?_,by rw [hnd,e2],by rw [hnd,ek];exact hmk,?_⟩
    · rw [DD,DB,hlen2];exact hr
    · rw [hnd,es,ek,et]
      have:=f.turn (GO (fN (v0 N2 i n')) h) (fun a t' s'' ha x=>⟨(other a ha x.1).1,by rw [(other a ha x.1).2.2.2];exact x.2⟩) [k] [] [DE (nd (fN N2) k)] ⟨k,_,rfl,rfl,r1,by rw [r4]⟩
      rw [f.kids,f.seps]
      simpa using this
  · rw [ids,hnd,ids,hnn,ek,f.kids,List.flatMap_append,List.flatMap_cons,List.flatMap_append,List.flatMap_cons,(flat A fun a ha=>.inl ha).1,(flat B fun a ha=>.inr ha).1,r2,P2.ids,q2]
  · rw [Dx,hnd,Dx,hnn,ek,f.kids,List.flatMap_append,List.flatMap_cons,List.flatMap_append,List.flatMap_cons,(flat A fun a ha=>.inl ha).2,(flat B fun a ha=>.inr ha).2,r3,P2.elems,q3,List.map_append,List.map_append]
end
section
def H4 (x:Int ⊕ DNode):Bool:=Ce x != 0
def used (N:NL):Nat:=N.countP H4
theorem Fa {x:Int ⊕ DNode}:H4 x=true↔Ce x≠0:=by unfold H4;simp
theorem H5 {N:NL}{i:Nat}{x:Int ⊕ DNode}(y:Int ⊕ DNode)(h:N[i]? = some x):used (N.set i y)+(if H4 x then 1 else 0)=used N+(if H4 y then 1 else 0):=by
 unfold used
 induction N generalizing i with
 | nil=>simp at h
 | cons a N ih =>
  cases i with
  | zero =>
   obtain rfl:a=x:=by simpa using h
   rw [List.set_cons_zero,List.countP_cons,List.countP_cons];omega
  | succ i =>
   have:=ih (i:=i) (by simpa using h)
   rw [List.set_cons_succ,List.countP_cons,List.countP_cons];omega
theorem K6 {N:NL}{i:Nat}{x y:Int ⊕ DNode}(h:N[i]? = some x)(hx:Ce x≠0)(hy:Ce y≠0):used (N.set i y)=used N:=by
 have:=H5 y h
 rw [if_pos (Fa.2 hx),if_pos (Fa.2 hy)] at this
 omega
theorem Ha (N:NL)(i:Int):used (wt N i)=used N:=by
 unfold wt
 rcases Nat.lt_or_ge i.toNat N.length with h | h
 · have hg:=gge h
   have:=H5 (.inl (((N[i.toNat]?).map Ce).getD 0)) hg
   have e:H4 (.inl (((N[i.toNat]?).map Ce).getD 0))=H4 N[i.toNat]:=by rw [hg];rfl
   rw [e] at this
   omega
 · rw [List.set_eq_of_length_le h]
theorem Fy {N:NL}{j:Nat}{x:Int ⊕ DNode}(h:N[j]? = some x):kd N j=some (Ce x):=by unfold kd;rw [h];rfl
theorem KD {N:NL}{j:Nat}{k:Int}(h:kd N j=some k):∃ x,N[j]? = some x∧Ce x=k:=Option.map_eq_some_iff.1 h
theorem LP {N:NL}(h : ∀(j:Nat) (x:Int ⊕ DNode),N[j]? = some x→Ce x≠0):used N=N.length :=
 List.countP_eq_length.2 fun x hx=>by
  obtain⟨j,hj⟩:=List.mem_iff_getElem?.1 hx
  exact Fa.2 (h j x hj)
structure Fr2 (N N' : NL) (I K:List Nat) (c:Nat):Prop where
 len:N.length≤N'.length
 cap:N'.length≤max N.length (used N')
 use:used N'≤used N+c
 out : ∀(j:Nat) (x:Int ⊕ DNode),j ∉ I→N[j]? = some x→Ce x≠0→N'[j]? = some x
 kept : ∀(j:Nat) (x:Int ⊕ DNode),N[j]? = some x→Ce x≠0→∃ y,N'[j]? = some y∧Ce y≠0
 new : ∀ j∈K,j∈I∨∀ x:Int ⊕ DNode,N[j]? = some x→Ce x=0
 all : ∀(j:Nat) (x:Int ⊕ DNode),N'[j]? = some x→Ce x≠0→j∈K∨(j ∉ I∧∃ y,N[j]? = some y∧Ce y≠0)
 nodup:K.Nodup
 chk:Em N'
 zero : ∀ j:Nat,N'[j]? = some (.inl 0)→N[j]? = some (.inl 0)
theorem Fr2.perm {N N' : NL}{I K K' : List Nat}{c:Nat}(h:Fr2 N N' I K c)(p:K.Perm K'):Fr2 N N' I K' c :=
 ⟨h.len,h.cap,h.use,h.out,h.kept,fun j hj=>h.new j (p.mem_iff.2 hj),fun j x hx hk=>(h.all j x hx hk).imp (fun q=>p.mem_iff.1 q) id,p.nodup_iff.1 h.nodup,h.chk,h.zero⟩
theorem Fr2.more {N N' : NL}{I K:List Nat}{c c' : Nat}(h:Fr2 N N' I K c)(hc:c≤c'):Fr2 N N' I K c' :=
 ⟨h.len,h.cap,Nat.le_trans h.use (by omega),h.out,h.kept,h.new,h.all,h.nodup,h.chk,h.zero⟩
theorem DK.used {N:NL}:∀ {h:Nat} {i:Int} {m:Nat} {s:Span},DK (fN N) h i m s→∀ j∈ids (fN N) h i,∃ n,N[j]? = some (.inr n)∧n.kind≠0:=by
 intro h
 induction h with
 | zero =>
  intro i m s c j hj
  obtain rfl:j=i.toNat:=by simpa [ids] using hj
  exact⟨_,c.node.2,c.kind⟩
 | succ h ih =>
  intro i m s c j hj
  rw [ids] at hj
  rcases List.mem_cons.1 hj with rfl | hj
  · exact⟨_,c.node.2,c.kind⟩
  · obtain⟨k,hk,hj⟩:=List.mem_flatMap.1 hj
    obtain⟨t,s',x,_⟩:=c.2.2.2.mem k hk
    exact ih x.1 j hj
theorem Fr2.start {N:NL}(hc:Em N){i:Int}{n:DNode}(hi:N[i.toNat]? = some (.inr n))(hk:n.kind≠0):Fr2 N (wt N i) [i.toNat] [i.toNat] 0:=by
 refine⟨by rw [Dz];exact Nat.le_refl _,by rw [Dz];exact Nat.le_max_left _ _,by rw [Ha];exact Nat.le_refl _,fun j x hj hx _=>by rw [DR N (by simpa using hj)];exact hx,fun j x hx hk=>?_,fun j hj=>.inl hj,fun j x hx hk=>?_,by simp,hc.out i,fun j hj=>?_⟩
 · have:=Fv N i j
   rw [Fy hx] at this
   obtain⟨y,hy,hyk⟩:=KD this
   exact⟨y,hy,by rw [hyk];exact hk⟩
 · by_cases hji:j=i.toNat
   · exact .inl (by simp [hji])
   · rw [DR N hji] at hx
     exact .inr ⟨by simpa using hji,x,hx,hk⟩
 · by_cases hji:j=i.toNat
   · subst hji
     have:=Fv N i i.toNat
     rw [Fy hj,Fy hi] at this
     exact absurd (Option.some.inj this).symm hk
   · rw [DR N hji] at hj;exact hj
theorem Fr2.up {N N2:NL}{i:Nat}{I1 I2 I3 K:List Nat}{c:Nat}{i' : Int}(hi:i'.toNat=i)(f:Fr2 (wt N i') N2 I2 K c)(hn:(i::(I1++(I2++I3))).Nodup)(hu : ∀ j∈i::(I1++(I2++I3)),∃ n:DNode,N[j]? = some (.inr n)∧n.kind≠0) :
 Fr2 N N2 (i::(I1++(I2++I3))) (i::(I1++(K++I3))) c:=by
 have hk : ∀(j:Nat) (x:Int ⊕ DNode),N[j]? = some x→Ce x≠0→∃ y,(wt N i')[j]? = some y∧Ce y≠0:=fun j x hx hxk=>by
  have:=Fv N i' j
  rw [Fy hx] at this
  obtain⟨y,hy,hyk⟩:=KD this
  exact⟨y,hy,by rw [hyk];exact hxk⟩
 have hk' : ∀(j:Nat) (x:Int ⊕ DNode),(wt N i')[j]? = some x→Ce x≠0→∃ y,N[j]? = some y∧Ce y≠0:=fun j x hx hxk=>by
  have:=Fv N i' j
  rw [Fy hx] at this
  obtain⟨y,hy,hyk⟩:=KD this.symm
  exact⟨y,hy,by rw [hyk];exact hxk⟩
 have hK : ∀ j∈K,j∈I2∨∀ x:Int ⊕ DNode,N[j]? = some x→Ce x=0:=fun j hj=>(f.new j hj).imp id fun h x hx=>by
  by_cases h0:Ce x=0
  · exact h0
  · obtain⟨y,hy,hyk⟩:=hk j x hx h0
    exact absurd (h y hy) hyk
 obtain⟨n1,n2⟩:=List.nodup_cons.1 hn
 obtain⟨n3,n4,n5⟩:=List.nodup_append.1 n2
 obtain⟨n6,n7,n8⟩:=List.nodup_append.1 n4
 have hKu : ∀ j∈K,j ∉ I2→∀ n:DNode,N[j]? = some (.inr n)→n.kind=0:=fun j hj hj2 n hx=>by
  rcases hK j hj with h | h
  · exact absurd h hj2
  · exact h _ hx
 have hne : ∀ j∈K,j∈i::(I1++(I2++I3))→j∈I2:=fun j hj hm=>by
  by_cases h2:j∈I2
  · exact h2
  · obtain⟨n,hx,hnk⟩:=hu j hm
    exact absurd (hKu j hj h2 n hx) hnk
 refine⟨by have:=f.len;rwa [Dz] at this,by have:=f.cap;rwa [Dz] at this,by have:=f.use;rwa [Ha] at this,fun j x hj hx hxk=>?_,fun j x hx hxk=>?_,fun j hj=>?_,fun j x hx hxk=>?_,?_,f.chk,fun j hj=>?_⟩
 · simp only [List.mem_cons,List.mem_append,not_or] at hj
   exact f.out j x hj.2.2.1 (by rw [DR N (by omega)];exact hx) hxk
 · obtain⟨y,hy,hyk⟩:=hk j x hx hxk
   exact f.kept j y hy hyk
 · simp only [List.mem_cons,List.mem_append] at hj ⊢
   rcases hj with h | h | h | h
   · exact .inl (.inl h)
   · exact .inl (.inr (.inl h))
   · exact(hK j h).imp (fun h=>.inr (.inr (.inl h))) id
   · exact .inl (.inr (.inr (.inr h)))
 · simp only [List.mem_cons,List.mem_append,not_or]
   rcases f.all j x hx hxk with h | ⟨h,y,hy,hyk⟩
   · exact .inl (.inr (.inr (.inl h)))
   · by_cases h0:j=i
     · exact .inl (.inl h0)
     by_cases h1:j∈I1
     · exact .inl (.inr (.inl h1))
     by_cases h3:j∈I3
     · exact .inl (.inr (.inr (.inr h3)))
     · exact .inr ⟨⟨h0,h1,h,h3⟩,hk' j y hy hyk⟩
 · refine List.nodup_cons.2 ⟨fun hm=>?_,List.nodup_append.2 ⟨n3,List.nodup_append.2 ⟨f.nodup,n7,fun a ha b hb e=>?_⟩,fun a ha b hb e=>?_⟩⟩
   · simp only [List.mem_append,not_or] at hm n1
     rcases hm with h | h | h
     · exact n1.1 h
     · exact n1.2.1 (hne i h List.mem_cons_self)
     · exact n1.2.2 h
   · subst e
     exact n8 a (hne a ha (by simp [hb])) a hb rfl
   · subst e
     rcases List.mem_append.1 hb with h | h
     · exact n5 a ha a (List.mem_append_left _ (hne a h (by simp [ha]))) rfl
     · exact n5 a ha a (List.mem_append_right _ h) rfl
 · have h0:=f.zero j hj
   by_cases hji:j=i'.toNat
   · subst hji
     obtain⟨n,hx,hnk⟩:=hu i List.mem_cons_self
     rw [← hi] at hx
     have:=Fv N i' i'.toNat
     rw [Fy h0,Fy hx] at this
     exact absurd (Option.some.inj this).symm hnk
   · rw [DR N hji] at h0;exact h0
theorem Fr2.put {N N2:NL}{I K:List Nat}{c:Nat}(f:Fr2 N N2 I K c){i:Int}(hI:i.toNat∈I)(hK:i.toNat∈K){x:Int ⊕ DNode}(hx:N2[i.toNat]? = some x)(hxk:Ce x≠0){n:DNode}(hn:n.kind≠0)(hc:DT n=0):Fr2 N (v0 N2 i n) I K c:=by
 have hlt:=(ggs.1 hx).1
 have hu:used (v0 N2 i n)=used N2:=K6 hx hxk hn
 refine⟨by rw [DB];exact f.len,by rw [DB,hu];exact f.cap,by rw [hu];exact f.use,fun j y hj hy hyk=>?_,fun j y hy hyk=>?_,f.new,fun j y hy hyk=>?_,f.nodup,f.chk.put hc,fun j hj=>?_⟩
 · rw [DH N2 (show j≠i.toNat from fun e=>hj (by rw [e];exact hI))];exact f.out j y hj hy hyk
 · by_cases hji:j=i.toNat
   · subst hji;exact⟨_,DY N2 hlt,hn⟩
   · rw [DH N2 hji];exact f.kept j y hy hyk
 · by_cases hji:j=i.toNat
   · subst hji;exact .inl hK
   · rw [DH N2 hji] at hy;exact f.all j y hy hyk
 · by_cases hji:j=i.toNat
   · subst hji;rw [DY N2 hlt] at hj;cases hj
   · rw [DH N2 hji] at hj;exact f.zero j hj
structure TakeP (N:NL) (n:DNode) (N' : NL) (j:Nat):Prop where
 at_:N'[j]? = some (.inr n)
 same : ∀ q,q≠j→N'[q]? = N[q]?
 free : ∀ x:Int ⊕ DNode,N[j]? = some x→Ce x=0
 len:N'.length=N.length∨N'.length=N.length+1∧j=N.length∧∀(q:Nat) (x:Int ⊕ DNode),N[q]? = some x→Ce x≠0
 use:Ce (.inr n)≠0→used N' = used N+1
theorem Fr2.take {N N2 N' : NL}{I K:List Nat}{c:Nat}(f:Fr2 N N2 I K c){n:DNode}{j:Nat}(t:TakeP N2 n N' j)(hn:n.kind≠0)(hc:DT n=0)(hK : ∀ q∈K,∃ x,N2[q]? = some x∧Ce x≠0):Fr2 N N' I (j::K) (c+1):=by
 have hu:=t.use hn
 have hjN : ∀ x:Int ⊕ DNode,N[j]? = some x→Ce x=0:=fun x hx=>by
  by_cases h0:Ce x=0
  · exact h0
  · obtain⟨y,hy,hyk⟩:=f.kept j x hx h0
    exact absurd (t.free y hy) hyk
 have hlen:N2.length≤N'.length:=by rcases t.len with h | ⟨h,_⟩ <;> omega
 refine⟨Nat.le_trans f.len hlen,?_,by rw [hu];have:=f.use;omega,fun q x hq hx hxk=>?_,fun q x hx hxk=>?_,fun q hq=>?_,fun q x hx hxk=>?_,List.nodup_cons.2 ⟨fun hj=>?_,f.nodup⟩,fun m hm=>?_,fun q hq=>?_⟩
 · rcases t.len with h | ⟨h,_,ha⟩
   · rw [h,hu];have:=f.cap;omega
   · have:=LP ha
     rw [hu,h,this];omega
 · have h1:=f.out q x hq hx hxk
   by_cases hqj:q=j
   · subst hqj;exact absurd (hjN x hx) hxk
   · rw [t.same q hqj];exact h1
 · obtain⟨y,hy,hyk⟩:=f.kept q x hx hxk
   by_cases hqj:q=j
   · subst hqj;exact⟨_,t.at_,hn⟩
   · exact⟨y,by rw [t.same q hqj];exact hy,hyk⟩
 · rcases List.mem_cons.1 hq with rfl | hq
   · exact .inr hjN
   · exact f.new q hq
 · by_cases hqj:q=j
   · subst hqj;exact .inl List.mem_cons_self
   · rw [t.same q hqj] at hx
     exact(f.all q x hx hxk).imp (List.mem_cons_of_mem _) id
 · obtain⟨x,hx,hxk⟩:=hK j hj
   exact hxk (t.free x hx)
 · obtain⟨x,hx,rfl⟩:=List.mem_map.1 hm
   obtain⟨q,hq⟩:=List.mem_iff_getElem?.1 hx
   by_cases hqj:q=j
   · subst hqj
     rw [t.at_] at hq
     obtain rfl:=Option.some.inj hq
     exact hc
   · rw [t.same q hqj] at hq
     exact f.chk _ (List.mem_map.2 ⟨x,List.mem_of_getElem? hq,rfl⟩)
 · by_cases hqj:q=j
   · subst hqj;rw [t.at_] at hq;cases hq
   · rw [t.same q hqj] at hq;exact f.zero q hq
end
section
def KH (F:Nat)(N:NL)(n:DNode):Option ((List (Int ⊕ DNode)) × Int) :=
 (iter (σ:=Int) (ρ:=(Unit) ⊕ ((List (Int ⊕ DNode)) × Int)) (fun x16 =>
  bif decide (x16<(N.length:Int)) then
   (Bl N x16).bind fun kd4 =>
   bif (kd4 == 0) then
    (xO N x16).bind fun u15 =>
    some (.inr (.inr ((v0 N x16 n),x16)))
   else
    some (.inl (IntKind.i64.wrap (x16+1)))
   else
    some (.inr (.inl ()))) F 0).bind fun z=>match z with
  | .inl _ =>
   (BP 104 (N.length+1)).bind fun u16 =>
   some ((N++[(Sum.inr n:Int ⊕ DNode)]),IntKind.i64.wrap (((N++[(Sum.inr n:Int ⊕ DNode)]).length:Int)-1))
  | .inr q=>some q
def Mz (F:Nat)(l:List DElem)(e:DElem):Option Int :=
 iter (σ:=Int) (ρ:=Int) (fun x15 =>
  (
   bif decide (x15<(l.length:Int)) then
    (idx l x15).bind fun e28 =>
    (wj e28).bind fun r68 =>
    (wj e).bind fun r69 =>
    (wF r68 r69).bind fun r70 =>
    some (decide (r70<0))
    else
     some false:Option (Bool)).bind fun z131 =>
   bif z131 then
    some (.inl (IntKind.i64.wrap (x15+1)))
   else
    some (.inr x15)) F 0
abbrev InsT:=(List (Int ⊕ DNode)) × Int × Int × Int × Int × Int × Bool
def IL (F:Nat)(e:DElem)(rf4:NL × Int→Option InsT)(x13:NL)(x14:Int)(n31:DNode):Option ((List DElem) × (List Int) × (List DSpot) × (List Int) × (List (Int ⊕ DNode))) :=
 bif (n31.kind == 1) then
  (Mz F n31.elems e).bind fun z130 =>
  (Cn 56 n31.elems z130 e).bind fun _ =>
  some ((wE n31.elems z130.toNat e),n31.kids,n31.seps,n31.tids,(wt x13 x14))
  else
   (wj e).bind fun r71 =>
   (yd F n31 r71).bind fun r72 =>
   (idx n31.kids r72).bind fun e29 =>
   (rf4 ((wt x13 x14),e29)).bind fun z=>match z with
    | (z132,z133,z134,z135,z136,z137,z138) =>
     (idx n31.kids r72).bind fun e30 =>
     (xp z132 e30).bind fun n32 =>
     (wy F n32).bind fun r73 =>
     (idx n31.tids r72).bind fun e31 =>
     bif z138 then
      (Cn 8 n31.kids (IntKind.i64.wrap (r72+1)) z137).bind fun _ =>
      (Cn 32 n31.seps r72 (DSpot.mk (DKey.mk z133 z134 z135) z136)).bind fun _ =>
      (xp z132 z137).bind fun n33 =>
      (wy F n33).bind fun r74 =>
      (Cn 8 (n31.tids.set r72.toNat r73) (IntKind.i64.wrap (r72+1)) r74).bind fun _ =>
      some (n31.elems,(wE n31.kids (IntKind.i64.wrap (r72+1)).toNat z137),(wE n31.seps r72.toNat (DSpot.mk (DKey.mk z133 z134 z135) z136)),(wE (n31.tids.set r72.toNat r73) (IntKind.i64.wrap (r72+1)).toNat r74),z132)
     else
      some (n31.elems,n31.kids,n31.seps,(n31.tids.set r72.toNat r73),z132)
def FX (k:Int)(z125:List DElem)(z126:List Int)(z127:List DSpot)(z128:List Int):Option ((List Int) × (List DSpot) × (List Int) × (List DElem) × (List DElem) × (List Int) × (List DSpot) × (List Int) × Int × Int × Int × Int × Int) :=
 bif (k == 1) then
  (wn z125 4 (z125.length:Int)).bind fun s25 =>
  (xT 56 ([]:List DElem) s25).bind fun _ =>
  (wn z125 0 4).bind fun s26 =>
  (idx s25 0).bind fun e33 =>
  (wj e33).bind fun r76 =>
  some ([],[],[],s25,s26,z126,z127,z128,r76.key.pfs,r76.key.obj,r76.key.off,r76.made,1)
  else
   (wn z126 4 (z126.length:Int)).bind fun s27 =>
   (wn z127 4 (z127.length:Int)).bind fun s28 =>
   (wn z128 4 (z128.length:Int)).bind fun s29 =>
   (xT 8 ([]:List Int) s27).bind fun y37 =>
   (xT 32 ([]:List DSpot) s28).bind fun y38 =>
   (xT 8 ([]:List Int) s29).bind fun y39 =>
   (idx z127 3).bind fun e34 =>
   (wn z126 0 4).bind fun s30 =>
   (wn z127 0 3).bind fun s31 =>
   (wn z128 0 4).bind fun s32 =>
   some (s29,s28,s27,[],z125,s30,s31,s32,e34.key.pfs,e34.key.obj,e34.key.off,e34.made,2)
def Hg (F:Nat)(e:DElem)(rf4:NL × Int→Option InsT)(x:NL × Int):Option InsT :=
 match x with
  | (x13,x14) =>
   (xp x13 x14).bind fun n31 =>
    (IL F e rf4 x13 x14 n31).bind fun z=>match z with
     | (z125,z126,z127,z128,z129) =>
      bif decide ((IntKind.i64.wrap ((z125.length:Int)+(z126.length:Int)))≤8) then
       (xO z129 x14).bind fun u13 =>
       some ((v0 z129 x14 (DNode.mk n31.kind z125 z126 z127 z128)),0,0,0,0,0,false)
      else
       (FX n31.kind z125 z126 z127 z128).bind fun z=>match z with
        | (z139,z140,z141,z142,z143,z144,z145,z146,z147,z148,z149,z150,z151) =>
         (xO z129 x14).bind fun u14 =>
         (KH F (v0 z129 x14 (DNode.mk n31.kind z143 z144 z145 z146)) (DNode.mk z151 z142 z141 z140 z139)).bind fun z=>match z with
          | (z152,z153) =>
           some (z152,z147,z148,z149,z150,z153,true)
def La (F:Nat)(e:DElem)(N:NL)(root:Int):Option (Int × NL) :=
 (Ae (σ:=(List (Int ⊕ DNode)) × Int) (ρ:=InsT) (Hg F e) F (N,root)).bind fun z=>match z with
  | (z39,z40,z41,z42,z43,z44,z45) =>
   bif (!z45) then
    some (root,z39)
   else
    (xp z39 root).bind fun n41 =>
    (xp z39 z44).bind fun n42 =>
    (wy F n41).bind fun r84 =>
    (wy F n42).bind fun r85 =>
    (KH F z39 (DNode.mk 2 [] [root,z44] [(DSpot.mk (DKey.mk z40 z41 z42) z43)] [r84,r85])).bind fun z=>match z with
     | (z154,z155) =>
      some (z155,z154)
variable {F:Nat} [Big F]
theorem JZ {N:NL}{k:Nat}{x:Int ⊕ DNode}(h:N[k]? = some x):Bl N (k:Int)=some (Ce x):=by
 unfold Bl;rw [if_neg (by omega),Int.toNat_natCast,h];rfl
theorem JI {N:NL}(n:DNode)(hl:N.length≤1000):∃ N' j,KH F N n=some (N',((j:Nat):Int))∧TakeP N n N' j:=by
 unfold KH
 rw [EK (ρ:=Unit ⊕ (List (Int ⊕ DNode) × Int)) N (fun k x=>if Ce x=0 then some (.inr (v0 N (k:Int) n,(k:Int))) else none) (.inl ()) (by omega) rfl ?hs ?he]
 case hs =>
  intro k x hk _
  have hkl:=(ggs.1 hk).1
  rw [decide_eq_true (by omega),cond_true,JZ hk,obs]
  by_cases h:Ce x=0
  · rw [show (Ce x == 0)=true by simpa using h,cond_true,FC ⟨by omega,by omega⟩,obs,if_pos h]
  · rw [show (Ce x == 0)=false by simpa using h,cond_false,if_neg h,w64 (by omega) (by omega)]
 case he=>rw [decide_eq_false (by omega),cond_false]
 rw [obs]
 cases hf:N.zipIdx.findSome? (fun p=>if Ce p.1=0 then some (Sum.inr (v0 N (p.2:Int) n,(p.2:Int)):Unit ⊕ (List (Int ⊕ DNode) × Int)) else none) with
 | some r =>
  obtain⟨k,x,hk,hr⟩:=FF (w:=fun k x=>if Ce x=0 then some (Sum.inr (v0 N (k:Int) n,(k:Int)):Unit ⊕ (List (Int ⊕ DNode) × Int)) else none) hf
  have hkl:=(ggs.1 hk).1
  split at hr
  · rename_i h0
    obtain rfl:=Option.some.inj hr
    refine⟨v0 N (k:Int) n,k,rfl,⟨?_,fun q hq=>?_,fun y hy=>?_,.inl (DB _ _ _),fun hn=>?_⟩⟩
    · have:=DY N (i:=(k:Int)) (n:=n) (by rw [Int.toNat_natCast];exact hkl)
      rwa [Int.toNat_natCast] at this
    · exact DH N (by rw [Int.toNat_natCast];exact hq)
    · rw [hk] at hy
      obtain rfl:=Option.some.inj hy
      exact h0
    · unfold v0
      rw [Int.toNat_natCast]
      have:=H5 (.inr n) hk
      rw [if_neg (fun h=>Fa.1 h h0),if_pos (Fa.2 hn)] at this
      omega
  · cases hr
 | none =>
  have hn:=(EW (w:=fun k x=>if Ce x=0 then some (Sum.inr (v0 N (k:Int) n,(k:Int)):Unit ⊕ (List (Int ⊕ DNode) × Int)) else none)).1 hf
  have hall : ∀(q:Nat) (x:Int ⊕ DNode),N[q]? = some x→Ce x≠0:=fun q x hx h0=>by
   have:=hn q x hx
   rw [if_pos h0] at this;cases this
  refine⟨N++[.inr n],N.length,?_,⟨by rw [List.getElem?_append_right (Nat.le_refl _)];simp,fun q hq=>?_,fun x hx=>?_,.inr ⟨by simp,rfl,hall⟩,fun hk=>?_⟩⟩
  · have hr:BP 104 (N.length+1)=some ():=by unfold BP;rw [if_pos ⟨by omega,by unfold maxLen;omega⟩]
    dsimp only [Option.getD_none]
    rw [hr,obs,List.length_append,List.length_singleton,w64 (by omega) (by omega)]
    congr 2;omega
  · rcases Nat.lt_or_ge q N.length with h | h
    · rw [List.getElem?_append_left h]
    · rw [List.getElem?_eq_none (by rw [List.length_append,List.length_singleton];omega),List.getElem?_eq_none h]
  · have:=(ggs.1 hx).1;omega
  · unfold used
    rw [List.countP_append,List.countP_singleton,if_pos (Fa.2 hk)]
theorem LN {α:Type}{p:α→Bool}{x:α}:∀ {l:List α},x∈l.takeWhile p→p x=true
 | [],h=>by simp at h
 | a::l,h=>by
  cases ha:p a with
  | true =>
   rw [List.takeWhile_cons_of_pos ha] at h
   rcases List.mem_cons.1 h with rfl | h
   · exact ha
   · exact LN h
  | false=>rw [List.takeWhile_cons_of_neg (by simp [ha])] at h;cases h
theorem L7 (l:List DElem)(e:DElem)(hl:l.length≤1000):∃ w:Nat,Mz F l e=some (w:Int)∧w≤l.length∧(∀ x∈l.take w,cmpS (Dy x) (Dy e)<0)∧∀ x,l[w]? = some x→¬ cmpS (Dy x) (Dy e)<0:=by
 obtain⟨w1,w2⟩ : (∀ x∈l.takeWhile (fun x=>decide (cmpS (Dy x) (Dy e)<0)),cmpS (Dy x) (Dy e)<0)∧∀ x,l[(l.takeWhile (fun x=>decide (cmpS (Dy x) (Dy e)<0))).length]? = some x→¬ cmpS (Dy x) (Dy e)<0:=by
  refine⟨fun x hx=>by simpa using LN hx,?_⟩
  clear hl
  induction l with
  | nil=>intro x hx;simp at hx
  | cons a l ih =>
   intro x hx
   by_cases h:cmpS (Dy a) (Dy e)<0
   · rw [List.takeWhile_cons_of_pos (by simpa using h),List.length_cons,List.getElem?_cons_succ] at hx
     exact ih x hx
   · rw [List.takeWhile_cons_of_neg (by simpa using h)] at hx
     obtain rfl:a=x:=by simpa using hx
     exact h
 have hpre:l.takeWhile (fun x=>decide (cmpS (Dy x) (Dy e)<0)) <+: l:=List.takeWhile_prefix _
 have hle:=hpre.length_le
 have ht:l.take (l.takeWhile (fun x=>decide (cmpS (Dy x) (Dy e)<0))).length=l.takeWhile (fun x=>decide (cmpS (Dy x) (Dy e)<0)):=(List.prefix_iff_eq_take.1 hpre).symm
 generalize hw:(l.takeWhile (fun x=>decide (cmpS (Dy x) (Dy e)<0))).length=w at *
 refine⟨w,?_,hle,by rw [ht];exact w1,w2⟩
 unfold Mz
 refine D8 (fun k=>(k:Int)) w rfl (by omega) (fun k hk=>?_) ?_
 · have hkl:k<l.length:=by omega
   have hg:l[k]? = some l[k]:=gge hkl
   have hmem:l[k]∈l.take w:=List.mem_of_getElem? (by rw [List.getElem?_take_of_lt hk];exact hg)
   rw [decide_eq_true (by omega),cond_true,DA,hg,obs,DF,obs,DF,obs,DN,obs,decide_eq_true (w1 _ (by rw [← ht];exact hmem)),obs,cond_true,w64 (by omega) (by omega)]
   rfl
 · by_cases h:w<l.length
   · have hg:l[w]? = some l[w]:=gge h
     rw [decide_eq_true (by omega),cond_true,DA,hg,obs,DF,obs,DF,obs,DN,obs,decide_eq_false (w2 _ hg),obs,cond_false]
   · rw [decide_eq_false (by omega),cond_false,obs,cond_false]
theorem IK {l:List DElem}{e:DElem}{w:Nat}(ho:l.Pairwise SpO)(hw:w≤l.length)(h1 : ∀ x∈l.take w,cmpS (Dy x) (Dy e)<0)(h2 : ∀ x,l[w]? = some x→¬ cmpS (Dy x) (Dy e)<0)(hne : ∀ x∈l,Dy x≠Dy e) :
 (wE l w e).Pairwise SpO∧∀ x,x∈wE l w e↔x=e∨x∈l:=by
 have ho':=ho
 rw [← List.take_append_drop w l] at ho'
 obtain⟨o1,o2,o3⟩:=List.pairwise_append.1 ho'
 have hd : ∀ x∈l.drop w,SpO e x:=fun x hx=>by
  have h0 : ∀ y,l[w]? = some y→SpO e y:=fun y hy=>by
   have h3:=h2 y hy
   have h4:=hne y (List.mem_of_getElem? hy)
   have h5:cmpS (Dy y) (Dy e)≠0:=fun h=>h4 ((DC.zero _ _).1 h)
   have h6:=DC.neg (Dy y) (Dy e)
   show cmpS (Dy e) (Dy y)<0
   omega
  obtain⟨q,hq⟩:=List.mem_iff_getElem?.1 hx
  rw [List.getElem?_drop] at hq
  cases q with
  | zero=>exact h0 x (by simpa using hq)
  | succ q =>
   have hlt:=(ggs.1 hq).1
   have hg:l[w]? = some l[w]:=gge (by omega)
   exact(h0 _ hg).trans (Ei ho (by omega) hg hq)
 unfold wE
 refine⟨List.pairwise_append.2 ⟨o1,List.pairwise_cons.2 ⟨hd,o2⟩,fun a ha b hb=>?_⟩,fun x=>?_⟩
 · rcases List.mem_cons.1 hb with rfl | hb
   · exact h1 a ha
   · exact o3 a ha b hb
 · conv=>rhs;rw [← List.take_append_drop w l]
   rw [List.mem_append,List.mem_cons,List.mem_append]
   constructor
   · rintro(h | h | h)
     · exact .inr (.inl h)
     · exact .inl h
     · exact .inr (.inr h)
   · rintro(h | h | h)
     · exact .inr (.inl h)
     · exact .inl h
     · exact .inr (.inr h)
structure InsPost (e:DElem) (N N' : NL) (h:Nat) (i:Int) (s:Span) (m:Nat) (R:List Int) (X:List DSpot):Prop where
 fr:Fr2 N N' (ids (fN N) h i) (R.flatMap (ids (fN N') h)) (h+1)
 ch:Ch (fun k t s'=>DK (fN N') h k m s'∧DE (nd (fN N') k)=t) X s R (R.map fun k=>DE (nd (fN N') k))
 elems : ∀ x,x∈R.flatMap (Dx (fN N') h)↔x=e∨x∈Dx (fN N) h i
theorem En {N N' : NL}{h:Nat}{X:List DSpot}{s:Span}{Ks Ts:List Int}(hl:N.length≤N'.length)(c:Ch (GO (fN N) h) X s Ks Ts)(hj : ∀ j∈Ks.flatMap (ids (fN N) h),N'[j]? = N[j]?) :
 Ch (GO (fN N') h) X s Ks Ts∧Ks.flatMap (ids (fN N') h)=Ks.flatMap (ids (fN N) h)∧Ks.flatMap (Dx (fN N') h)=Ks.flatMap (Dx (fN N) h):=by
 have key : ∀ k∈Ks,∀ {m:Nat} {s:Span},DK (fN N) h k m s→DK (fN N') h k m s∧ids (fN N') h k=ids (fN N) h k∧Dx (fN N') h k=Dx (fN N) h k∧nd (fN N') k=nd (fN N) k:=fun k hk {m s} x =>
  x.agree hl fun j hjk=>hj j (List.mem_flatMap.2 ⟨k,hk,hjk⟩)
 refine⟨c.mono fun k t s' hk x=>⟨(key k hk x.1).1,by rw [(key k hk x.1).2.2.2];exact x.2⟩,EX fun k hk=>?_,DV fun k hk=>?_⟩
 · obtain⟨t,s',x,_⟩:=c.mem k hk;exact(key k hk x.1).2.1
 · obtain⟨t,s',x,_⟩:=c.mem k hk;exact(key k hk x.1).2.2.1
theorem Ch.tmem {P:Int→Int→Span→Prop}:∀ {xs:List DSpot} {s:Span} {ks ts:List Int},Ch P xs s ks ts→∀ t∈ts,∃ k s',k∈ks∧P k t s'
 | [],s,ks,ts,⟨k,t,h1,h2,c⟩,q,hq=>by
  subst h1 h2
  rw [List.mem_singleton.1 hq];exact⟨k,s,List.mem_cons_self,c⟩
 | x::xs,s,ks,ts,⟨k,ks',t,ts',h1,h2,h3,h4,c⟩,q,hq=>by
  subst h1 h2
  rcases List.mem_cons.1 hq with rfl | hq
  · exact⟨k,_,List.mem_cons_self,h4⟩
  · obtain⟨k',s',i1,i2⟩:=c.tmem q hq
    exact⟨k',s',List.mem_cons_of_mem _ i1,i2⟩
theorem EP {N:NL}(hc:Em N)(hl:N.length≤400){h:Nat}{X:List DSpot}{s:Span}{Ks Ts:List Int}(c:Ch (GO (fN N) h) X s Ks Ts)(h2:2≤Ks.length)(h8:Ks.length≤8)(ho:X.Pairwise SpotO)(hx : ∀ x∈X,DG (zE x)=0) :
 Inner ⟨2,[],Ks,X,Ts⟩:=by
 have hlen:=c.lens
 refine⟨rfl,h2,h8,hlen.1,hlen.2,fun k hk=>?_,fun t ht=>?_,hx,ho⟩
 · obtain⟨t,s',x,_⟩:=c.mem k hk
   have:=x.1.range
   rw [DD] at this
   omega
 · obtain⟨k,s',_,x⟩:=c.tmem t ht
   rw [← x.2]
   exact F6 (FE hc x.1.range)
theorem DK.some_elem {ns:List DNode}(hns : ∀ n∈ns,DT n=0){h:Nat}{i:Int}{s:Span}(c:DK ns h i 4 s):∃ e,e∈Dx ns h i:=by
 have h0:=(HG hns h i 1 s (by decide)).2 (by unfold mOf;rw [if_pos (by decide)];exact c)
 have:=JT hns h i 1 s h0 (by decide)
 have h1:0<4 ^ (h+1):=Nat.pow_pos (by decide)
 exact List.exists_mem_of_length_pos (by omega)
theorem JV {l:List DElem}(hl:l.length=9)(ks:List Int)(xs:List DSpot)(ts:List Int):∃ x,l[4]? = some x∧FX 1 l ks xs ts=some ([],[],[],l.drop 4,l.take 4,ks,xs,ts,(Dy x).key.pfs,(Dy x).key.obj,(Dy x).key.off,(Dy x).made,1):=by
 have hg:l[4]? = some l[4]:=gge (by omega)
 refine⟨_,hg,?_⟩
 unfold FX
 have h1:wn l 4 (l.length:Int)=some (l.drop 4):=DQ (k:=4) (by omega)
 have h2:wn l 0 4=some (l.take 4):=D6 (k:=4) (by omega)
 have h3:idx (l.drop 4) 0=some l[4]:=by rw [show (0:Int)=((0:Nat):Int) from rfl,DA,List.getElem?_drop];exact hg
 rw [show ((1:Int) == 1)=true from rfl,cond_true,h1,obs,DL (by simp [hl]) (by simp [hl]),obs,h2,obs,h3,obs,DF,obs]
theorem Ji {ks:List Int}{xs:List DSpot}{ts:List Int}(hk:ks.length=9)(hx:xs.length=8)(ht:ts.length=9)(l:List DElem):∃ x,xs[3]? = some x∧FX 2 l ks xs ts=some (ts.drop 4,xs.drop 4,ks.drop 4,[],l,ks.take 4,xs.take 3,ts.take 4,x.key.pfs,x.key.obj,x.key.off,x.made,2):=by
 have hg:xs[3]? = some xs[3]:=gge (by omega)
 refine⟨_,hg,?_⟩
 unfold FX
 have h1:wn ks 4 (ks.length:Int)=some (ks.drop 4):=DQ (k:=4) (by omega)
 have h2:wn xs 4 (xs.length:Int)=some (xs.drop 4):=DQ (k:=4) (by omega)
 have h3:wn ts 4 (ts.length:Int)=some (ts.drop 4):=DQ (k:=4) (by omega)
 have h4:wn ks 0 4=some (ks.take 4):=D6 (k:=4) (by omega)
 have h5:wn xs 0 3=some (xs.take 3):=D6 (k:=3) (by omega)
 have h6:wn ts 0 4=some (ts.take 4):=D6 (k:=4) (by omega)
 have h7:idx xs 3=some xs[3]:=by rw [show (3:Int)=((3:Nat):Int) from rfl,DA];exact hg
 rw [show ((2:Int) == 1)=false from rfl,cond_false,h1,obs,h2,obs,h3,obs,DL (by simp [hk]) (by simp [hk]),obs,DL (by simp [hx]) (by simp [hx]),obs,DL (by simp [ht]) (by simp [ht]),obs,h7,obs,h4,obs,h5,obs,h6,obs]
end
section
variable {F:Nat} [Big F]
theorem Fr2.cong {N N' : NL}{I I' K K' : List Nat}{c:Nat}(f:Fr2 N N' I K c)(h1:I=I')(h2:K=K'):Fr2 N N' I' K' c:=by subst h1 h2;exact f
theorem FY {N:NL}{i:Int}{n:DNode}(h:N[i.toNat]? = some (.inr n)):nd (fN N) i=n:=by unfold nd;rw [F2,h];rfl
def JJ (F:Nat)(e:DElem)(N:NL)(h mf:Nat)(i:Int)(s:Span)(m:Nat):Prop :=
 ∃(N' : NL) (sp:DSpot) (r:Int) (b:Bool),Ae (Hg F e) mf (N,i)=some (N',sp.key.pfs,sp.key.obj,sp.key.off,sp.made,r,b) ∧
  ((b=false∧InsPost e N N' h i s m [i] [])∨(b=true∧DG (zE sp)=0∧InsPost e N N' h i s 4 [i,r] [sp]))
def z0:DSpot:=⟨⟨0,0,0⟩,0⟩
omit [Big F] in
theorem HQ {e:DElem}{rf:NL × Int→Option InsT}{N N2:NL}{i:Int}{n:DNode}{l:List DElem}{ks:List Int}{xs:List DSpot}{ts:List Int}(hn:xp N i=some n)(hm:IL F e rf N i n=some (l,ks,xs,ts,N2))(h8:l.length+ks.length≤8)(hi:0≤i∧i<(N2.length:Int)) :
 Hg F e rf (N,i)=some (v0 N2 i ⟨n.kind,l,ks,xs,ts⟩,0,0,0,0,0,false):=by
 unfold Hg
 dsimp only
 rw [hn,obs,hm,obs]
 dsimp only
 rw [w64 (by omega) (by omega),decide_eq_true (by omega),cond_true,FC hi,obs]
theorem HP {e:DElem}{rf:NL × Int→Option InsT}{N N2:NL}{i:Int}{n:DNode}{l:List DElem}{ks:List Int}{xs:List DSpot}{ts:List Int}(hn:xp N i=some n)(hm:IL F e rf N i n=some (l,ks,xs,ts,N2))(h8:l.length+ks.length=9)(hi:0≤i∧i<(N2.length:Int))(hl:N2.length≤1000)
 {r1:List Int} {r2:List DSpot} {r3:List Int} {r4 l1:List DElem} {l2:List Int} {l3:List DSpot} {l4:List Int} {sp:DSpot} {k:Int} (hh:FX n.kind l ks xs ts=some (r1,r2,r3,r4,l1,l2,l3,l4,sp.key.pfs,sp.key.obj,sp.key.off,sp.made,k)) :
 ∃ N' j,Hg F e rf (N,i)=some (N',sp.key.pfs,sp.key.obj,sp.key.off,sp.made,((j:Nat):Int),true)∧TakeP (v0 N2 i ⟨n.kind,l1,l2,l3,l4⟩) ⟨k,r4,r3,r2,r1⟩ N' j:=by
 obtain⟨N',j,h1,h2⟩:=JI (F:=F) (N:=v0 N2 i ⟨n.kind,l1,l2,l3,l4⟩) ⟨k,r4,r3,r2,r1⟩ (by rw [DB];exact hl)
 refine⟨N',j,?_,h2⟩
 unfold Hg
 dsimp only
 rw [hn,obs,hm,obs]
 dsimp only
 rw [w64 (by omega) (by omega),decide_eq_false (by omega),cond_false,hh,obs]
 dsimp only
 rw [FC hi,obs,h1,obs]
theorem Lv {e:DElem}(he:DG e=0){mf:Nat}{N:NL}{i:Int}{m:Nat}{s:Span}(hm:0<mf)(hc:Em N)(hl:N.length≤400)(c:DK (fN N) 0 i m s)(hs:inS s (Dy e)=true)(hne : ∀ x∈Dx (fN N) 0 i,Dy x≠Dy e):JJ F e N 0 mf i s m:=by
 obtain⟨mf,rfl⟩ : ∃ q,mf=q+1:=⟨mf-1,by omega⟩
 have L:=c.leaf hc
 have hr:=c.range
 rw [DD] at hr
 obtain⟨hnode,hat⟩:=c.node
 have hk0:=c.kind
 obtain⟨_,hk1,hmk,hin⟩:=c
 have hne' : ∀ x∈(nd (fN N) i).elems,Dy x≠Dy e:=hne
 have hel : ∀ x,x∈Dx (fN N) 0 i↔x∈(nd (fN N) i).elems:=fun x=>Iff.rfl
 generalize hnn:nd (fN N) i=n at *
 obtain⟨w,hw,hwl,hw1,hw2⟩:=L7 (F:=F) n.elems e (by have:=L.len;omega)
 obtain⟨so,sm⟩:=IK L.ord hwl hw1 hw2 hne'
 have hlen:=xQ e hwl
 have h8:=L.len
 generalize hl' : wE n.elems w e=l' at *
 have hok : ∀ x∈l',DG x=0:=fun x hx=>by
  rcases (sm x).1 hx with rfl | hx
  · exact he
  · exact L.ok x hx
 have hin' : ∀ x∈l',inS s (Dy x)=true:=fun x hx=>by
  rcases (sm x).1 hx with rfl | hx
  · exact hs
  · exact hin x hx
 have hM : ∀ rf,IL F e rf N i n=some (l',[],[],[],wt N i):=fun rf=>by
  unfold IL
  rw [hk1,show ((1:Int) == 1)=true from rfl,cond_true,hw,obs]
  unfold Cn
  rw [if_pos ⟨by omega,by omega,by omega,by unfold maxLen;omega⟩,obs,Int.toNat_natCast,hl',L.kids,L.seps,L.tids]
 have fr0:=Fr2.start hc hat hk0
 have hat1 : ∃ x,(wt N i)[i.toNat]? = some x∧Ce x≠0:=by
  have:=Fv N i i.toNat
  rw [Fy hat] at this
  obtain⟨x,hx,hxk⟩:=KD this
  exact⟨x,hx,by rw [hxk];exact hk0⟩
 obtain⟨x1,hx1,hxk1⟩:=hat1
 have hI:ids (fN N) 0 i=[i.toNat]:=rfl
 by_cases hs8:l'.length≤8
 · have Lf:Leaf ⟨1,l',[],[],[]⟩:=⟨rfl,rfl,rfl,hs8,hok,so⟩
   have hck:=Fh (n:=⟨1,l',[],[],[]⟩) rfl Lf
   have hnd:nd (fN (v0 (wt N i) i ⟨1,l',[],[],[]⟩)) i=⟨1,l',[],[],[]⟩:=Hj (by rw [Dz];exact hr)
   refine⟨v0 (wt N i) i ⟨1,l',[],[],[]⟩,z0,0,false,?_,.inl ⟨rfl,⟨?_,?_,?_⟩⟩⟩
   · show Hg F e (Ae (Hg F e) mf) (N,i)=_
     rw [HQ hnode (hM _) (by simpa using hs8) (by rw [Dz];exact hr),hk1];rfl
   · exact((fr0.put List.mem_cons_self List.mem_cons_self hx1 hxk1 (show (1:Int)≠0 by decide) hck).more (Nat.zero_le _)).cong rfl (by simp [ids])
   · refine⟨i,_,rfl,rfl,⟨?_,by rw [hnd],by rw [hnd];show m≤l'.length;omega,by rw [hnd];exact hin'⟩,rfl⟩
     rw [DD,DB,Dz];exact hr
   · intro x
     rw [hel,← sm x,List.flatMap_singleton]
     show x∈(nd _ i).elems↔_
     rw [hnd]
 · have h9:l'.length=9:=by omega
   obtain⟨x,hx,hh⟩:=JV h9 [] [] []
   rw [← hk1] at hh
   obtain⟨N',j,hB,tk⟩:=HP (sp:=Dy x) hnode (hM (Ae (Hg F e) mf)) (by simpa using h9) (by rw [Dz];exact hr) (by rw [Dz];omega) hh
   rw [hk1] at tk
   have e48:l' = l'.take 4++l'.drop 4:=(List.take_append_drop 4 l').symm
   have hso:=so
   rw [e48] at hso
   obtain⟨o1,o2,o3⟩:=List.pairwise_append.1 hso
   have hl1:(l'.take 4).length=4:=by rw [List.length_take];omega
   have hl2:(l'.drop 4).length=5:=by rw [List.length_drop];omega
   have hxd : ∃ r,l'.drop 4=x::r:=by
    have h4:4<l'.length:=by omega
    rw [gge h4] at hx
    obtain rfl:=Option.some.inj hx
    exact⟨_,List.drop_eq_getElem_cons h4⟩
   obtain⟨rr,hrr⟩:=hxd
   have Lf1:Leaf ⟨1,l'.take 4,[],[],[]⟩:=⟨rfl,rfl,rfl,by show (l'.take 4).length≤8;omega,fun y hy=>hok y (List.mem_of_mem_take hy),o1⟩
   have Lf2:Leaf ⟨1,l'.drop 4,[],[],[]⟩:=⟨rfl,rfl,rfl,by show (l'.drop 4).length≤8;omega,fun y hy=>hok y (List.mem_of_mem_drop hy),o2⟩
   have hck1:=Fh (n:=⟨1,l'.take 4,[],[],[]⟩) rfl Lf1
   have hck2:=Fh (n:=⟨1,l'.drop 4,[],[],[]⟩) rfl Lf2
   have fr1:=fr0.put List.mem_cons_self List.mem_cons_self hx1 hxk1 (n:=⟨1,l'.take 4,[],[],[]⟩) (show (1:Int)≠0 by decide) hck1
   have hat2:(v0 (wt N i) i ⟨1,l'.take 4,[],[],[]⟩)[i.toNat]? = some (.inr ⟨1,l'.take 4,[],[],[]⟩):=DY _ (by rw [Dz];omega)
   have fr2:=fr1.take tk (show (1:Int)≠0 by decide) hck2 fun q hq=>by
    obtain rfl:q=i.toNat:=by simpa using hq
    exact⟨_,hat2,show (1:Int)≠0 by decide⟩
   have hij:i.toNat≠j:=fun h=>by
    subst h
    exact absurd (tk.free _ hat2) (show (1:Int)≠0 by decide)
   have hNi:N'[i.toNat]? = some (.inr ⟨1,l'.take 4,[],[],[]⟩):=by rw [tk.same _ hij];exact hat2
   have hnd1:nd (fN N') i=⟨1,l'.take 4,[],[],[]⟩:=FY hNi
   have hnd2:nd (fN N') (j:Int)=⟨1,l'.drop 4,[],[],[]⟩:=GX (by rw [F2,tk.at_];rfl)
   have hjl:j<N'.length:=(ggs.1 tk.at_).1
   have hil:i.toNat<N'.length:=(ggs.1 hNi).1
   have hxs:inS s (Dy x)=true:=hin' x (List.mem_of_mem_drop (by rw [hrr];exact List.mem_cons_self))
   refine⟨N',Dy x,(j:Int),true,hB,.inr ⟨rfl,I0 (hok x (List.mem_of_mem_drop (by rw [hrr];exact List.mem_cons_self))),⟨?_,?_,?_⟩⟩⟩
   · refine((fr2.more (by omega)).perm (K':=[i.toNat,j]) (List.Perm.swap _ _ _)).cong rfl ?_
     simp [ids]
   · refine⟨i,[(j:Int)],_,_,rfl,rfl,hxs,⟨⟨?_,by rw [hnd1],by rw [hnd1];show 4≤(l'.take 4).length;omega,?_⟩,rfl⟩,(j:Int),_,rfl,rfl,⟨?_,by rw [hnd2],by rw [hnd2];show 4≤(l'.drop 4).length;omega,?_⟩,rfl⟩
     · rw [DD];omega
     · rw [hnd1]
       intro y hy
       exact Et.2 ⟨(DW.1 (hin' y (List.mem_of_mem_take hy))).1,o3 y hy x (by rw [hrr];exact List.mem_cons_self)⟩
     · rw [DD];omega
     · rw [hnd2]
       intro y hy
       refine Fp.2 ⟨?_,(DW.1 (hin' y (List.mem_of_mem_drop hy))).2⟩
       have hy' : y∈x::rr:=by rw [← hrr];exact hy
       rw [hrr] at o2
       rcases List.mem_cons.1 hy' with rfl | hy'
       · rw [DC.refl];decide
       · have:cmpS (Dy x) (Dy y)<0:=(List.pairwise_cons.1 o2).1 y hy'
         omega
   · intro y
     rw [hel,← sm y,List.flatMap_cons,List.flatMap_singleton]
     show y∈(nd _ i).elems++(nd _ (j:Int)).elems↔_
     rw [hnd1,hnd2]
     show y∈l'.take 4++l'.drop 4↔_
     rw [← e48]
theorem Hn (l:List DElem)(a:List Int)(b:List DSpot)(c:List Int):(DNode.mk 2 l a b c).kind≠0:=show (2:Int)≠0 by decide
theorem LZ {e:DElem}{N N2:NL}{h mf:Nat}{i:Int}{m:Nat}{s:Span}{n:DNode}{Ks:List Int}{Xs:List DSpot}{Ts:List Int}(hnode:xp N i=some n)(hk2:n.kind=2)(hM:IL F e (Ae (Hg F e) mf) N i n=some ([],Ks,Xs,Ts,N2))(hi:0≤i∧i<(N2.length:Int))(hl2:N2.length≤400)
 (fr:Fr2 N N2 (ids (fN N) (h+1) i) (i.toNat::Ks.flatMap (ids (fN N2) h)) (h+1)) (hole : ∃ x,N2[i.toNat]? = some x∧Ce x≠0) (c:Ch (GO (fN N2) h) Xs s Ks Ts) (h2:2≤Ks.length) (h9:Ks.length≤9) (hm:m≤Ks.length) (ho:Xs.Pairwise SpotO) (hx : ∀ x∈Xs,DG (zE x)=0)
 (el : ∀ x,x∈Ks.flatMap (Dx (fN N2) h)↔x=e∨x∈Dx (fN N) (h+1) i):JJ F e N (h+1) (mf+1) i s m:=by
 have hI:i.toNat∈ids (fN N) (h+1) i:=DK.head _ _
 have hc2:=fr.chk
 obtain⟨x1,hx1,hxk1⟩:=hole
 have hiK:i.toNat ∉ Ks.flatMap (ids (fN N2) h):=(List.nodup_cons.1 fr.nodup).1
 have hlens:=c.lens
 by_cases h8:Ks.length≤8
 · have hck:=D0 (n:=⟨2,[],Ks,Xs,Ts⟩) rfl (EP hc2 hl2 c h2 h8 ho hx)
   have hnd:nd (fN (v0 N2 i ⟨2,[],Ks,Xs,Ts⟩)) i=⟨2,[],Ks,Xs,Ts⟩:=Hj hi
   obtain⟨a1,a2,a3⟩:=En (N':=v0 N2 i ⟨2,[],Ks,Xs,Ts⟩) (by rw [DB];exact Nat.le_refl _) c fun j hj=>DH N2 (show j≠i.toNat from fun h=>hiK (by rw [← h];exact hj))
   refine⟨v0 N2 i ⟨2,[],Ks,Xs,Ts⟩,z0,0,false,?_,.inl ⟨rfl,⟨?_,?_,?_⟩⟩⟩
   · show Hg F e (Ae (Hg F e) mf) (N,i)=_
     rw [HQ hnode hM (by simpa using h8) hi,hk2];rfl
   · refine((fr.put hI List.mem_cons_self hx1 hxk1 (Hn _ _ _ _) hck).more (by omega)).cong rfl ?_
     rw [List.flatMap_singleton,ids,hnd,a2]
   · refine⟨i,_,rfl,rfl,⟨?_,by rw [hnd],by rw [hnd];exact hm,by rw [hnd];exact a1⟩,rfl⟩
     rw [DD,DB];exact hi
   · intro x
     rw [List.flatMap_singleton,Dx,hnd,a3]
     exact el x
 · have hk9:Ks.length=9:=by omega
   obtain⟨sp,hsp,hh⟩:=Ji hk9 (show Xs.length=8 by omega) (show Ts.length=9 by omega) []
   rw [← hk2] at hh
   obtain⟨N',j,hB,tk⟩:=HP hnode hM (by simpa using hk9) hi (by omega) hh
   rw [hk2] at tk
   have h3:3<Xs.length:=by omega
   have hspx:Xs[3]=sp:=by rw [gge h3] at hsp;exact Option.some.inj hsp
   have eX:Xs=Xs.take 3++sp::Xs.drop 4:=by rw [← hspx];exact FO Xs h3
   have eK:Ks=Ks.take 4++Ks.drop 4:=(List.take_append_drop 4 Ks).symm
   have eT:Ts=Ts.take 4++Ts.drop 4:=(List.take_append_drop 4 Ts).symm
   have l1:(Ks.take 4).length=4:=by rw [List.length_take];omega
   have l2:(Xs.take 3).length=3:=by rw [List.length_take];omega
   have l3:(Ts.take 4).length=4:=by rw [List.length_take];omega
   have l4:(Ks.drop 4).length=5:=by rw [List.length_drop];omega
   have c':=c
   rw [eX,eK,eT] at c'
   have ho':=ho
   rw [eX] at ho'
   obtain⟨s1,s2,s3⟩:=Ch.split (by omega) (by omega) ho' c'
   obtain⟨o1,o2,o3⟩:=List.pairwise_append.1 ho'
   have hck1:=D0 (n:=⟨2,[],Ks.take 4,Xs.take 3,Ts.take 4⟩) rfl (EP hc2 hl2 s2 (by omega) (by omega) o1 fun x h=>hx x (List.mem_of_mem_take h))
   have hck2:=D0 (n:=⟨2,[],Ks.drop 4,Xs.drop 4,Ts.drop 4⟩) rfl (EP hc2 hl2 s3 (by omega) (by omega) (List.pairwise_cons.1 o2).2 fun x h=>hx x (List.mem_of_mem_drop h))
   have fr1:=fr.put hI List.mem_cons_self hx1 hxk1 (Hn [] (Ks.take 4) (Xs.take 3) (Ts.take 4)) hck1
   have hat2:(v0 N2 i ⟨2,[],Ks.take 4,Xs.take 3,Ts.take 4⟩)[i.toNat]? = some (.inr ⟨2,[],Ks.take 4,Xs.take 3,Ts.take 4⟩):=DY _ (by omega)
   have hKu : ∀ q∈Ks.flatMap (ids (fN N2) h),∃ n:DNode,N2[q]? = some (.inr n)∧n.kind≠0:=fun q hq=>by
    obtain⟨k,hk,hq⟩:=List.mem_flatMap.1 hq
    obtain⟨t,s',x,_⟩:=c.mem k hk
    exact x.1.used q hq
   have hne : ∀ q∈Ks.flatMap (ids (fN N2) h),q≠i.toNat:=fun q hq h=>hiK (by rw [← h];exact hq)
   have fr2:=fr1.take tk (Hn _ _ _ _) hck2 fun q hq=>by
    rcases List.mem_cons.1 hq with rfl | hq
    · exact⟨_,hat2,Hn _ _ _ _⟩
    · obtain⟨y,hy,hyk⟩:=hKu q hq
      exact⟨.inr y,by rw [DH N2 (hne q hq)];exact hy,hyk⟩
   have hij:i.toNat≠j:=fun h=>by
    subst h
    exact absurd (tk.free _ hat2) (Hn _ _ _ _)
   have hNi:N'[i.toNat]? = some (.inr ⟨2,[],Ks.take 4,Xs.take 3,Ts.take 4⟩):=by rw [tk.same _ hij];exact hat2
   have hnd1:nd (fN N') i=⟨2,[],Ks.take 4,Xs.take 3,Ts.take 4⟩:=FY hNi
   have hnd2:nd (fN N') (j:Int)=⟨2,[],Ks.drop 4,Xs.drop 4,Ts.drop 4⟩:=FY (by rw [Int.toNat_natCast];exact tk.at_)
   have hjl:j<N'.length:=(ggs.1 tk.at_).1
   have hil:i.toNat<N'.length:=(ggs.1 hNi).1
   have hlen:N2.length≤N'.length:=by rcases tk.len with h | ⟨h,_⟩ <;> rw [DB] at h <;> omega
   have hag : ∀ q∈Ks.flatMap (ids (fN N2) h),N'[q]? = N2[q]?:=fun q hq=>by
    have hqj:q≠j:=fun h=>by
     subst h
     obtain⟨y,hy,hyk⟩:=hKu q hq
     exact absurd (tk.free (.inr y) (by rw [DH N2 (hne q hq)];exact hy)) hyk
    rw [tk.same q hqj,DH N2 (hne q hq)]
   have sub1 : ∀ q∈(Ks.take 4).flatMap (ids (fN N2) h),q∈Ks.flatMap (ids (fN N2) h):=fun q hq=>by
    rw [eK,List.flatMap_append];exact List.mem_append_left _ hq
   have sub2 : ∀ q∈(Ks.drop 4).flatMap (ids (fN N2) h),q∈Ks.flatMap (ids (fN N2) h):=fun q hq=>by
    rw [eK,List.flatMap_append];exact List.mem_append_right _ hq
   obtain⟨a1,a2,a3⟩:=En hlen s2 fun q hq=>hag q (sub1 q hq)
   obtain⟨b1,b2,b3⟩:=En hlen s3 fun q hq=>hag q (sub2 q hq)
   refine⟨N',sp,(j:Int),true,hB,.inr ⟨rfl,hx sp (by rw [eX];simp),⟨?_,?_,?_⟩⟩⟩
   · refine(fr2.perm (K':=i.toNat::((Ks.take 4).flatMap (ids (fN N2) h)++j::(Ks.drop 4).flatMap (ids (fN N2) h))) ?_).cong rfl ?_
     · rw [show Ks.flatMap (ids (fN N2) h)=(Ks.take 4).flatMap (ids (fN N2) h)++(Ks.drop 4).flatMap (ids (fN N2) h) by rw [← List.flatMap_append,← eK]]
       exact(List.Perm.swap _ _ _).trans (List.Perm.cons _ List.perm_middle.symm)
     · rw [List.flatMap_cons,List.flatMap_singleton,ids,ids,hnd1,hnd2,a2,b2,Int.toNat_natCast];rfl
   · refine⟨i,[(j:Int)],_,_,rfl,rfl,s1,⟨⟨?_,by rw [hnd1],by rw [hnd1];show 4≤(Ks.take 4).length;omega,by rw [hnd1];exact a1⟩,rfl⟩,(j:Int),_,rfl,rfl,⟨?_,by rw [hnd2],by rw [hnd2];show 4≤(Ks.drop 4).length;omega,by rw [hnd2];exact b1⟩,rfl⟩
     · rw [DD];omega
     · rw [DD];omega
   · intro x
     rw [← el x,List.flatMap_cons,List.flatMap_singleton,Dx,Dx,hnd1,hnd2]
     show x∈(Ks.take 4).flatMap _++(Ks.drop 4).flatMap _↔_
     rw [a3,b3,← List.flatMap_append,← eK]
theorem IZ (sp:DSpot):DSpot.mk (DKey.mk sp.key.pfs sp.key.obj sp.key.off) sp.made=sp:=rfl
theorem Lu {e:DElem}(he:DG e=0):∀(h mf:Nat) (N:NL) (i:Int) (m:Nat) (s:Span),h<mf→Em N→N.length≤400→used N+(h+1)≤400→DK (fN N) h i m s→(ids (fN N) h i).Nodup→inS s (Dy e)=true→(∀ x∈Dx (fN N) h i,Dy x≠Dy e) →
 JJ F e N h mf i s m:=by
 intro h
 induction h with
 | zero=>exact fun mf N i m s hm hc hl _ c _ hs hne=>Lv he hm hc hl c hs hne
 | succ h ih =>
  intro mf N i m s hm hc hl hu c hn hs hne
  obtain⟨mf,rfl⟩ : ∃ q,mf=q+1:=⟨mf-1,by omega⟩
  have L:=c.inner hc
  have hr:=c.range
  rw [DD] at hr
  have hus:=c.used
  obtain⟨hnode,hat⟩:=c.node
  have hk0:=c.kind
  obtain⟨_,hk2,hmk,hch⟩:=c
  obtain⟨A,k,B,XA,XB,TA,t,TB,s',f⟩:=JU L.seps L.tids L.ord hch hs
  have hids:ids (fN N) (h+1) i=i.toNat::(A.flatMap (ids (fN N) h)++(ids (fN N) h k++B.flatMap (ids (fN N) h))):=by
   rw [ids,f.kids,List.flatMap_append,List.flatMap_cons]
  have hels:Dx (fN N) (h+1) i=A.flatMap (Dx (fN N) h)++(Dx (fN N) h k++B.flatMap (Dx (fN N) h)):=by
   rw [Dx,f.kids,List.flatMap_append,List.flatMap_cons]
  generalize hnn:nd (fN N) i=n at *
  have hn0:=hn
  rw [ids,hnn,f.kids] at hn
  obtain⟨d1,d2,d3⟩:=Gb hn
  have hN1 : ∀ j∈ids (fN N) h k,(wt N i)[j]? = N[j]?:=fun j hj=>DR N (fun e=>d1 (e▸hj))
  obtain⟨q1,q2,q3,q4⟩:=DK.agree (N':=wt N i) (by rw [Dz];exact Nat.le_refl _) f.here.1 hN1
  obtain⟨N2,sp,r,b,hrun,hpost⟩:=ih mf (wt N i) k 4 s' (by omega) (hc.out i) (by rw [Dz];exact hl) (by rw [Ha];omega) q1 (by rw [q2];exact d2) f.in_ (fun x hx=>hne x (by rw [hels,← q3];simp [hx]))
  have hw:Fl n.seps (Dy e)=A.length:=f.way
  have hkl:n.kids.length=A.length+B.length+1:=by rw [f.kids];simp;omega
  have h8:=L.eight
  have hta:=f.ta
  have hxa:=f.xa
  obtain⟨R,X,P,hXp,hXc,hRl,hXo,hM⟩ : ∃ R X,InsPost e (wt N i) N2 h k s' 4 R X∧(∀ x∈X,DG (zE x)=0)∧X.length+1=R.length∧R.length≤2∧(XA++(X++XB)).Pairwise SpotO ∧
   IL F e (Ae (Hg F e) mf) N i n=some ([],A++(R++B),XA++(X++XB),TA++(R.map (fun k=>DE (nd (fN N2) k))++TB),N2):=by
   have hord:=L.ord
   rw [f.seps] at hord
   have hcall : ∀(K:InsT→Option ((List DElem) × (List Int) × (List DSpot) × (List Int) × (List (Int ⊕ DNode)))),True:=fun _=>trivial
   rcases hpost with ⟨rfl,P⟩ | ⟨rfl,hsp,P⟩
   · refine⟨[k],[],P,by simp,rfl,by simp,by simpa using hord,?_⟩
     obtain⟨k',t',e1,e2,x⟩:=P.ch
     obtain rfl:k=k':=by simpa using e1
     unfold IL
     rw [hk2,show ((2:Int) == 1)=false from rfl,cond_false,DF,obs,Fj n _ (Ev (D0 hk2 L)),obs,hw,f.kids,EA,obs,hrun,obs]
     dsimp only
     rw [obs,x.1.node.1,obs,Ec P.fr.chk x.1.range,obs,f.tids,← hta,EA,obs,cond_false,Int.toNat_natCast,FA,L.elems,f.seps]
     simp
   · obtain⟨k',ks',t',ts',e1,e2,i1,x,k2,t2,e3,e4,y⟩:=P.ch
     obtain⟨rfl,rfl⟩ : k=k'∧[r]=ks':=by simpa using e1
     obtain rfl:r=k2:=by simpa using e3
     refine⟨[k,r],[sp],P,by simpa using hsp,rfl,by simp,?_,?_⟩
     · obtain⟨p1,p2,p3⟩:=List.pairwise_append.1 hord
       obtain⟨y0,hy0⟩:=x.1.some_elem P.fr.chk
       have hy1:=(Et.1 ((x.1.elems P.fr.chk).2 y0 hy0).1)
       have hy2:=ED i1 ((x.1.elems P.fr.chk).2 y0 hy0).1
       have hlo : ∀ z∈XA,SpotO z sp:=fun z hz=>GC (f.loX z hz _ hy2) hy1.2
       have hhi : ∀ z∈XB,SpotO sp z:=fun z hz=>f.hiX z hz sp i1
       refine List.pairwise_append.2 ⟨p1,List.pairwise_cons.2 ⟨hhi,p2⟩,fun a ha b hb=>?_⟩
       rcases List.mem_cons.1 hb with rfl | hb
       · exact hlo a ha
       · exact p3 a ha b hb
     · have hXl:n.seps.length=A.length+B.length:=by have:=L.seps;omega
       have htl:(TA++DE (nd (fN N2) k)::TB).length=A.length+B.length+1:=by have:=f.tb;simp;omega
       unfold IL
       rw [hk2,show ((2:Int) == 1)=false from rfl,cond_false,DF,obs,Fj n _ (Ev (D0 hk2 L)),obs,hw,f.kids,EA,obs,hrun,obs]
       dsimp only
       rw [obs,x.1.node.1,obs,Ec P.fr.chk x.1.range,obs,f.tids,show idx (TA++t::TB) (A.length:Int)=some t by rw [← hta];exact EA _ _ _,obs,cond_true,w64 (by omega) (by omega),Int.toNat_natCast,show (TA++t::TB).set A.length (DE (nd (fN N2) k))=TA++DE (nd (fN N2) k)::TB by rw [← hta];exact FA _ _ _ _,IZ]
       have hi1:Cn 8 (A++k::B) ((A.length:Int)+1) r=some (A++(k::r::B)):=by
        unfold Cn
        rw [if_pos ⟨by omega,by simp;omega,by simp;omega,by unfold maxLen;simp;omega⟩,show ((A.length:Int)+1).toNat=A.length+1 by omega]
        unfold wE
        rw [show A++k::B=(A++[k])++B by simp,List.take_left' (by simp),List.drop_left' (by simp)];simp
       have hi2:Cn 32 n.seps (A.length:Int) sp=some (XA++sp::XB):=by
        unfold Cn
        rw [if_pos ⟨by omega,by omega,by omega,by unfold maxLen;omega⟩,Int.toNat_natCast]
        unfold wE
        rw [f.seps,List.take_left' hxa,List.drop_left' hxa]
       have hi3:Cn 8 (TA++DE (nd (fN N2) k)::TB) ((A.length:Int)+1) (DE (nd (fN N2) r))=some (TA++(DE (nd (fN N2) k)::DE (nd (fN N2) r)::TB)):=by
        unfold Cn
        rw [if_pos ⟨by omega,by omega,by omega,by unfold maxLen;omega⟩,show ((A.length:Int)+1).toNat=A.length+1 by omega]
        unfold wE
        rw [show TA++DE (nd (fN N2) k)::TB=(TA++[DE (nd (fN N2) k)])++TB by simp,List.take_left' (by simp;omega),List.drop_left' (by simp;omega)];simp
       obtain⟨_,_,_,_,j1⟩:=zn hi1
       obtain⟨_,_,_,_,j2⟩:=zn hi2
       obtain⟨_,_,_,_,j3⟩:=zn hi3
       rw [Int.toNat_natCast] at j2
       rw [hi1,obs,hi2,obs,y.1.node.1,obs,Ec P.fr.chk y.1.range,obs,hi3,obs,j1,j2,j3,L.elems]
       simp
  have hl2:N2.length≤400:=by
   have h1:=P.fr.cap
   have h2:=P.fr.use
   rw [Dz] at h1
   rw [Ha] at h2
   omega
  have hr2:0≤i∧i<(N2.length:Int):=by
   have:=P.fr.len
   rw [Dz] at this
   omega
  have hab : ∀ a,a∈A∨a∈B→∀ j∈ids (fN N) h a,N2[j]? = N[j]?:=fun a ha j hj=>by
   obtain⟨x1,x2⟩:=d3 a ha
   obtain⟨y,hy,hyk⟩:=hus j (by
    rw [hids]
    rcases ha with ha | ha
    · simp only [List.mem_cons,List.mem_append,List.mem_flatMap];exact .inr (.inl ⟨a,ha,hj⟩)
    · simp only [List.mem_cons,List.mem_append,List.mem_flatMap];exact .inr (.inr (.inr ⟨a,ha,hj⟩)))
   have hji:j≠i.toNat:=fun e=>x1 (e▸hj)
   rw [P.fr.out j (.inr y) (by rw [q2];exact x2 j hj) (by rw [DR N hji];exact hy) hyk,hy]
  have hlen2:N.length≤N2.length:=by have:=P.fr.len;rwa [Dz] at this
  have other : ∀ a,a∈A∨a∈B→∀ {m:Nat} {s:Span},DK (fN N) h a m s→_:=fun a ha m s c=>DK.agree (N:=N) (N':=N2) hlen2 c (hab a ha)
  have c2:=f.turn (GO (fN N2) h) (fun a t' s'' ha x=>⟨(other a ha x.1).1,by rw [(other a ha x.1).2.2.2];exact x.2⟩) R X _ P.ch
  have hkids : ∀ a,a∈A∨a∈B→∃ t' s'',DK (fN N) h a 4 s'':=fun a ha=>by
   rcases ha with ha | ha
   · obtain⟨t',s'',x1,_⟩:=f.lo a ha;exact⟨t',s'',x1.1⟩
   · obtain⟨t',s'',x1,_⟩:=f.hi a ha;exact⟨t',s'',x1.1⟩
  have flat : ∀(l:List Int),(∀ a∈l,a∈A∨a∈B)→l.flatMap (ids (fN N2) h)=l.flatMap (ids (fN N) h)∧l.flatMap (Dx (fN N2) h)=l.flatMap (Dx (fN N) h):=fun l hl=>by
   constructor
   · exact EX fun a ha=>by obtain ⟨t',s'',x1⟩:=hkids a (hl a ha);exact(other a (hl a ha) x1).2.1
   · exact DV fun a ha=>by obtain ⟨t',s'',x1⟩:=hkids a (hl a ha);exact(other a (hl a ha) x1).2.2.1
  have fr:=P.fr.up (i:=i.toNat) (I1:=A.flatMap (ids (fN N) h)) (I3:=B.flatMap (ids (fN N) h)) rfl (by rw [q2,← hids];exact hn0) (fun j hj=>hus j (by rw [hids,← q2];exact hj))
  rw [q2,← hids] at fr
  have hK:(A++(R++B)).flatMap (ids (fN N2) h)=A.flatMap (ids (fN N) h)++(R.flatMap (ids (fN N2) h)++B.flatMap (ids (fN N) h)):=by
   rw [List.flatMap_append,List.flatMap_append,(flat A fun a ha=>.inl ha).1,(flat B fun a ha=>.inr ha).1]
  refine LZ hnode hk2 hM hr2 hl2 (fr.cong rfl (by rw [hK])) (fr.kept _ _ hat hk0) c2 ?_ ?_ ?_ hXo ?_ ?_
  · have:=L.two;simp;omega
  · simp;omega
  · simp;omega
  · intro x hx
    rcases List.mem_append.1 hx with hx | hx
    · exact L.ok x (by rw [f.seps];exact List.mem_append_left _ hx)
    · rcases List.mem_append.1 hx with hx | hx
      · exact hXp x hx
      · exact L.ok x (by rw [f.seps];exact List.mem_append_right _ hx)
  · intro x
    have hp:=P.elems x
    rw [q3] at hp
    rw [List.flatMap_append,List.flatMap_append,(flat A fun a ha=>.inl ha).2,(flat B fun a ha=>.inr ha).2,hels,List.mem_append,List.mem_append,hp,List.mem_append,List.mem_append]
    constructor
    · rintro(h | (h | h) | h)
      · exact .inr (.inl h)
      · exact .inl h
      · exact .inr (.inr (.inl h))
      · exact .inr (.inr (.inr h))
    · rintro(h | h | h | h)
      · exact .inr (.inl (.inl h))
      · exact .inl h
      · exact .inr (.inl (.inr h))
      · exact .inr (.inr h)
end
section
variable {F:Nat} [Big F] {α:Type}
theorem J4 {f:Int→Option (Int ⊕ (Unit ⊕ Int))}(l:List α)(p:α→Bool)(hn:l.length≤9223372036854775807)
 (hs : ∀(k:Nat) (x:α),l[k]? = some x→f (k:Int)=some (if p x then .inr (.inr (k:Int)) else .inl ((k:Int)+1)))
 (he:f (l.length:Int)=some (.inr (.inl ()))):iter f F 0=some (match l.findIdx? p with | some i=>.inr (i:Int) | none=>.inl ()):=by
 cases h:l.findIdx? p with
 | none =>
  rw [List.findIdx?_eq_none_iff] at h
  refine D8 (fun k=>(k:Int)) l.length (show (0:Int)=_ from rfl) hn (fun k hk=>?_) he
  rw [hs k _ (gge hk),h _ (List.getElem_mem hk)];rfl
 | some i =>
  rw [List.findIdx?_eq_some_iff_getElem] at h
  obtain⟨hi,h1,h2⟩:=h
  refine D8 (fun k=>(k:Int)) i (show (0:Int)=_ from rfl) (by omega) (fun k hk=>?_) ?_
  · rw [hs k _ (gge (by omega)),if_neg (h2 k hk)];rfl
  · show f (i:Int)=_
    rw [hs i _ (gge hi),if_pos h1]
def dst (q:α→Bool)(l:List α)(i0:Nat):Nat→List α × Nat
 | 0=>(l,i0)
 | k+1=>match l[i0+1+k]? with
  | some x=>if q x then ((dst q l i0 k).1.set (dst q l i0 k).2 x,(dst q l i0 k).2+1) else dst q l i0 k
  | none=>dst q l i0 k
theorem Kv (q:α→Bool)(l:List α)(i0:Nat)(h0:(l.take (i0+1)).filter q=l.take i0)(hi:i0<l.length):∀ k,i0+1+k≤l.length →
 (dst q l i0 k).1.length=l.length∧(dst q l i0 k).2<i0+1+k∧(dst q l i0 k).1.take (dst q l i0 k).2=(l.take (i0+1+k)).filter q∧(dst q l i0 k).1.drop (i0+1+k)=l.drop (i0+1+k)
 | 0,_=>⟨rfl,by show i0<_;omega,by show l.take i0=_;exact h0.symm,rfl⟩
 | k+1,hk=>by
  obtain⟨h1,h2,h3,h4⟩:=Kv q l i0 h0 hi k (by omega)
  have hlt:i0+1+k<l.length:=by omega
  have hx:=gge hlt
  have ht:l.take (i0+1+(k+1))=l.take (i0+1+k)++[l[i0+1+k]]:=by rw [show i0+1+(k+1)=(i0+1+k)+1 by omega,List.take_add_one,hx];rfl
  have h5:(dst q l i0 k).1.drop (i0+1+(k+1))=l.drop (i0+1+(k+1)):=by
   rw [show i0+1+(k+1)=(i0+1+k)+1 by omega,← List.drop_drop,h4,List.drop_drop]
  rw [dst,hx]
  dsimp only
  rw [ht,List.filter_append]
  by_cases hq:q l[i0+1+k]=true
  · rw [if_pos hq]
    dsimp only
    refine⟨by rw [List.length_set,h1],by omega,?_,?_⟩
    · rw [List.take_add_one,List.take_set_of_le (Nat.le_refl _),h3,List.getElem?_set,if_pos rfl,if_pos (by omega)]
      simp [hq]
    · rw [List.drop_set_of_lt (by omega),h5]
  · rw [if_neg hq]
    refine⟨h1,by omega,?_,h5⟩
    rw [h3];simp [hq]
theorem KT {f:List α × Int × Int→Option ((List α × Int × Int) ⊕ (List α × Int))}(l:List α)(q:α→Bool)(i0:Nat)(hi:i0<l.length)(hn:l.length≤9223372036854775806)(h0:(l.take (i0+1)).filter q=l.take i0)
 (hs : ∀(A:List α) (i j:Nat) (x:α),A.length=l.length→i<j→A[j]? = some x→f (A,(i:Int),(j:Int))=some (.inl (if q x then A.set i x else A,if q x then (i:Int)+1 else (i:Int),(j:Int)+1)))
 (he : ∀(A:List α) (i:Nat),A.length=l.length→f (A,(i:Int),(l.length:Int))=some (.inr (A,(i:Int)))) :
 ∃(A:List α) (i:Nat),iter f F (l,(i0:Int),(i0:Int)+1)=some (A,(i:Int))∧A.length=l.length∧i≤l.length∧A.take i=l.filter q:=by
 have inv:=Kv q l i0 h0 hi
 obtain⟨e1,e2,e3,e4⟩:=inv (l.length-(i0+1)) (by omega)
 refine⟨_,_,D8 (fun k=>((dst q l i0 k).1,((dst q l i0 k).2:Int),((i0+1+k:Nat):Int))) (l.length-(i0+1)) (r:=((dst q l i0 (l.length-(i0+1))).1,((dst q l i0 (l.length-(i0+1))).2:Int))) rfl (by omega) (fun k hk=>?_) ?_,e1,by omega,?_⟩
 · obtain⟨h1,h2,h3,h4⟩:=inv k (by omega)
   have hlt:i0+1+k<l.length:=by omega
   have hx:(dst q l i0 k).1[i0+1+k]? = some l[i0+1+k]:=by
    have:=congrArg (fun m=>m[0]?) h4
    simp only [List.getElem?_drop,Nat.add_zero] at this
    rw [this,gge hlt]
   rw [hs _ _ _ _ h1 h2 hx]
   have hd:dst q l i0 (k+1)=if q l[i0+1+k] then ((dst q l i0 k).1.set (dst q l i0 k).2 l[i0+1+k],(dst q l i0 k).2+1) else dst q l i0 k:=by
    conv=>lhs;rw [dst,gge hlt]
   rw [hd]
   by_cases hq:q l[i0+1+k]=true
   · simp only [hq,if_true];rfl
   · simp only [hq,if_false];rfl
 · rw [show i0+1+(l.length-(i0+1))=l.length by omega]
   exact he _ _ e1
 · rw [e3,show i0+1+(l.length-(i0+1))=l.length by omega,List.take_length]
theorem IG {l:List α}{q:α→Bool}{i:Nat}(h:l.findIdx? (fun x=>!q x)=some i):i<l.length∧(l.take (i+1)).filter q=l.take i:=by
 rw [List.findIdx?_eq_some_iff_getElem] at h
 obtain⟨hi,h1,h2⟩:=h
 refine⟨hi,?_⟩
 rw [List.take_add_one,gge hi,List.filter_append]
 have hq:q l[i]=false:=by simpa using h1
 have:(l.take i).filter q=l.take i:=by
  rw [List.filter_eq_self]
  intro x hx
  obtain⟨j,hj,rfl⟩:=List.getElem_of_mem hx
  rw [List.length_take] at hj
  rw [List.getElem_take]
  simpa using h2 j (by omega)
 rw [this];simp [hq]
theorem K3 (A m:List α)(i:Nat)(h:i≤A.length):(over A i m).take i=A.take i:=by
 unfold over
 rw [List.append_assoc,List.take_append_of_le_length (by rw [List.length_take];omega),List.take_take,Nat.min_self]
end
section
abbrev RemT:=(List Int) × (List DSpot) × (List Int) × (List (Int ⊕ DNode))
def Mm (F:Nat)(l:List DElem)(p1:DSpot):Option (List DElem) :=
 (
  (
   (iter (σ:=Int) (ρ:=(Unit) ⊕ Int) (fun x3 =>
    bif decide (x3<(l.length:Int)) then
     (idx l x3).bind fun e1 =>
     (
      (wj e1).bind fun r8 =>
       some (r8 == p1):Option (Bool)).bind fun z6 =>
     bif z6 then
      some (.inr (.inr x3))
     else
      some (.inl (IntKind.i64.wrap (x3+1)))
     else
      some (.inr (.inl ()))) F 0).bind fun z=>match z with
    | .inl _ =>
     some (-1)
    | .inr q=>some q:Option (Int)).bind fun z5 =>
   bif (z5 == (-1)) then
    some l
   else
    (iter (σ:=(List DElem) × Int × Int) (ρ:=(List DElem) × Int) (fun x=>match x with
     | (x4,x5,x6) =>
      bif decide (x6<(x4.length:Int)) then
       (
        (idx x4 x6).bind fun e2 =>
         (
          (wj e2).bind fun r9 =>
           some (r9 == p1):Option (Bool)).bind fun z11 =>
         bif (!z11) then
          (idx x4 x5).bind fun e3 =>
          some ((x4.set x5.toNat e2),IntKind.i64.wrap (x5+1))
         else
          some (x4,x5):Option ((List DElem) × Int)).bind fun z=>match z with
        | (z9,z10) =>
         some (.inl (z9,z10,IntKind.i64.wrap (x6+1)))
       else
        some (.inr (x4,x5))) F (l,z5,IntKind.i64.wrap (z5+1))).bind fun z=>match z with
     | (z7,z8) =>
      (wn z7 z8 (z7.length:Int)).bind fun s2 =>
      (wn (over z7 z8.toNat (List.replicate s2.length ((DElem.mk (DKey.mk 0 0 0) 0 0 (ByteArray.mk #[])):DElem))) 0 z8).bind fun s3 =>
      some s3:Option ((List DElem)))
def Kz (n5 n6:DNode)(e10:DSpot):Option (List DSpot) :=
 (
  (xT 56 n5.elems n6.elems).bind fun _ =>
   (
    bif (n5.kind == 2) then
     (xT 32 n5.seps [e10]).bind fun y4 =>
     (xT 32 (n5.seps++[e10]) n6.seps).bind fun y5 =>
     some ((n5.seps++[e10])++n6.seps)
     else
      some n5.seps:Option ((List DSpot))).bind fun z23 =>
   (xT 8 n5.kids n6.kids).bind fun _ =>
   (xT 8 n5.tids n6.tids).bind fun _ =>
   some z23:Option ((List DSpot)))
def Mh (F:Nat)(n1:DNode)(r10 r11:Int)(z12:NL)(z21 e8 e9:Int)(n5 n6:DNode)(z22:List DSpot):Option RemT :=
 bif decide ((8:Int)<(IntKind.i64.wrap (((n5.elems++n6.elems).length:Int)+((n5.kids++n6.kids).length:Int)))) then
  (FX n5.kind (n5.elems++n6.elems) (n5.kids++n6.kids) z22 (n5.tids++n6.tids)).bind fun z=>match z with
   | (z28,z29,z30,z31,z32,z33,z34,z35,z36,z37,z38,z39,z40) =>
    (xO (wt z12 e8) e8).bind fun u2 =>
    (xO (v0 (wt z12 e8) e8 (DNode.mk n5.kind z32 z33 z34 z35)) e9).bind fun u3 =>
    (idx n1.seps z21).bind fun e15 =>
    (wy F (DNode.mk z40 z31 z30 z29 z28)).bind fun r25 =>
    (idx (n1.tids.set r10.toNat r11) (IntKind.i64.wrap (z21+1))).bind fun e16 =>
    some (n1.kids,(n1.seps.set z21.toNat (DSpot.mk (DKey.mk z36 z37 z38) z39)),((n1.tids.set r10.toNat r11).set ((IntKind.i64.wrap (z21+1)).toNat) r25),(v0 (v0 (wt z12 e8) e8 (DNode.mk n5.kind z32 z33 z34 z35)) e9 (DNode.mk z40 z31 z30 z29 z28)))
  else
   (xO (wt z12 e8) e8).bind fun u4 =>
   (xO (v0 (wt z12 e8) e8 (DNode.mk n5.kind (n5.elems++n6.elems) (n5.kids++n6.kids) z22 (n5.tids++n6.tids))) e9).bind fun u5 =>
   (CG n1.kids (IntKind.i64.wrap (z21+1)) (IntKind.i64.wrap (z21+2))).bind fun _ =>
   (CG n1.seps z21 (IntKind.i64.wrap (z21+1))).bind fun _ =>
   (CG (n1.tids.set r10.toNat r11) (IntKind.i64.wrap (z21+1)) (IntKind.i64.wrap (z21+2))).bind fun _ =>
   some ((xf n1.kids (IntKind.i64.wrap (z21+1)).toNat (IntKind.i64.wrap (z21+2)).toNat),(xf n1.seps z21.toNat (IntKind.i64.wrap (z21+1)).toNat),(xf (n1.tids.set r10.toNat r11) (IntKind.i64.wrap (z21+1)).toNat (IntKind.i64.wrap (z21+2)).toNat),(v0 (v0 (wt z12 e8) e8 (DNode.mk n5.kind (n5.elems++n6.elems) (n5.kids++n6.kids) z22 (n5.tids++n6.tids))) e9 (DNode.mk 0 [] [] [] [])))
def Jh (F:Nat)(n1:DNode)(r10 r11:Int)(z12:NL):Option RemT :=
 (
  (
   bif (r10 == (IntKind.i64.wrap ((n1.kids.length:Int)-1))) then
    some (IntKind.i64.wrap (r10-1))
    else
     some r10:Option (Int)).bind fun z21 =>
   (idx n1.kids z21).bind fun e8 =>
   (idx n1.kids (IntKind.i64.wrap (z21+1))).bind fun e9 =>
   (xp z12 e8).bind fun n5 =>
   (xp (wt z12 e8) e9).bind fun n6 =>
   (idx n1.seps z21).bind fun e10 =>
   (Kz n5 n6 e10).bind fun z22 =>
   (Mh F n1 r10 r11 z12 z21 e8 e9 n5 n6 z22).bind fun z=>match z with
    | (z24,z25,z26,z27) =>
     (xp z27 e8).bind fun n13 =>
     (wy F n13).bind fun r30 =>
     (idx z26 z21).bind fun e19 =>
     some (z24,z25,(z26.set z21.toNat r30),z27):Option RemT)
def MB (F:Nat)(n1 n4:DNode)(r10 r11:Int)(z12:NL):Option RemT :=
 bif decide ((IntKind.i64.wrap ((n4.elems.length:Int)+(n4.kids.length:Int)))<4) then
  (Jh F n1 r10 r11 z12).bind fun z=>match z with
   | (z17,z18,z19,z20) =>
    some (z17,z18,z19,z20)
  else
   some (n1.kids,n1.seps,(n1.tids.set r10.toNat r11),z12)
def Ib (F:Nat)(p1:DSpot)(rf1:NL × Int→Option NL)(x:NL × Int):Option NL :=
 match x with
  | (x1,x2) =>
   (xp x1 x2).bind fun n1 =>
    bif (n1.kind == 1) then
     (Mm F n1.elems p1).bind fun z4 =>
     (xO (wt x1 x2) x2).bind fun u1 =>
     some (v0 (wt x1 x2) x2 (DNode.mk n1.kind z4 n1.kids n1.seps n1.tids))
    else
     (yd F n1 p1).bind fun r10 =>
     (idx n1.kids r10).bind fun e5 =>
     (rf1 ((wt x1 x2),e5)).bind fun z12 =>
     (idx n1.kids r10).bind fun e6 =>
     (xp z12 e6).bind fun n4 =>
     (wy F n4).bind fun r11 =>
     (idx n1.tids r10).bind fun e7 =>
     (MB F n1 n4 r10 r11 z12).bind fun z=>match z with
      | (z13,z14,z15,z16) =>
       (xO z16 x2).bind fun u6 =>
       some (v0 z16 x2 (DNode.mk n1.kind n1.elems z13 z14 z15))
def L6 (F:Nat)(p1:DSpot)(N:NL)(root:Int):Option (NL × Int) :=
 (Ae (σ:=(List (Int ⊕ DNode)) × Int) (ρ:=(List (Int ⊕ DNode))) (Ib F p1) F (N,root)).bind fun q2 =>
  (
   (xp q2 root).bind fun n15 =>
    bif ((n15.kids.length:Int) == 1) then
     (xO (wt q2 root) root).bind fun u7 =>
     (idx n15.kids 0).bind fun e22 =>
     some (e22,(v0 (wt q2 root) root (DNode.mk 0 [] [] [] [])))
    else
     some (root,(v0 (wt q2 root) root n15)):Option (Int × (List (Int ⊕ DNode)))).bind fun z=>match z with
   | (z41,z42) =>
    some (z42,z41)
variable {F:Nat} [Big F]
def Fm (sp:DSpot)(e:DElem):Bool:=!(Dy e == sp)
theorem LS (l:List DElem)(sp:DSpot)(hl:l.length≤1000):Mm F l sp=some (l.filter (Fm sp)):=by
 unfold Mm
 rw [J4 l (fun x=>Dy x == sp) (by omega) (fun n x hx=>?_) (by simp)]
 · rw [obs]
   have hq:(fun x:DElem=>Dy x == sp)=fun x=>!(Fm sp x):=by funext x;simp [Fm]
   cases hf:l.findIdx? (fun x=>Dy x == sp) with
   | none =>
    dsimp only
    rw [obs,show ((-1:Int) == -1)=true from rfl,cond_true,List.filter_eq_self.2 fun x hx=>?_]
    rw [List.findIdx?_eq_none_iff] at hf
    simpa [Fm] using hf x hx
   | some n =>
    dsimp only
    rw [obs,show ((n:Int) == -1)=false by rw [beq_eq_false_iff_ne];omega,cond_false]
    rw [hq] at hf
    obtain⟨hn,h0⟩:=IG hf
    rw [w64 (n:=(n:Int)+1) (by omega) (by omega)]
    obtain⟨A,m,e1,e2,e3,e4⟩:=KT (F:=F) (f:=fun x=>match x with
     | (x4,x5,x6) =>
      bif decide (x6<(x4.length:Int)) then
       (
        (idx x4 x6).bind fun e2 =>
         (
          (wj e2).bind fun r9 =>
           some (r9 == sp):Option (Bool)).bind fun z11 =>
         bif (!z11) then
          (idx x4 x5).bind fun e3 =>
          some ((x4.set x5.toNat e2),IntKind.i64.wrap (x5+1))
         else
          some (x4,x5):Option ((List DElem) × Int)).bind fun z=>match z with
        | (z9,z10) =>
         some (.inl (z9,z10,IntKind.i64.wrap (x6+1)))
       else
        some (.inr (x4,x5))) l (Fm sp) n hn (by omega) h0 (fun A i j x hA hij hx=>by
     have hjl:=(ggs.1 hx).1
     dsimp only
     rw [decide_eq_true (by omega),cond_true,DA,DA,hx,obs,DF,obs,obs,gge (show i<A.length by omega),obs,w64 (by omega) (by omega),w64 (by omega) (by omega),Int.toNat_natCast]
     unfold Fm
     cases Dy x == sp <;> rfl) (fun A i hA=>by
     dsimp only
     rw [decide_eq_false (by omega)];rfl)
    refine Eq.trans (congrArg (fun z=>Option.bind z _) e1) ?_
    rw [obs]
    dsimp only
    rw [Hh (by omega) (by omega) (by omega),obs,Int.toNat_natCast,D6 (by rw [xh _ _ _ (by simp;omega)];omega),obs,K3 _ _ _ (by omega),e4]
 · have hnl:=(ggs.1 hx).1
   rw [decide_eq_true (by omega),cond_true,DA,hx,obs,DF,obs,obs,w64 (by omega) (by omega)]
   cases Dy x == sp <;> rfl
theorem Jj {l:List DElem}(hl:5≤l.length)(hl' : l.length≤100)(ks:List Int)(xs:List DSpot)(ts:List Int):∃ x,l[4]? = some x∧FX 1 l ks xs ts=some ([],[],[],l.drop 4,l.take 4,ks,xs,ts,(Dy x).key.pfs,(Dy x).key.obj,(Dy x).key.off,(Dy x).made,1):=by
 have hg:l[4]? = some l[4]:=gge (by omega)
 refine⟨_,hg,?_⟩
 unfold FX
 have h1:wn l 4 (l.length:Int)=some (l.drop 4):=DQ (k:=4) (by omega)
 have h2:wn l 0 4=some (l.take 4):=D6 (k:=4) (by omega)
 have h3:idx (l.drop 4) 0=some l[4]:=by rw [show (0:Int)=((0:Nat):Int) from rfl,DA,List.getElem?_drop];exact hg
 rw [show ((1:Int) == 1)=true from rfl,cond_true,h1,obs,DL (by simp;omega) (by simp;omega),obs,h2,obs,h3,obs,DF,obs]
theorem II {ks:List Int}{xs:List DSpot}{ts:List Int}(hk:5≤ks.length)(hk' : ks.length≤100)(hx:xs.length+1=ks.length)(ht:ts.length=ks.length)(l:List DElem):∃ x,xs[3]? = some x∧FX 2 l ks xs ts=some (ts.drop 4,xs.drop 4,ks.drop 4,[],l,ks.take 4,xs.take 3,ts.take 4,x.key.pfs,x.key.obj,x.key.off,x.made,2):=by
 have hg:xs[3]? = some xs[3]:=gge (by omega)
 refine⟨_,hg,?_⟩
 unfold FX
 have h1:wn ks 4 (ks.length:Int)=some (ks.drop 4):=DQ (k:=4) (by omega)
 have h2:wn xs 4 (xs.length:Int)=some (xs.drop 4):=DQ (k:=4) (by omega)
 have h3:wn ts 4 (ts.length:Int)=some (ts.drop 4):=DQ (k:=4) (by omega)
 have h4:wn ks 0 4=some (ks.take 4):=D6 (k:=4) (by omega)
 have h5:wn xs 0 3=some (xs.take 3):=D6 (k:=3) (by omega)
 have h6:wn ts 0 4=some (ts.take 4):=D6 (k:=4) (by omega)
 have h7:idx xs 3=some xs[3]:=by rw [show (3:Int)=((3:Nat):Int) from rfl,DA];exact hg
 rw [show ((2:Int) == 1)=false from rfl,cond_false,h1,obs,h2,obs,h3,obs,DL (by simp;omega) (by simp;omega),obs,DL (by simp;omega) (by simp;omega),obs,DL (by simp;omega) (by simp;omega),obs,h7,obs,h4,obs,h5,obs,h6,obs]
def put2 (N:NL)(k1 k2:Int)(a b:DNode):NL:=v0 (v0 (wt N k1) k1 a) k2 b
omit [Big F] in
theorem D9 (N:NL)(k1 k2:Int)(a b:DNode):(put2 N k1 k2 a b).length=N.length:=by unfold put2;rw [DB,DB,Dz]
theorem Ge (N:NL){k1 k2:Int}(a b:DNode){j:Nat}(h1:j≠k1.toNat)(h2:j≠k2.toNat):(put2 N k1 k2 a b)[j]? = N[j]?:=by unfold put2;rw [DH _ h2,DH _ h1,DR _ h1]
theorem G3 {N:NL}{k1 k2:Int}(a b:DNode)(hne:k1.toNat≠k2.toNat)(h:k1.toNat<N.length):(put2 N k1 k2 a b)[k1.toNat]? = some (.inr a):=by unfold put2;rw [DH _ hne,DY _ (by rw [Dz];exact h)]
theorem Gf {N:NL}{k1 k2:Int}(a b:DNode)(h:k2.toNat<N.length):(put2 N k1 k2 a b)[k2.toNat]? = some (.inr b):=by unfold put2;rw [DY _ (by rw [DB,Dz];exact h)]
theorem Em.put2 {N:NL}(h:Em N){k1 k2:Int}{a b:DNode}(ha:DT a=0)(hb:DT b=0):Em (put2 N k1 k2 a b):=((h.out k1).put ha).put hb
theorem Kp:DT zN=0:=by decide
theorem J6 {N:NL}{k1 k2:Int}(hne:k2.toNat≠k1.toNat):xp (wt N k1) k2=xp N k2:=by unfold xp;rw [DR N hne]
structure PairPost (N2 N3:NL) (h:Nat) (k1 k2:Int) (s:Span) (K:List Int) (X:List DSpot):Prop where
 len:N3.length=N2.length
 out : ∀ j:Nat,j≠k1.toNat→j≠k2.toNat→N3[j]? = N2[j]?
 chk:Em N3
 ch:Ch (GO (fN N3) h) X s K (K.map fun k=>DE (nd (fN N3) k))
 ok : ∀ x∈X,DG (zE x)=0
 perm : ∃ Z,(ids (fN N2) h k1++ids (fN N2) h k2).Perm (Z++K.flatMap (ids (fN N3) h))∧∀ j∈Z,N3[j]? = some (.inr zN)
 elems:K.flatMap (Dx (fN N3) h)=Dx (fN N2) h k1++Dx (fN N2) h k2
def IC (N2:NL)(h:Nat)(k1 k2:Int)(s:Span)(n5 n6:DNode)(x:DSpot):Prop :=
 ∃ z22,Kz n5 n6 x=some z22 ∧
  ((((n5.elems++n6.elems).length:Int)+((n5.kids++n6.kids).length:Int)≤8∧PairPost N2 (put2 N2 k1 k2 ⟨n5.kind,n5.elems++n6.elems,n5.kids++n6.kids,z22,n5.tids++n6.tids⟩ zN) h k1 k2 s [k1] []) ∨
   (8<((n5.elems++n6.elems).length:Int)+((n5.kids++n6.kids).length:Int)∧∃(y:DSpot) (r1:List Int) (r2:List DSpot) (r3:List Int) (r4 l1:List DElem) (l2:List Int) (l3:List DSpot) (l4:List Int) (kd:Int),
    FX n5.kind (n5.elems++n6.elems) (n5.kids++n6.kids) z22 (n5.tids++n6.tids)=some (r1,r2,r3,r4,l1,l2,l3,l4,y.key.pfs,y.key.obj,y.key.off,y.made,kd) ∧
    PairPost N2 (put2 N2 k1 k2 ⟨n5.kind,l1,l2,l3,l4⟩ ⟨kd,r4,r3,r2,r1⟩) h k1 k2 s [k1,k2] [y]))
omit [Big F] in
theorem Jm {n5 n6:DNode}(x:DSpot)(h5:DT n5=0)(h6:DT n6=0):Kz n5 n6 x=some (bif n5.kind == 2 then n5.seps++x::n6.seps else n5.seps):=by
 obtain⟨a1,a2⟩:=E9 h5
 obtain⟨b1,b2⟩:=E9 h6
 have sm : ∀ {n:DNode},DT n=0→n.seps.length≤8∧n.tids.length≤8:=fun {n} h=>by
  have:=E9 h
  rcases DX.1 h with h | h | h
  · rw [h.2.2.2.1,h.2.2.2.2];simp
  · rw [h.2.seps,h.2.tids];simp
  · have:=h.2.seps;have:=h.2.tids;omega
 obtain⟨a3,a4⟩:=sm h5
 obtain⟨b3,b4⟩:=sm h6
 unfold Kz
 rw [DL (by omega) (by omega),obs,DL (l:=n5.kids) (by omega) (by omega),DL (l:=n5.tids) (by omega) (by omega)]
 cases n5.kind == 2 with
 | true =>
  rw [cond_true,cond_true,DL (by simp;omega) (by simp;omega),obs,DL (by simp;omega) (by simp;omega),obs,obs,obs,obs,List.append_assoc];rfl
 | false=>rw [cond_false,cond_false,obs,obs,obs]
omit [Big F] in
theorem KZ {N2:NL}(hc:Em N2){k1 k2:Int}{s:Span}{x:DSpot}(hx:inS s x=true)(hne:k1.toNat≠k2.toNat)(c1:DK (fN N2) 0 k1 3 (hiS s x))(c2:DK (fN N2) 0 k2 3 (loS s x))(hfew:(nd (fN N2) k1).elems.length+(nd (fN N2) k2).elems.length≤12) :
 IC N2 0 k1 k2 s (nd (fN N2) k1) (nd (fN N2) k2) x:=by
 have L1:=c1.leaf hc
 have L2:=c2.leaf hc
 have r1:=c1.range
 have r2:=c2.range
 have g1:=FE hc r1
 have g2:=FE hc r2
 rw [DD] at r1 r2
 have hz:=Jm x g1 g2
 obtain⟨_,hk1,hm1,hin1⟩:=c1
 obtain⟨_,hk2,hm2,hin2⟩:=c2
 have e1:Dx (fN N2) 0 k1=(nd (fN N2) k1).elems:=rfl
 have e2:Dx (fN N2) 0 k2=(nd (fN N2) k2).elems:=rfl
 generalize nd (fN N2) k1=n5 at *
 generalize nd (fN N2) k2=n6 at *
 rw [hk1,show ((1:Int) == 2)=false from rfl,cond_false,L1.seps] at hz
 have h8:=L1.len
 have h8':=L2.len
 obtain⟨l,hl⟩ : ∃ l,l=n5.elems++n6.elems:=⟨_,rfl⟩
 have so:l.Pairwise SpO:=by
  rw [hl]
  refine List.pairwise_append.2 ⟨L1.ord,L2.ord,fun a ha b hb=>?_⟩
  have q1:=(Et.1 (hin1 a ha)).2
  have q2:=(Fp.1 (hin2 b hb)).1
  exact EC q1 q2
 have hin : ∀ y∈l,inS s (Dy y)=true:=fun y hy=>by
  rw [hl] at hy
  rcases List.mem_append.1 hy with hy | hy
  · exact ED hx (hin1 y hy)
  · exact EZ hx (hin2 y hy)
 have hok : ∀ y∈l,DG y=0:=fun y hy=>by
  rw [hl] at hy
  rcases List.mem_append.1 hy with hy | hy
  · exact L1.ok y hy
  · exact L2.ok y hy
 have hlen:l.length=n5.elems.length+n6.elems.length:=by rw [hl,List.length_append]
 refine⟨_,hz,?_⟩
 rw [L1.kids,L2.kids,L1.tids,L2.tids,← hl,hk1]
 by_cases ht:l.length≤8
 · refine .inl ⟨by simp;omega,?_⟩
   have hck:=Fh (n:=⟨1,l,[],[],[]⟩) rfl ⟨rfl,rfl,rfl,ht,hok,so⟩
   have hnd:=FY (G3 (N:=N2) (k1:=k1) (k2:=k2) ⟨1,l,[],[],[]⟩ zN hne (by omega))
   refine⟨D9 _ _ _ _ _,fun j h1 h2=>Ge N2 _ _ h1 h2,hc.put2 hck Kp,⟨k1,_,rfl,rfl,⟨?_,by rw [List.append_nil,hnd],by rw [List.append_nil,hnd];show 4≤l.length;omega,by rw [List.append_nil,hnd];exact hin⟩,rfl⟩,by simp,⟨[k2.toNat],?_,fun j hj=>?_⟩,?_⟩
   · rw [DD,D9];exact r1
   · simp only [ids,List.flatMap_singleton,List.singleton_append]
     exact List.Perm.swap _ _ _
   · rw [List.mem_singleton.1 hj,List.append_nil];exact Gf _ _ (by omega)
   · rw [List.flatMap_singleton,e1,e2,← hl]
     show (nd _ _).elems=_
     rw [List.append_nil,hnd]
 · refine .inr ⟨by have : 8 < l.length := by omega
                   simp;omega,?_⟩
   obtain⟨y,hy,hh⟩:=Jj (l:=l) (by omega) (by omega) ([]++[]) [] ([]++[])
   refine⟨Dy y,_,_,_,_,_,_,_,_,_,hh,?_⟩
   have e48:l=l.take 4++l.drop 4:=(List.take_append_drop 4 l).symm
   have hso:=so
   rw [e48] at hso
   obtain⟨o1,o2,o3⟩:=List.pairwise_append.1 hso
   have hl1:(l.take 4).length=4:=by rw [List.length_take];omega
   have hl2:(l.drop 4).length=l.length-4:=by rw [List.length_drop]
   have hxd : ∃ r,l.drop 4=y::r:=by
    have h4:4<l.length:=by omega
    rw [gge h4] at hy
    obtain rfl:=Option.some.inj hy
    exact⟨_,List.drop_eq_getElem_cons h4⟩
   obtain⟨rr,hrr⟩:=hxd
   have hyl:y∈l:=List.mem_of_mem_drop (by rw [hrr];exact List.mem_cons_self)
   have hck1:=Fh (n:=⟨1,l.take 4,[],[],[]⟩) rfl ⟨rfl,rfl,rfl,by show (l.take 4).length≤8;omega,fun y hy=>hok y (List.mem_of_mem_take hy),o1⟩
   have hck2:=Fh (n:=⟨1,l.drop 4,[],[],[]⟩) rfl ⟨rfl,rfl,rfl,by show (l.drop 4).length≤8;omega,fun y hy=>hok y (List.mem_of_mem_drop hy),o2⟩
   have hnd1:=FY (G3 (N:=N2) (k1:=k1) (k2:=k2) ⟨1,l.take 4,[],[],[]⟩ ⟨1,l.drop 4,[],[],[]⟩ hne (by omega))
   have hnd2:=FY (Gf (N:=N2) (k1:=k1) (k2:=k2) ⟨1,l.take 4,[],[],[]⟩ ⟨1,l.drop 4,[],[],[]⟩ (by omega))
   rw [List.append_nil]
   refine⟨D9 _ _ _ _ _,fun j h1 h2=>Ge N2 _ _ h1 h2,hc.put2 hck1 hck2,⟨k1,[k2],_,_,rfl,rfl,hin y hyl,⟨⟨?_,by rw [hnd1],by rw [hnd1];show 4≤(l.take 4).length;omega,?_⟩,rfl⟩,k2,_,rfl,rfl,⟨?_,by rw [hnd2],by rw [hnd2];show 4≤(l.drop 4).length;omega,?_⟩,rfl⟩,?_,⟨[],?_,by simp⟩,?_⟩
   · rw [DD,D9];exact r1
   · rw [hnd1]
     intro z hz
     exact Et.2 ⟨(DW.1 (hin z (List.mem_of_mem_take hz))).1,o3 z hz y (by rw [hrr];exact List.mem_cons_self)⟩
   · rw [DD,D9];exact r2
   · rw [hnd2]
     intro z hz
     refine Fp.2 ⟨?_,(DW.1 (hin z (List.mem_of_mem_drop hz))).2⟩
     have hz' : z∈y::rr:=by rw [← hrr];exact hz
     rw [hrr] at o2
     rcases List.mem_cons.1 hz' with rfl | hz'
     · rw [DC.refl];decide
     · have:cmpS (Dy y) (Dy z)<0:=(List.pairwise_cons.1 o2).1 z hz'
       omega
   · intro z hz
     rw [List.mem_singleton.1 hz];exact I0 (hok y hyl)
   · simp [ids]
   · rw [List.flatMap_cons,List.flatMap_singleton,e1,e2,← hl]
     show (nd _ _).elems++(nd _ _).elems=_
     rw [hnd1,hnd2];exact e48.symm
omit [Big F] in
theorem JE {N:NL}(hc:Em N){h:Nat}{X:List DSpot}{s:Span}{Ks Ts:List Int}{x:DSpot}(hx:inS s x=true)(c:Ch (GO (fN N) h) X (loS s x) Ks Ts)(ho:X.Pairwise SpotO):∀ y∈X,SpotO x y:=by
 cases X with
 | nil=>intro y hy;cases hy
 | cons z X =>
  obtain⟨k,ks,t,ts,e1,e2,i1,i2,c'⟩:=c
  obtain⟨e,he⟩:=i2.1.some_elem hc
  have hs:=Et.1 ((i2.1.elems hc).2 e he).1
  have hz:cmpS x z<0:=GC (hs.1 rfl) hs.2
  intro y hy
  rcases List.mem_cons.1 hy with rfl | hy
  · exact hz
  · exact DC.lt_trans hz ((List.pairwise_cons.1 ho).1 y hy)
omit [Big F] in
theorem Kd {N2:NL}(hc:Em N2)(hl:N2.length≤400){h:Nat}{k1 k2:Int}{s:Span}{x:DSpot}(hx:inS s x=true)(hxo:DG (zE x)=0)(c1:DK (fN N2) (h+1) k1 3 (hiS s x))(c2:DK (fN N2) (h+1) k2 3 (loS s x))(hn:(ids (fN N2) (h+1) k1++ids (fN N2) (h+1) k2).Nodup)
 (hfew:((nd (fN N2) k1).kids.length+(nd (fN N2) k2).kids.length)≤12) :
 IC N2 (h+1) k1 k2 s (nd (fN N2) k1) (nd (fN N2) k2) x:=by
 have L1:=c1.inner hc
 have L2:=c2.inner hc
 have r1:=c1.range
 have r2:=c2.range
 have hz:=Jm x (FE hc r1) (FE hc r2)
 rw [DD] at r1 r2
 obtain⟨_,hk1,hm1,ch1⟩:=c1
 obtain⟨_,hk2,hm2,ch2⟩:=c2
 have i1:ids (fN N2) (h+1) k1=k1.toNat::(nd (fN N2) k1).kids.flatMap (ids (fN N2) h):=rfl
 have i2:ids (fN N2) (h+1) k2=k2.toNat::(nd (fN N2) k2).kids.flatMap (ids (fN N2) h):=rfl
 have e1:Dx (fN N2) (h+1) k1=(nd (fN N2) k1).kids.flatMap (Dx (fN N2) h):=rfl
 have e2:Dx (fN N2) (h+1) k2=(nd (fN N2) k2).kids.flatMap (Dx (fN N2) h):=rfl
 generalize nd (fN N2) k1=n5 at *
 generalize nd (fN N2) k2=n6 at *
 rw [hk1,show ((2:Int) == 2)=true from rfl,cond_true] at hz
 have cc:=Ch.join hx ch1 ch2
 have hlens:=cc.lens
 have hord:(n5.seps++x::n6.seps).Pairwise SpotO:=by
  have q2:=JE hc hx ch2 L2.ord
  refine List.pairwise_append.2 ⟨L1.ord,List.pairwise_cons.2 ⟨q2,L2.ord⟩,fun a ha b hb=>?_⟩
  have q1:cmpS a x<0:=(Et.1 (ch1.seps a ha)).2
  rcases List.mem_cons.1 hb with rfl | hb
  · exact q1
  · exact DC.lt_trans q1 (q2 b hb)
 have hxs : ∀ y∈n5.seps++x::n6.seps,DG (zE y)=0:=fun y hy=>by
  rcases List.mem_append.1 hy with hy | hy
  · exact L1.ok y hy
  · rcases List.mem_cons.1 hy with rfl | hy
    · exact hxo
    · exact L2.ok y hy
 have hin : ∀ y∈n5.seps++x::n6.seps,inS s y=true:=cc.seps
 have hK:(n5.kids++n6.kids).length=n5.kids.length+n6.kids.length:=List.length_append
 have t1:=L1.two
 have t2:=L2.two
 have hfl:(n5.kids++n6.kids).flatMap (ids (fN N2) h)=n5.kids.flatMap (ids (fN N2) h)++n6.kids.flatMap (ids (fN N2) h):=List.flatMap_append
 have hfe:(n5.kids++n6.kids).flatMap (Dx (fN N2) h)=n5.kids.flatMap (Dx (fN N2) h)++n6.kids.flatMap (Dx (fN N2) h):=List.flatMap_append
 rw [i1,i2] at hn
 have hn' : (k1.toNat::k2.toNat::(n5.kids++n6.kids).flatMap (ids (fN N2) h)).Nodup:=by
  refine(List.Perm.nodup_iff ?_).1 hn
  rw [hfl,List.cons_append]
  exact List.Perm.cons _ List.perm_middle
 obtain⟨n1,n2⟩:=List.nodup_cons.1 hn'
 obtain⟨n3,n4⟩:=List.nodup_cons.1 n2
 have hne:k1.toNat≠k2.toNat:=fun e=>n1 (by rw [e];exact List.mem_cons_self)
 refine⟨_,hz,?_⟩
 rw [L1.elems,L2.elems,hk1]
 generalize hKs:n5.kids++n6.kids=Ks at *
 generalize hXs:n5.seps++x::n6.seps=Xs at *
 generalize hTs:n5.tids++n6.tids=Ts at *
 have agree : ∀(a b:DNode),∀ q∈Ks.flatMap (ids (fN N2) h),(put2 N2 k1 k2 a b)[q]? = N2[q]?:=fun a b q hq=>Ge N2 a b (fun e=>n1 (by rw [← e];exact List.mem_cons_of_mem _ hq)) (fun e=>n3 (by rw [← e];exact hq))
 have hperm:(k1.toNat::n5.kids.flatMap (ids (fN N2) h)++k2.toNat::n6.kids.flatMap (ids (fN N2) h)).Perm (k2.toNat::k1.toNat::Ks.flatMap (ids (fN N2) h)):=by
  rw [hfl,List.cons_append]
  exact(List.Perm.cons _ List.perm_middle).trans (List.Perm.swap _ _ _)
 by_cases ht:Ks.length≤8
 · refine .inl ⟨by simp;omega,?_⟩
   have hck:=D0 (n:=⟨2,[],Ks,Xs,Ts⟩) rfl (EP hc hl cc (by omega) ht hord hxs)
   have hnd:=FY (G3 (N:=N2) (k1:=k1) (k2:=k2) ⟨2,[],Ks,Xs,Ts⟩ zN hne (by omega))
   obtain⟨a1,a2,a3⟩:=En (N':=put2 N2 k1 k2 ⟨2,[],Ks,Xs,Ts⟩ zN) (by rw [D9];exact Nat.le_refl _) cc fun j hj=>agree _ _ j hj
   rw [List.append_nil]
   refine⟨D9 _ _ _ _ _,fun j h1 h2=>Ge N2 _ _ h1 h2,hc.put2 hck Kp,⟨k1,_,rfl,rfl,⟨?_,by rw [hnd],by rw [hnd];show 4≤Ks.length;omega,by rw [hnd];exact a1⟩,rfl⟩,by simp,⟨[k2.toNat],?_,fun j hj=>?_⟩,?_⟩
   · rw [DD,D9];exact r1
   · rw [List.flatMap_singleton,i1,i2,ids,hnd]
     show List.Perm _ (k2.toNat::k1.toNat::Ks.flatMap _)
     rw [a2]
     exact hperm
   · rw [List.mem_singleton.1 hj];exact Gf _ _ (by omega)
   · rw [List.flatMap_singleton,e1,e2,Dx,hnd,← hfe]
     exact a3
 · refine .inr ⟨by simp;omega,?_⟩
   obtain⟨y,hy,hh⟩:=II (ks:=Ks) (xs:=Xs) (ts:=Ts) (by omega) (by omega) hlens.1 hlens.2 []
   rw [List.append_nil]
   refine⟨y,_,_,_,_,_,_,_,_,_,hh,?_⟩
   have h3:3<Xs.length:=by omega
   have hspx:Xs[3]=y:=by rw [gge h3] at hy;exact Option.some.inj hy
   have eX:Xs=Xs.take 3++y::Xs.drop 4:=by rw [← hspx];exact FO Xs h3
   have eK:Ks=Ks.take 4++Ks.drop 4:=(List.take_append_drop 4 Ks).symm
   have eT:Ts=Ts.take 4++Ts.drop 4:=(List.take_append_drop 4 Ts).symm
   have l1:(Ks.take 4).length=4:=by rw [List.length_take];omega
   have l2:(Xs.take 3).length=3:=by rw [List.length_take];omega
   have l3:(Ts.take 4).length=4:=by rw [List.length_take];omega
   have l4:(Ks.drop 4).length=Ks.length-4:=by rw [List.length_drop]
   have c':=cc
   rw [eX,eK,eT] at c'
   have ho':=hord
   rw [eX] at ho'
   obtain⟨s1,s2,s3⟩:=Ch.split (by omega) (by omega) ho' c'
   obtain⟨o1,o2,o3⟩:=List.pairwise_append.1 ho'
   have hck1:=D0 (n:=⟨2,[],Ks.take 4,Xs.take 3,Ts.take 4⟩) rfl (EP hc hl s2 (by omega) (by omega) o1 fun x h=>hxs x (List.mem_of_mem_take h))
   have hck2:=D0 (n:=⟨2,[],Ks.drop 4,Xs.drop 4,Ts.drop 4⟩) rfl (EP hc hl s3 (by omega) (by omega) (List.pairwise_cons.1 o2).2 fun x h=>hxs x (List.mem_of_mem_drop h))
   have hnd1:=FY (G3 (N:=N2) (k1:=k1) (k2:=k2) ⟨2,[],Ks.take 4,Xs.take 3,Ts.take 4⟩ ⟨2,[],Ks.drop 4,Xs.drop 4,Ts.drop 4⟩ hne (by omega))
   have hnd2:=FY (Gf (N:=N2) (k1:=k1) (k2:=k2) ⟨2,[],Ks.take 4,Xs.take 3,Ts.take 4⟩ ⟨2,[],Ks.drop 4,Xs.drop 4,Ts.drop 4⟩ (by omega))
   have ag:=agree ⟨2,[],Ks.take 4,Xs.take 3,Ts.take 4⟩ ⟨2,[],Ks.drop 4,Xs.drop 4,Ts.drop 4⟩
   have hlen:=D9 N2 k1 k2 ⟨2,[],Ks.take 4,Xs.take 3,Ts.take 4⟩ ⟨2,[],Ks.drop 4,Xs.drop 4,Ts.drop 4⟩
   have hckL:Em (put2 N2 k1 k2 ⟨2,[],Ks.take 4,Xs.take 3,Ts.take 4⟩ ⟨2,[],Ks.drop 4,Xs.drop 4,Ts.drop 4⟩):=hc.put2 hck1 hck2
   have hget : ∀ j:Nat,j≠k1.toNat→j≠k2.toNat→(put2 N2 k1 k2 ⟨2,[],Ks.take 4,Xs.take 3,Ts.take 4⟩ ⟨2,[],Ks.drop 4,Xs.drop 4,Ts.drop 4⟩)[j]? = N2[j]?:=fun j h1 h2=>Ge N2 _ _ h1 h2
   generalize put2 N2 k1 k2 ⟨2,[],Ks.take 4,Xs.take 3,Ts.take 4⟩ ⟨2,[],Ks.drop 4,Xs.drop 4,Ts.drop 4⟩=N3 at *
   have sub1 : ∀ q∈(Ks.take 4).flatMap (ids (fN N2) h),q∈Ks.flatMap (ids (fN N2) h):=fun q hq=>by
    rw [eK,List.flatMap_append];exact List.mem_append_left _ hq
   have sub2 : ∀ q∈(Ks.drop 4).flatMap (ids (fN N2) h),q∈Ks.flatMap (ids (fN N2) h):=fun q hq=>by
    rw [eK,List.flatMap_append];exact List.mem_append_right _ hq
   obtain⟨a1,a2,a3⟩:=En (by omega) s2 fun q hq=>ag q (sub1 q hq)
   obtain⟨b1,b2,b3⟩:=En (by omega) s3 fun q hq=>ag q (sub2 q hq)
   refine⟨hlen,hget,hckL,⟨k1,[k2],_,_,rfl,rfl,s1,⟨⟨?_,by rw [hnd1],by rw [hnd1];show 4≤(Ks.take 4).length;omega,by rw [hnd1];exact a1⟩,rfl⟩,k2,_,rfl,rfl,⟨?_,by rw [hnd2],by rw [hnd2];show 4≤(Ks.drop 4).length;omega,by rw [hnd2];exact b1⟩,rfl⟩,?_,⟨[],?_,by simp⟩,?_⟩
   · rw [DD,hlen];exact r1
   · rw [DD,hlen];exact r2
   · intro z hz
     rw [List.mem_singleton.1 hz];exact hxs y (by rw [eX];simp)
   · rw [List.flatMap_cons,List.flatMap_singleton,i1,i2,ids,ids,hnd1,hnd2,List.nil_append]
     show List.Perm _ (k1.toNat::(Ks.take 4).flatMap _++k2.toNat::(Ks.drop 4).flatMap _)
     rw [a2,b2]
     refine hperm.trans ((List.Perm.swap _ _ _).trans ?_)
     rw [List.cons_append]
     refine List.Perm.cons _ ?_
     conv=>lhs;rw [eK,List.flatMap_append]
     exact List.perm_middle.symm
   · rw [List.flatMap_cons,List.flatMap_singleton,e1,e2,Dx,Dx,hnd1,hnd2,← hfe]
     show (Ks.take 4).flatMap _++(Ks.drop 4).flatMap _=_
     rw [a3,b3,← List.flatMap_append,← eK]
def KI (ns:List DNode)(h:Nat)(k:Int):Int→Int→Span→Prop:=fun a t s=>DK ns h a 3 s∧(a≠k→GO ns h a t s)
structure EvenPost (N2 N3:NL) (h:Nat) (s:Span) (n:DNode) (K:List Int) (X:List DSpot) (T:List Int):Prop where
 len:N3.length=N2.length
 out : ∀ j:Nat,j ∉ n.kids.flatMap (ids (fN N2) h)→N3[j]? = N2[j]?
 chk:Em N3
 ch:Ch (GO (fN N3) h) X s K T
 more:n.kids.length≤K.length+1
 few:K.length≤n.kids.length
 ord:X.Pairwise SpotO
 ok : ∀ x∈X,DG (zE x)=0
 perm : ∃ Z,(n.kids.flatMap (ids (fN N2) h)).Perm (Z++K.flatMap (ids (fN N3) h))∧∀ j∈Z,N3[j]? = some (.inr zN)
 elems:K.flatMap (Dx (fN N3) h)=n.kids.flatMap (Dx (fN N2) h)
omit [Big F] in
theorem Jq {α:Type}(l:List α){z:Nat}(h:z+1<l.length):∃ a b,l[z]? = some a∧l[z+1]? = some b∧l=l.take z++a::b::l.drop (z+2):=by
 refine⟨l[z],l[z+1],gge _,gge _,?_⟩
 have:=FO l (w:=z) (by omega)
 rw [List.drop_eq_getElem_cons h] at this
 exact this
omit [Big F] in
theorem Lo {N2 N3:NL}{h:Nat}{n:DNode}{s s' : Span}{k k1 k2:Int}{A B:List Int}{XA XB:List DSpot}{TA TB K:List Int}{X:List DSpot}{x:DSpot}
 (hkids:n.kids=A++k1::k2::B) (hseps:n.seps=XA++x::XB) (hk:k=k1∨k=k2) (hnd:(n.kids.flatMap (ids (fN N2) h)).Nodup) (ho:n.seps.Pairwise SpotO) (hxok : ∀ x∈n.seps,DG (zE x)=0)
 (loX : ∀ x∈XA,∀ y,inS s' y=true→cmpS x y≤0) (hiX : ∀ x∈XB,∀ y,inS s' y=true→cmpS y x<0)
 (wc : ∀ a,a∈A∨a∈B→∃ t s'',KI (fN N2) h k a t s'')
 (turn : ∀ Q:Int→Int→Span→Prop,(∀ a t s',a∈A∨a∈B→KI (fN N2) h k a t s'→Q a t s')→∀ M' XM' TM',Ch Q XM' s' M' TM'→Ch Q (XA++(XM'++XB)) s (A++(M'++B)) (TA++(TM'++TB)))
 (P:PairPost N2 N3 h k1 k2 s' K X) (hsh:(K=[k1]∧X=[])∨(K=[k1,k2]∧∃ y,X=[y])) :
 EvenPost N2 N3 h s n (A++(K++B)) (XA++(X++XB)) (TA++(K.map (fun k=>DE (nd (fN N3) k))++TB)):=by
 have hfl:n.kids.flatMap (ids (fN N2) h)=A.flatMap (ids (fN N2) h)++((ids (fN N2) h k1++ids (fN N2) h k2)++B.flatMap (ids (fN N2) h)):=by
  rw [hkids,List.flatMap_append,List.flatMap_cons,List.flatMap_cons,List.append_assoc]
 rw [hfl] at hnd
 obtain⟨n1,n2,n3⟩:=List.nodup_append.1 hnd
 obtain⟨n4,n5,n6⟩:=List.nodup_append.1 n2
 have dis : ∀ a,a∈A∨a∈B→∀ j∈ids (fN N2) h a,j ∉ ids (fN N2) h k1∧j ∉ ids (fN N2) h k2:=fun a ha j hj=>by
  rcases ha with ha | ha
  · have hjA:j∈A.flatMap (ids (fN N2) h):=List.mem_flatMap.2 ⟨a,ha,hj⟩
    exact⟨fun h=>n3 j hjA j (by simp [h]) rfl,fun h=>n3 j hjA j (by simp [h]) rfl⟩
  · have hjB:j∈B.flatMap (ids (fN N2) h):=List.mem_flatMap.2 ⟨a,ha,hj⟩
    exact⟨fun h=>n6 j (by simp [h]) j hjB rfl,fun h=>n6 j (by simp [h]) j hjB rfl⟩
 have hak : ∀ a,a∈A∨a∈B→a≠k:=fun a ha e=>by
  obtain⟨d1,d2⟩:=dis a ha a.toNat (DK.head h a)
  rcases hk with rfl | rfl
  · exact d1 (by rw [← e];exact DK.head h a)
  · exact d2 (by rw [← e];exact DK.head h a)
 have agr : ∀ a,a∈A∨a∈B→∀ j∈ids (fN N2) h a,N3[j]? = N2[j]?:=fun a ha j hj=>by
  obtain⟨d1,d2⟩:=dis a ha j hj
  exact P.out j (fun e=>d1 (by rw [e];exact DK.head h k1)) (fun e=>d2 (by rw [e];exact DK.head h k2))
 have other : ∀ a,a∈A∨a∈B→∀ {m:Nat} {s:Span},DK (fN N2) h a m s→_:=fun a ha m s c=>DK.agree (N:=N2) (N':=N3) (by rw [P.len];exact Nat.le_refl _) c (agr a ha)
 have flat : ∀(l:List Int),(∀ a∈l,a∈A∨a∈B)→l.flatMap (ids (fN N3) h)=l.flatMap (ids (fN N2) h)∧l.flatMap (Dx (fN N3) h)=l.flatMap (Dx (fN N2) h):=fun l hl=>by
  constructor
  · exact EX fun a ha=>by obtain ⟨t',s'',x1⟩:=wc a (hl a ha);exact(other a (hl a ha) x1.1).2.1
  · exact DV fun a ha=>by obtain ⟨t',s'',x1⟩:=wc a (hl a ha);exact(other a (hl a ha) x1.1).2.2.1
 have hch:=turn (GO (fN N3) h) (fun a t s'' ha q=>by
  have c:=q.2 (hak a ha)
  exact⟨(other a ha c.1).1,by rw [(other a ha c.1).2.2.2];exact c.2⟩) K X _ P.ch
 have hKl:n.kids.length=A.length+2+B.length:=by rw [hkids];simp;omega
 rw [hseps] at ho
 obtain⟨p1,p2,p3⟩:=List.pairwise_append.1 ho
 obtain⟨p4,p5⟩:=List.pairwise_cons.1 p2
 refine⟨P.len,fun j hj=>?_,P.chk,hch,?_,?_,?_,fun y hy=>?_,?_,?_⟩
 · rw [hfl] at hj
   simp only [List.mem_append,not_or] at hj
   exact P.out j (fun e=>hj.2.1.1 (by rw [e];exact DK.head h k1)) (fun e=>hj.2.1.2 (by rw [e];exact DK.head h k2))
 · rcases hsh with ⟨rfl,_⟩ | ⟨rfl,_⟩ <;> simp <;> omega
 · rcases hsh with ⟨rfl,_⟩ | ⟨rfl,_⟩ <;> simp <;> omega
 · rcases hsh with ⟨_,rfl⟩ | ⟨rfl,y,rfl⟩
   · exact List.pairwise_append.2 ⟨p1,p5,fun a ha b hb=>p3 a ha b (List.mem_cons_of_mem _ hb)⟩
   · obtain⟨a1,al,t1,ts,e1,e2,i1,i2,c'⟩:=P.ch
     obtain⟨e,he⟩:=i2.1.some_elem P.chk
     have hs1:=((i2.1.elems P.chk).2 e he).1
     have hs2:=Et.1 hs1
     have hs3:=ED i1 hs1
     refine List.pairwise_append.2 ⟨p1,List.pairwise_cons.2 ⟨fun b hb=>hiX b hb y i1,p5⟩,fun a ha b hb=>?_⟩
     rcases List.mem_cons.1 hb with rfl | hb
     · exact GC (loX a ha _ hs3) hs2.2
     · exact p3 a ha b (List.mem_cons_of_mem _ hb)
 · rcases List.mem_append.1 hy with hy | hy
   · exact hxok y (by rw [hseps];exact List.mem_append_left _ hy)
   · rcases List.mem_append.1 hy with hy | hy
     · exact P.ok y hy
     · exact hxok y (by rw [hseps];simp [hy])
 · obtain⟨Z,hZ,hz⟩:=P.perm
   refine⟨Z,?_,hz⟩
   rw [hfl,List.flatMap_append,List.flatMap_append,(flat A fun a ha=>.inl ha).1,(flat B fun a ha=>.inr ha).1]
   refine((hZ.append_right _).append_left _).trans ?_
   rw [List.append_assoc]
   exact List.perm_append_comm_assoc _ _ _
 · rw [List.flatMap_append,List.flatMap_append,(flat A fun a ha=>.inl ha).2,(flat B fun a ha=>.inr ha).2,P.elems,hkids,List.flatMap_append,List.flatMap_cons,List.flatMap_cons,List.append_assoc]
omit [Big F] in
theorem LW {α:Type}(A:List α)(x y:α)(B:List α):idx (A++x::y::B) ((A.length:Int)+1)=some y:=by
 rw [show ((A.length:Int)+1)=((A.length+1:Nat):Int) by omega,DA,List.getElem?_append_right (by omega)];simp
omit [Big F] in
theorem ID {α:Type}{l:List α}{i j:Nat}(h1:i<j)(h2:j≤l.length):CG l (i:Int) (j:Int)=some (xf l i j):=by
 unfold CG
 rw [if_pos ⟨by omega,by omega,by omega⟩,Int.toNat_natCast,Int.toNat_natCast]
omit [Big F] in
theorem Ku {α:Type}(A:List α)(x y:α)(B:List α):xf (A++x::y::B) (A.length+1) (A.length+2)=A++x::B:=by
 unfold xf
 rw [show A++x::y::B=(A++[x])++y::B by simp,List.take_left' (by simp),show (A++[x])++y::B=(A++[x,y])++B by simp,List.drop_left' (by simp)]
 simp
omit [Big F] in
theorem LT {α:Type}(A:List α)(x:α)(B:List α):xf (A++x::B) A.length (A.length+1)=A++B:=by
 unfold xf
 rw [List.take_left' rfl,show A++x::B=(A++[x])++B by simp,List.drop_left' (by simp)]
omit [Big F] in
theorem Me {α:Type}(A:List α)(x y z:α)(B:List α):(A++x::y::B).set (A.length+1) z=A++x::z::B:=by
 rw [List.set_append_right _ _ (by omega)];simp
theorem LU {N2:NL}(hc:Em N2)(hl:N2.length≤400){h:Nat}{n:DNode}{r10 r11:Int}{s:Span}{k:Int}{z:Nat}{tids' : List Int}
 (ht:n.tids.set r10.toNat r11=tids') (hz:z+1<n.kids.length) (h8:n.kids.length≤8) (hs:n.seps.length+1=n.kids.length) (htl:tids'.length=n.kids.length)
 (hk:n.kids[z]? = some k∨n.kids[z+1]? = some k) (hzz:(bif (r10 == (IntKind.i64.wrap ((n.kids.length:Int)-1))) then some (IntKind.i64.wrap (r10-1)) else some r10:Option Int)=some (z:Int))
 (ho:n.seps.Pairwise SpotO) (hxok : ∀ x∈n.seps,DG (zE x)=0) (wc:Ch (KI (fN N2) h k) n.seps s n.kids tids') (hnd:(n.kids.flatMap (ids (fN N2) h)).Nodup)
 (hlow:(nd (fN N2) k).elems.length+(nd (fN N2) k).kids.length<4) :
 ∃ K X T N3,Jh F n r10 r11 N2=some (K,X,T,N3)∧EvenPost N2 N3 h s n K X T:=by
 obtain⟨k1,k2,hk1,hk2,eK⟩:=Jq n.kids hz
 obtain⟨t1,t2,ht1,ht2,eT⟩:=Jq tids' (z:=z) (by omega)
 obtain⟨x,eX⟩ : ∃ x,n.seps=n.seps.take z++x::n.seps.drop (z+1):=⟨_,FO n.seps (w:=z) (by omega)⟩
 have lA:(n.kids.take z).length=z:=by rw [List.length_take];omega
 have lX:(n.seps.take z).length=z:=by rw [List.length_take];omega
 have lT:(tids'.take z).length=z:=by rw [List.length_take];omega
 have lB:(n.kids.drop (z+2)).length=n.kids.length-(z+2):=List.length_drop
 have lXB:(n.seps.drop (z+1)).length=n.seps.length-(z+1):=List.length_drop
 have lTB:(tids'.drop (z+2)).length=tids'.length-(z+2):=List.length_drop
 generalize n.kids.take z=A at *
 generalize n.kids.drop (z+2)=B at *
 generalize n.seps.take z=XA at *
 generalize n.seps.drop (z+1)=XB at *
 generalize tids'.take z=TA at *
 generalize tids'.drop (z+2)=TB at *
 have hkk:k=k1∨k=k2:=by
  rcases hk with h | h
  · rw [hk1] at h;exact .inl (Option.some.inj h).symm
  · rw [hk2] at h;exact .inr (Option.some.inj h).symm
 have wc':=wc
 rw [eK,eX,eT] at wc'
 have ho':=ho
 rw [eX] at ho'
 obtain⟨s',i1,i2,i3,i4,i5,i6⟩:=Ch.focus (XA:=XA) (XM:=[x]) (XB:=XB) (A:=A) (M:=[k1,k2]) (B:=B) (TA:=TA) (TM:=[t1,t2]) (TB:=TB) (by omega) (by omega) rfl rfl (by omega) (by omega) ho' wc'
 obtain⟨k1',ks',t1',ts',e1,e2,hx,p1,k2',t2',e3,e4,p2⟩:=i1
 obtain⟨rfl,rfl⟩ : k1=k1'∧[k2]=ks':=by simpa using e1
 obtain rfl:k2=k2':=by simpa using e3
 have hfl:n.kids.flatMap (ids (fN N2) h)=A.flatMap (ids (fN N2) h)++((ids (fN N2) h k1++ids (fN N2) h k2)++B.flatMap (ids (fN N2) h)):=by
  rw [eK,List.flatMap_append,List.flatMap_cons,List.flatMap_cons,List.append_assoc]
 have hn12:(ids (fN N2) h k1++ids (fN N2) h k2).Nodup:=by
  rw [hfl] at hnd
  exact(List.nodup_append.1 (List.nodup_append.1 hnd).2.1).1
 have hne:k1.toNat≠k2.toNat:=fun e=>(List.nodup_append.1 hn12).2.2 _ (DK.head h k1) _ (DK.head h k2) e
 have b1:=E9 (FE hc p1.1.range)
 have b2:=E9 (FE hc p2.1.range)
 have b3:(nd (fN N2) k1).elems.length+(nd (fN N2) k2).elems.length≤12∧(nd (fN N2) k1).kids.length+(nd (fN N2) k2).kids.length≤12:=by
  rcases hkk with rfl | rfl <;> omega
 have hpo:IC N2 h k1 k2 s' (nd (fN N2) k1) (nd (fN N2) k2) x:=by
  cases h with
  | zero=>exact KZ hc hx hne p1.1 p2.1 b3.1
  | succ h=>exact Kd hc hl hx (hxok x (by rw [eX];simp)) p1.1 p2.1 hn12 b3.2
 obtain⟨z22,hz22,hpair⟩:=hpo
 have r1:=p1.1.range
 have r2:=p2.1.range
 rw [DD] at r1 r2
 have wcm : ∀ a,a∈A∨a∈B→∃ t s'',KI (fN N2) h k a t s'':=fun a ha=>by
  obtain⟨t,s'',q,_⟩:=wc.mem a (by
   rw [eK]
   rcases ha with ha | ha
   · exact List.mem_append_left _ ha
   · simp [ha])
  exact⟨t,s'',q⟩
 have fin:=fun {N3:NL} {K:List Int} {X:List DSpot} (P:PairPost N2 N3 h k1 k2 s' K X) hsh=>Lo (TA:=TA) (TB:=TB) eK eX hkk hnd ho hxok i3 i4 wcm i6 P hsh
 have hi1:idx n.kids (z:Int)=some k1:=by rw [DA];exact hk1
 have hi2:idx n.kids ((z:Int)+1)=some k2:=by rw [show ((z:Int)+1)=((z+1:Nat):Int) by omega,DA];exact hk2
 have hi3:idx n.seps (z:Int)=some x:=by
  have:=EA XA x XB
  rwa [lX,← eX] at this
 have hd1:CG n.kids ((z:Int)+1) ((z:Int)+2)=some (A++k1::B):=by
  have:=ID (l:=n.kids) (i:=z+1) (j:=z+2) (by omega) (by omega)
  rw [show ((z+1:Nat):Int)=(z:Int)+1 by omega,show ((z+2:Nat):Int)=(z:Int)+2 by omega] at this
  rw [this,eK]
  have:=Ku A k1 k2 B
  rw [lA] at this;rw [this]
 have hd2:CG n.seps (z:Int) ((z:Int)+1)=some (XA++XB):=by
  have:=ID (l:=n.seps) (i:=z) (j:=z+1) (by omega) (by omega)
  rw [show ((z+1:Nat):Int)=(z:Int)+1 by omega] at this
  rw [this,eX]
  have:=LT XA x XB
  rw [lX] at this;rw [this]
 have hd3:CG tids' ((z:Int)+1) ((z:Int)+2)=some (TA++t1::TB):=by
  have:=ID (l:=tids') (i:=z+1) (j:=z+2) (by omega) (by omega)
  rw [show ((z+1:Nat):Int)=(z:Int)+1 by omega,show ((z+2:Nat):Int)=(z:Int)+2 by omega] at this
  rw [this,eT]
  have:=Ku TA t1 t2 TB
  rw [lT] at this;rw [this]
 obtain⟨_,_,_,_,j1⟩:=Ac hd1
 obtain⟨_,_,_,_,j2⟩:=Ac hd2
 obtain⟨_,_,_,_,j3⟩:=Ac hd3
 have hset : ∀(l:List Int) (a b:Int),(TA++a::l).set z b=TA++b::l:=fun l a b=>by
  have:=FA TA a b l
  rwa [lT] at this
 unfold Jh
 rw [hzz,obs,hi1,obs,w64 (n:=(z:Int)+1) (by omega) (by omega),hi2,obs,p1.1.node.1,obs,J6 (Ne.symm hne),p2.1.node.1,obs,hi3,obs,hz22,obs]
 unfold Mh
 rw [ht]
 generalize nd (fN N2) k1=n5 at *
 generalize nd (fN N2) k2=n6 at *
 rw [w64 (n:=((n5.elems++n6.elems).length:Int)+((n5.kids++n6.kids).length:Int)) (by omega) (by simp only [List.length_append];omega),w64 (n:=(z:Int)+1) (by omega) (by omega)]
 rcases hpair with ⟨hle,P⟩ | ⟨hgt,y,q1,q2,q3,q4,l1,l2,l3,l4,kd,hh,P⟩
 · obtain⟨a1,u1,e5,e6,c1⟩:=P.ch
   obtain rfl:k1=a1:=by simpa using e5
   have hnode:=c1.1.node.1
   have hgr:=Ec (F:=F) P.chk c1.1.range
   have hE:=fin P (.inl ⟨rfl,rfl⟩)
   refine⟨_,_,_,_,?_,hE⟩
   rw [decide_eq_false (by omega),cond_false,FC (by rw [Dz];exact r1),obs,FC (by rw [DB,Dz];exact r2),obs,w64 (n:=(z:Int)+2) (by omega) (by omega),hd1,obs,hd2,obs,hd3,obs,obs]
   dsimp only
   rw [j1,j2,j3]
   refine Eq.trans (congrArg (fun q=>Option.bind q _) hnode) ?_
   rw [obs,hgr,obs]
   have hm:=EA TA t1 TB
   rw [lT] at hm
   rw [hm,obs,Int.toNat_natCast,hset]
   rfl
 · obtain⟨a1,al,u1,us,e5,e6,i7,c1,a2,u2,e7,e8,c2⟩:=P.ch
   obtain⟨rfl,rfl⟩ : k1=a1∧[k2]=al:=by simpa using e5
   obtain rfl:k2=a2:=by simpa using e7
   have hnode:=c1.1.node.1
   have hgr:=Ec (F:=F) P.chk c1.1.range
   have hgr2:=Ec (F:=F) P.chk c2.1.range
   have hnd2:=FY (Gf (N:=N2) (k1:=k1) (k2:=k2) ⟨n5.kind,l1,l2,l3,l4⟩ ⟨kd,q4,q3,q2,q1⟩ (by omega))
   have hgr3:wy F ⟨kd,q4,q3,q2,q1⟩=some (DE (nd (fN (put2 N2 k1 k2 ⟨n5.kind,l1,l2,l3,l4⟩ ⟨kd,q4,q3,q2,q1⟩)) k2)):=by
    rw [← hgr2,hnd2]
   have hE:=fin P (.inr ⟨rfl,y,rfl⟩)
   refine⟨_,_,_,_,?_,hE⟩
   rw [decide_eq_true (by omega),cond_true,hh,obs]
   dsimp only
   rw [FC (by rw [Dz];exact r1),obs,FC (by rw [DB,Dz];exact r2),obs,hi3,obs,hgr3,obs]
   have hm:=LW TA t1 t2 TB
   rw [lT,← eT] at hm
   rw [hm,obs,obs]
   dsimp only
   refine Eq.trans (congrArg (fun q=>Option.bind q _) hnode) ?_
   rw [obs,hgr,obs]
   have hst:=Me TA t1 t2 (DE (nd (fN (put2 N2 k1 k2 ⟨n5.kind,l1,l2,l3,l4⟩ ⟨kd,q4,q3,q2,q1⟩)) k2)) TB
   rw [lT,← eT] at hst
   have hm2:=EA TA t1 (DE (nd (fN (put2 N2 k1 k2 ⟨n5.kind,l1,l2,l3,l4⟩ ⟨kd,q4,q3,q2,q1⟩)) k2)::TB)
   rw [lT] at hm2
   have hsx:n.seps.set z y=XA++y::XB:=by
    have:=FA XA x y XB
    rw [lX,← eX] at this;exact this
   rw [show ((z:Int)+1).toNat=z+1 by omega,hst,hm2,obs,Int.toNat_natCast,hset,IZ,hsx,eK]
   rfl
structure RemPost (sp:DSpot) (N N' : NL) (h:Nat) (i:Int) (s:Span) (m:Nat):Prop where
 len:N'.length=N.length
 out : ∀ j:Nat,j ∉ ids (fN N) h i→N'[j]? = N[j]?
 chk:Em N'
 sub:DK (fN N') h i (m-1) s
 perm : ∃ Z,(ids (fN N) h i).Perm (Z++ids (fN N') h i)∧∀ j∈Z,N'[j]? = some (.inr zN)
 elems:Dx (fN N') h i=(Dx (fN N) h i).filter (Fm sp)
structure RemMid (sp:DSpot) (N N3:NL) (h:Nat) (i:Int) (s:Span) (n:DNode) (K:List Int) (X:List DSpot) (T:List Int):Prop where
 len:N3.length=N.length
 hole:N3[i.toNat]? = (wt N i)[i.toNat]?
 out : ∀ j:Nat,j ∉ ids (fN N) (h+1) i→N3[j]? = N[j]?
 chk:Em N3
 ch:Ch (GO (fN N3) h) X s K T
 more:n.kids.length≤K.length+1
 few:K.length≤n.kids.length
 ord:X.Pairwise SpotO
 ok : ∀ x∈X,DG (zE x)=0
 perm : ∃ Z,(n.kids.flatMap (ids (fN N) h)).Perm (Z++K.flatMap (ids (fN N3) h))∧∀ j∈Z,N3[j]? = some (.inr zN)
 elems:K.flatMap (Dx (fN N3) h)=(n.kids.flatMap (Dx (fN N) h)).filter (Fm sp)
def K9 (F:Nat)(sp:DSpot)(h:Nat):Prop:=∀(mf:Nat) (N:NL) (i:Int) (m:Nat) (s:Span),h<mf→Em N→N.length≤400→(h=0∨3≤m)→DK (fN N) h i m s→(ids (fN N) h i).Nodup→inS s sp=true →
 ∃ N',Ae (Ib F sp) mf (N,i)=some N'∧RemPost sp N N' h i s m
omit [Big F] in
theorem GY {sp:DSpot}{l:List DElem}(h : ∀ x∈l,Dy x≠sp):l.filter (Fm sp)=l:=List.filter_eq_self.2 fun x hx=>by unfold Fm;simpa using h x hx
theorem LG (sp:DSpot):K9 F sp 0:=by
 intro mf N i m s hm hc hl _ c hn hs
 obtain⟨mf,rfl⟩ : ∃ q,mf=q+1:=⟨mf-1,by omega⟩
 have L:=c.leaf hc
 have hr:=c.range
 rw [DD] at hr
 obtain⟨hnode,hat⟩:=c.node
 obtain⟨_,hk1,hmk,hin⟩:=c
 have hel:Dx (fN N) 0 i=(nd (fN N) i).elems:=rfl
 generalize nd (fN N) i=n at *
 have hlen:n.elems.length≤(n.elems.filter (Fm sp)).length+1:=by
  have key : ∀ l:List DElem,l.Pairwise SpO→l.length≤(l.filter (Fm sp)).length+1:=by
   intro l
   induction l with
   | nil=>intro _;simp
   | cons a l ih =>
    intro ho
    rw [List.pairwise_cons] at ho
    by_cases h:Dy a=sp
    · have : l.filter (Fm sp) = l := GY fun x hx e => by
       have:=ho.1 x hx
       unfold SpO at this
       rw [h,e,DC.refl] at this
       omega
      rw [List.filter_cons]
      split <;> rw [this] <;> simp
    · have:=ih ho.2
      rw [List.filter_cons,if_pos (by unfold Fm;simpa using h)]
      simpa using this
  exact key _ L.ord
 obtain⟨n',hn'⟩ : ∃ n' : DNode,n' = ⟨1,n.elems.filter (Fm sp),[],[],[]⟩:=⟨_,rfl⟩
 have hck:DT n' = 0:=by
  rw [hn']
  exact Fh rfl ⟨rfl,rfl,rfl,by have:=List.length_filter_le (Fm sp) n.elems;have:=L.len;show (n.elems.filter (Fm sp)).length≤8;omega,fun x hx=>L.ok x ((List.mem_filter.1 hx).1),L.ord.filter _⟩
 have hnd:nd (fN (v0 (wt N i) i n')) i=n':=Hj (by rw [Dz];exact hr)
 refine⟨v0 (wt N i) i n',?_,⟨by rw [DB,Dz],fun j hj=>?_,(hc.out i).put hck,⟨?_,by rw [hnd,hn'],?_,?_⟩,⟨[],?_,by simp⟩,?_⟩⟩
 · show Ib F sp (Ae (Ib F sp) mf) (N,i)=_
   unfold Ib
   dsimp only
   rw [hnode,obs,hk1,show ((1:Int) == 1)=true from rfl,cond_true,LS _ _ (by have:=L.len;omega),obs,FC (by rw [Dz];exact hr),obs,L.kids,L.seps,L.tids,hn']
 · have hji:j≠i.toNat:=by simpa [ids] using hj
   rw [DH _ hji,DR _ hji]
 · rw [DD,DB,Dz];exact hr
 · rw [hnd,hn'];show m-1≤(n.elems.filter (Fm sp)).length;omega
 · rw [hnd,hn']
   intro x hx
   exact hin x ((List.mem_filter.1 hx).1)
 · simp [ids]
 · rw [hel]
   show (nd _ i).elems=_
   rw [hnd,hn']
omit [Big F] in
theorem DK.count {ns:List DNode}(hns : ∀ n∈ns,DT n=0){h:Nat}{i:Int}{m m' : Nat}{s:Span}(c:DK ns h i m s)(hm:m'≤(nd ns i).elems.length+(nd ns i).kids.length):DK ns h i m' s:=by
 cases h with
 | zero =>
  have L:=c.leaf hns
  rw [L.kids] at hm
  exact⟨c.1,c.2.1,by simpa using hm,c.2.2.2⟩
 | succ h =>
  have L:=c.inner hns
  rw [L.elems] at hm
  exact⟨c.1,c.2.1,by simpa using hm,c.2.2.2⟩
theorem KE {sp:DSpot}{h:Nat}(ih:K9 F sp h){mf:Nat}{N:NL}{i:Int}{m:Nat}{s:Span}(hm:h<mf)(hc:Em N)(hl:N.length≤400)(c:DK (fN N) (h+1) i m s)(hn:(ids (fN N) (h+1) i).Nodup)(hs:inS s sp=true) :
 ∃ N3 K X T,Ae (Ib F sp) (mf+1) (N,i)=some (v0 N3 i ⟨2,[],K,X,T⟩)∧RemMid sp N N3 h i s (nd (fN N) i) K X T:=by
 have L:=c.inner hc
 have hr:=c.range
 rw [DD] at hr
 obtain⟨hnode,hat⟩:=c.node
 have hus:=c.used
 obtain⟨_,hk2,hmk,hch⟩:=c
 obtain⟨A,k,B,XA,XB,TA,t,TB,s',f⟩:=JU L.seps L.tids L.ord hch hs
 have hids:ids (fN N) (h+1) i=i.toNat::(nd (fN N) i).kids.flatMap (ids (fN N) h):=rfl
 generalize hnn:nd (fN N) i=n at *
 have hflN:n.kids.flatMap (ids (fN N) h)=A.flatMap (ids (fN N) h)++(ids (fN N) h k++B.flatMap (ids (fN N) h)):=by rw [f.kids,List.flatMap_append,List.flatMap_cons]
 have hn0:=hn
 rw [hids] at hn0
 rw [ids,hnn,f.kids] at hn
 obtain⟨d1,d2,d3⟩:=Gb hn
 have hN1 : ∀ j∈ids (fN N) h k,(wt N i)[j]? = N[j]?:=fun j hj=>DR N (fun e=>d1 (e▸hj))
 obtain⟨q1,q2,q3,q4⟩:=DK.agree (N':=wt N i) (by rw [Dz];exact Nat.le_refl _) f.here.1 hN1
 obtain⟨N2,hrun,P2⟩:=ih mf (wt N i) k 4 s' hm (hc.out i) (by rw [Dz];exact hl) (.inr (by omega)) q1 (by rw [q2];exact d2) f.in_
 have hlen2:N2.length=N.length:=by rw [P2.len,Dz]
 obtain⟨Z2,hZ2,hz2⟩:=P2.perm
 rw [q2] at hZ2
 have hout2 : ∀ j:Nat,j≠i.toNat→j ∉ ids (fN N) h k→N2[j]? = N[j]?:=fun j h1 h2=>by rw [P2.out j (by rw [q2];exact h2),DR N h1]
 have other : ∀ a,a∈A∨a∈B→∀ {m:Nat} {s:Span},DK (fN N) h a m s→_:=fun a ha m s c=>DK.agree (N:=N) (N':=N2) (by rw [hlen2];exact Nat.le_refl _) c fun j hj=>by
  obtain⟨x1,x2⟩:=d3 a ha
  exact hout2 j (fun e=>x1 (e▸hj)) (x2 j hj)
 have hkids : ∀ a,a∈A∨a∈B→∃ t' s'',DK (fN N) h a 4 s''∧(∀ x∈Dx (fN N) h a,Dy x≠sp):=fun a ha=>by
  rcases ha with ha | ha
  · obtain⟨t',s'',x1,x2⟩:=f.lo a ha
    exact⟨t',s'',x1.1,fun x hx e=>by have:=x2 _ ((x1.1.elems hc).2 x hx).1;rw [e,DC.refl] at this;omega⟩
  · obtain⟨t',s'',x1,x2⟩:=f.hi a ha
    exact⟨t',s'',x1.1,fun x hx e=>by have:=x2 _ ((x1.1.elems hc).2 x hx).1;rw [e,DC.refl] at this;omega⟩
 have flat : ∀(l:List Int),(∀ a∈l,a∈A∨a∈B)→l.flatMap (ids (fN N2) h)=l.flatMap (ids (fN N) h) ∧
  l.flatMap (Dx (fN N2) h)=(l.flatMap (Dx (fN N) h)).filter (Fm sp):=fun l hl=>by
  constructor
  · exact EX fun a ha=>by obtain ⟨t',s'',x1,_⟩:=hkids a (hl a ha);exact(other a (hl a ha) x1).2.1
  · rw [List.filter_flatMap]
    exact DV fun a ha=>by obtain ⟨t',s'',x1,x2⟩:=hkids a (hl a ha);rw [(other a (hl a ha) x1).2.2.1];exact(GY x2).symm
 have hfl2:n.kids.flatMap (ids (fN N2) h)=A.flatMap (ids (fN N) h)++(ids (fN N2) h k++B.flatMap (ids (fN N) h)):=by
  rw [f.kids,List.flatMap_append,List.flatMap_cons,(flat A fun a ha=>.inl ha).1,(flat B fun a ha=>.inr ha).1]
 have hperm:(n.kids.flatMap (ids (fN N) h)).Perm (Z2++n.kids.flatMap (ids (fN N2) h)):=by
  rw [hflN,hfl2]
  refine((hZ2.append_right _).append_left _).trans ?_
  rw [List.append_assoc]
  exact List.perm_append_comm_assoc _ _ _
 obtain⟨n1,n2⟩:=List.nodup_cons.1 hn0
 have hnp:=hperm.nodup_iff.1 n2
 obtain⟨m1,m2,m3⟩:=List.nodup_append.1 hnp
 have hsub : ∀ j∈n.kids.flatMap (ids (fN N2) h),j∈n.kids.flatMap (ids (fN N) h):=fun j hj=>hperm.mem_iff.2 (List.mem_append_right _ hj)
 have hi2:i.toNat ∉ n.kids.flatMap (ids (fN N2) h):=fun hj=>n1 (hsub _ hj)
 have hw:Fl n.seps sp=A.length:=f.way
 have hta:=f.ta
 have hxa:=f.xa
 have htb:=f.tb
 have hxb:=f.xb
 have hkl:n.kids.length=A.length+B.length+1:=by rw [f.kids];simp;omega
 have h8:=L.eight
 have h2:=L.two
 have hsl:=L.seps
 have htl:=L.tids
 obtain⟨g,hg⟩ : ∃ g,g=DE (nd (fN N2) k):=⟨_,rfl⟩
 have htids:n.tids.set A.length g=TA++g::TB:=by rw [f.tids,← hta,FA]
 have hgr:=Ec (F:=F) P2.chk P2.sub.range
 have hE : ∃ K X T N3,MB F n (nd (fN N2) k) (A.length:Int) g N2=some (K,X,T,N3)∧EvenPost N2 N3 h s n K X T:=by
  obtain⟨b1,b2⟩:=E9 (FE P2.chk P2.sub.range)
  unfold MB
  rw [w64 (by omega) (by omega),Int.toNat_natCast,htids]
  by_cases hlow:(nd (fN N2) k).elems.length+(nd (fN N2) k).kids.length<4
  · have wc:=f.turn (KI (fN N2) h k) (fun a t' s'' ha x=>⟨((other a ha x.1).1).weak (by omega),fun _=>⟨(other a ha x.1).1,by rw [(other a ha x.1).2.2.2];exact x.2⟩⟩) [k] [] [g] ⟨k,_,rfl,rfl,⟨P2.sub,fun hne=>absurd rfl hne⟩⟩
    have wc' : Ch (KI (fN N2) h k) n.seps s n.kids (TA++g::TB):=by rw [f.seps,f.kids];simpa using wc
    have hev : ∀ z:Nat,z+1<n.kids.length→(n.kids[z]? = some k∨n.kids[z+1]? = some k)→(bif ((A.length:Int) == (IntKind.i64.wrap ((n.kids.length:Int)-1))) then some (IntKind.i64.wrap ((A.length:Int)-1)) else some (A.length:Int):Option Int)=some (z:Int) →
     ∃ K X T N3,Jh F n (A.length:Int) g N2=some (K,X,T,N3)∧EvenPost N2 N3 h s n K X T:=fun z z1 z2 z3 =>
     LU P2.chk (by omega) (by rw [Int.toNat_natCast];exact htids) z1 h8 hsl (by simp;omega) z2 z3 L.ord L.ok wc' m2 hlow
    have hAk:n.kids[A.length]? = some k:=by rw [f.kids,List.getElem?_append_right (Nat.le_refl _)];simp
    obtain⟨K,X,T,N3,e1,e2⟩ : ∃ K X T N3,Jh F n (A.length:Int) g N2=some (K,X,T,N3)∧EvenPost N2 N3 h s n K X T:=by
     by_cases hB:B.length=0
     · refine hev (A.length-1) (by omega) (.inr (by rw [show A.length-1+1=A.length by omega];exact hAk)) ?_
       rw [w64 (by omega) (by omega),show ((A.length:Int) == (n.kids.length:Int)-1)=true by rw [beq_iff_eq];omega,cond_true,w64 (by omega) (by omega)]
       congr 1;omega
     · refine hev A.length (by omega) (.inl hAk) ?_
       rw [w64 (by omega) (by omega),show ((A.length:Int) == (n.kids.length:Int)-1)=false by rw [beq_eq_false_iff_ne];omega,cond_false]
    refine⟨K,X,T,N3,?_,e2⟩
    rw [decide_eq_true (by omega),cond_true,e1,obs]
  · have hsub4:DK (fN N2) h k 4 s':=P2.sub.count P2.chk (by omega)
    have cc:=f.turn (GO (fN N2) h) (fun a t' s'' ha x=>⟨(other a ha x.1).1,by rw [(other a ha x.1).2.2.2];exact x.2⟩) [k] [] [g] ⟨k,_,rfl,rfl,⟨hsub4,hg.symm⟩⟩
    refine⟨n.kids,n.seps,TA++g::TB,N2,?_,⟨rfl,fun _ _=>rfl,P2.chk,by rw [f.seps,f.kids];simpa using cc,by omega,Nat.le_refl _,L.ord,L.ok,⟨[],by simp,by simp⟩,rfl⟩⟩
    rw [decide_eq_false (by omega),cond_false]
 obtain⟨K,X,T,N3,hM,E⟩:=hE
 have hlen3:N3.length=N.length:=by rw [E.len,hlen2]
 refine⟨N3,K,X,T,?_,⟨hlen3,?_,fun j hj=>?_,E.chk,E.ch,E.more,E.few,E.ord,E.ok,?_,?_⟩⟩
 · show Ib F sp (Ae (Ib F sp) mf) (N,i)=_
   generalize Ae (Ib F sp) mf=rf at hrun
   have hix:idx n.kids (A.length:Int)=some k:=by rw [f.kids];exact EA _ _ _
   have hit:idx n.tids (A.length:Int)=some t:=by rw [f.tids,← hta];exact EA _ _ _
   unfold Ib
   dsimp only
   rw [hnode,obs,hk2,show ((2:Int) == 1)=false from rfl,cond_false,Fj n _ (Ev (D0 hk2 L)),obs,hw,hix,obs,hrun,obs,obs,P2.sub.node.1,obs,hgr,obs,hit,obs,← hg,hM,obs]
   dsimp only
   rw [FC (by rw [hlen3];exact hr),obs,L.elems]
 · rw [E.out _ hi2,P2.out _ (by rw [q2];exact d1)]
 · rw [hids,List.mem_cons,not_or] at hj
   rw [E.out j (fun hh=>hj.2 (hsub j hh)),hout2 j hj.1 (fun hh=>hj.2 (by rw [hflN];simp [hh]))]
 · obtain⟨Z3,hZ3,hz3⟩:=E.perm
   refine⟨Z2++Z3,?_,fun j hj=>?_⟩
   · rw [List.append_assoc]
     exact hperm.trans (hZ3.append_left _)
   · rcases List.mem_append.1 hj with hj | hj
     · rw [E.out j (fun hh=>m3 j hj j hh rfl)];exact hz2 j hj
     · exact hz3 j hj
 · rw [E.elems,f.kids,List.flatMap_append,List.flatMap_cons,List.flatMap_append,List.flatMap_cons,List.filter_append,List.filter_append,(flat A fun a ha=>.inl ha).2,(flat B fun a ha=>.inr ha).2,P2.elems,q3]
theorem KF {sp:DSpot}{N N3:NL}{h:Nat}{i:Int}{s:Span}{m:Nat}{K:List Int}{X:List DSpot}{T:List Int}(hl:N.length≤400)(c:DK (fN N) (h+1) i m s)(hc:Em N)(hn:(ids (fN N) (h+1) i).Nodup)(M:RemMid sp N N3 h i s (nd (fN N) i) K X T)(h2:2≤K.length) :
 RemPost sp N (v0 N3 i ⟨2,[],K,X,T⟩) (h+1) i s m:=by
 have L:=c.inner hc
 have hr:=c.range
 rw [DD] at hr
 have hmk:=c.2.2.1
 have hids:ids (fN N) (h+1) i=i.toNat::(nd (fN N) i).kids.flatMap (ids (fN N) h):=rfl
 have hels:Dx (fN N) (h+1) i=(nd (fN N) i).kids.flatMap (Dx (fN N) h):=rfl
 obtain⟨Z,hZ,hz⟩:=M.perm
 have hmore:=M.more
 have hfew:=M.few
 rw [hids] at hn
 obtain⟨n1,n2⟩:=List.nodup_cons.1 hn
 have hik:i.toNat ∉ K.flatMap (ids (fN N3) h):=fun hh=>n1 (hZ.mem_iff.2 (List.mem_append_right _ hh))
 have hck:=D0 (n:=⟨2,[],K,X,T⟩) rfl (EP M.chk (by rw [M.len];exact hl) M.ch h2 (by have:=L.eight;omega) M.ord M.ok)
 have hnd:nd (fN (v0 N3 i ⟨2,[],K,X,T⟩)) i=⟨2,[],K,X,T⟩:=Hj (by rw [M.len];exact hr)
 obtain⟨a1,a2,a3⟩:=En (N':=v0 N3 i ⟨2,[],K,X,T⟩) (by rw [DB];exact Nat.le_refl _) M.ch fun j hj=>DH N3 (show j≠i.toNat from fun h=>hik (by rw [← h];exact hj))
 refine⟨by rw [DB,M.len],fun j hj=>?_,M.chk.put hck,⟨?_,by rw [hnd],by rw [hnd];show m-1≤K.length;omega,by rw [hnd];exact a1⟩,⟨Z,?_,fun j hj=>?_⟩,?_⟩
 · have:=M.out j hj
   rw [hids,List.mem_cons,not_or] at hj
   rw [DH N3 hj.1,this]
 · rw [DD,DB,M.len];exact hr
 · rw [hids,ids,hnd]
   show List.Perm _ (Z++i.toNat::K.flatMap _)
   rw [a2]
   exact(List.Perm.cons _ hZ).trans List.perm_middle.symm
 · rw [DH N3 (show j≠i.toNat from fun e=>n1 (hZ.mem_iff.2 (List.mem_append_left _ (by rw [← e];exact hj))))]
   exact hz j hj
 · rw [hels,Dx,hnd,← M.elems]
   exact a3
theorem JC (sp:DSpot):∀ h,K9 F sp h:=by
 intro h
 induction h with
 | zero=>exact LG sp
 | succ h ih =>
  intro mf N i m s hm hc hl h3 c hn hs
  obtain⟨mf,rfl⟩ : ∃ q,mf=q+1:=⟨mf-1,by omega⟩
  obtain⟨N3,K,X,T,h1,M⟩:=KE (mf:=mf) ih (by omega) hc hl c hn hs
  have h4:m≤(nd (fN N) i).kids.length:=c.2.2.1
  have h5:=M.more
  exact⟨_,h1,KF hl c hc hn M (by omega)⟩
end
section

end
section

end
section

end
section
variable {F:Nat} [Big F]
theorem IR {n:DNode}(h:DT n=0):Ag n=some n:=by
 obtain⟨h1,h2⟩:=E9 h
 have h3:n.seps.length≤8∧n.tids.length≤8:=by
  rcases DX.1 h with h | h | h
  · rw [h.2.2.2.1,h.2.2.2.2];simp
  · rw [h.2.seps,h.2.tids];simp
  · have:=h.2.seps;have:=h.2.tids;omega
 unfold Ag
 rw [DL (by simp;omega) (by simp;omega),obs,DL (by simp;omega) (by simp;omega),obs,DL (by simp;omega) (by simp;omega),obs,DL (by simp;omega) (by simp;omega),obs]
 rfl
theorem Hy {N:NL}(h : ∀(j:Nat) (k:Int),N[j]?≠some (.inl k)):Bh N=some (fN N):=by
 have e:N=(fN N).map Sum.inr:=List.ext_getElem? fun j=>by
  rw [List.getElem?_map,F2]
  cases hj:N[j]? with
  | none=>rfl
  | some x =>
   cases x with
   | inl k=>exact absurd hj (h j k)
   | inr n=>rfl
 conv=>lhs;rw [e]
 exact Dc _
theorem Ft {t:DTree}(hl:t.nodes.length≤400)(hc : ∀ n∈t.nodes,DT n=0):yS F t=some t:=by
 unfold yS
 rw [D8 (fun k=>((t.nodes.take k).map (Sum.inr:DNode→Int ⊕ DNode),(k:Int))) t.nodes.length (by simp) (by omega) (fun k hk=>?_) (r:=t.nodes.map Sum.inr) ?_,obs,Dc,obs]
 · dsimp only
   rw [decide_eq_false (by omega),cond_false,List.take_length]
 · have hg:t.nodes[k]? = some t.nodes[k]:=gge hk
   have hr:BP 104 (((t.nodes.take k).map (Sum.inr:DNode→Int ⊕ DNode)).length+1)=some ():=by
    unfold BP;rw [List.length_map,List.length_take,if_pos ⟨by omega,by unfold maxLen;omega⟩]
   dsimp only
   rw [decide_eq_true (by omega),cond_true,DA,hg,obs,IR (hc _ (List.getElem_mem _)),obs,hr,obs,w64 (by omega) (by omega),List.take_add_one,hg,List.map_append]
   rfl
def nlT (t:DTree):NL:=t.nodes.map Sum.inr
theorem Ee (t:DTree):fN (nlT t)=t.nodes:=Mp _
theorem Hk {t:DTree}{j:Nat}{x:Int ⊕ DNode}(h:(nlT t)[j]? = some x):∃ n,t.nodes[j]? = some n∧x = .inr n:=by
 unfold nlT at h
 rw [List.getElem?_map] at h
 obtain⟨n,hn,rfl⟩:=Option.map_eq_some_iff.1 h
 exact⟨n,hn,rfl⟩
theorem HN {t:DTree}{h:Nat}(g:Good t h):Em (nlT t):=fun n hn=>by rw [Ee] at hn;exact g.chk n hn
theorem F5 {t:DTree}{h:Nat}(g:Good t h):DK (fN (nlT t)) h t.root (mOf 0 h) topS:=by
 rw [Ee];exact(HG g.chk h t.root 0 topS (Int.le_refl _)).1 g.ok
theorem Jg {α:Type}{p:α→Bool}:∀ {N:List α} {K:List Nat},K.Nodup→(∀(j:Nat) (x:α),N[j]? = some x→p x=true→j∈K)→N.countP p≤K.length
 | [],K,_,_=>Nat.zero_le _
 | a::N,K,hn,h=>by
  have hK : ∀(j:Nat) (x:α),N[j]? = some x→p x=true→j∈(K.filter (fun j=>j != 0)).map (· - 1):=fun j x hx hp =>
   List.mem_map.2 ⟨j+1,List.mem_filter.2 ⟨h (j+1) x (by simpa using hx) hp,by simp⟩,by simp⟩
  have hnd:((K.filter (fun j=>j != 0)).map (· - 1)).Nodup:=by
   unfold List.Nodup
   rw [List.pairwise_map]
   refine((hn.filter _).imp_of_mem fun {a b} ha hb hab e=>hab ?_)
   have h1:=(List.mem_filter.1 ha).2
   have h2:=(List.mem_filter.1 hb).2
   simp only [bne_iff_ne,ne_eq] at h1 h2
   omega
  have ih:=Jg hnd hK
  rw [List.length_map] at ih
  rw [List.countP_cons]
  by_cases hp:p a=true
  · have h0:0∈K:=h 0 a rfl hp
    have hlt:(K.filter (fun j=>j != 0)).length<K.length:=List.length_filter_lt_length_iff_exists.2 ⟨0,h0,by simp⟩
    rw [if_pos hp];omega
  · have:=List.length_filter_le (fun j=>j != 0) K
    rw [if_neg hp];omega
theorem KQ {t:DTree}{h:Nat}(g:Good t h):used (nlT t)≤(ids t.nodes h t.root).length:=by
 refine Jg g.nodup fun j x hx hp=>?_
 obtain⟨n,hn,rfl⟩:=Hk hx
 have hlt:=(ggs.1 hn).1
 exact g.all j hlt (by rw [GX hn];exact Fa.1 hp)
theorem LV {ns:List DNode}(hns : ∀ n∈ns,DT n=0):∀ {h:Nat} {i:Int} {s:Span},DK ns h i 4 s→3*(ids ns h i).length+1≤(Dx ns h i).length:=by
 intro h
 induction h with
 | zero =>
  intro i s c
  have:=c.2.2.1
  simp only [ids,Dx,List.length_singleton];omega
 | succ h ih =>
  intro i s c
  rw [ids,Dx,List.length_cons,List.length_flatMap,List.length_flatMap]
  have key : ∀ l:List Int,(∀ k∈l,3*(ids ns h k).length+1≤(Dx ns h k).length)→3*(l.map fun a=>(ids ns h a).length).sum+l.length≤(l.map fun a=>(Dx ns h a).length).sum:=by
   intro l
   induction l with
   | nil=>intro _;simp
   | cons a l ihl =>
    intro hk
    have:=ihl fun k h=>hk k (List.mem_cons_of_mem _ h)
    have:=hk a List.mem_cons_self
    simp only [List.map_cons,List.sum_cons,List.length_cons];omega
  have:=key (nd ns i).kids fun k hk=>by obtain ⟨t,s',x,_⟩:=c.2.2.2.mem k hk;exact ih x.1
  have:=c.2.2.1
  omega
theorem Lt {t:DTree}{h:Nat}(g:Good t h)(hl:(Dx t.nodes h t.root).length≤400):(ids t.nodes h t.root).length≤134∧h<134:=by
 have hh:=GF g.chk h t.root 0 topS g.ok
 have c:=F5 g
 rw [Ee] at c
 have:(ids t.nodes h t.root).length≤134:=by
  cases h with
  | zero=>simp [ids]
  | succ h =>
   have key : ∀ l:List Int,(∀ k∈l,3*(ids t.nodes h k).length+1≤(Dx t.nodes h k).length)→3*(l.map fun a=>(ids t.nodes h a).length).sum+l.length≤(l.map fun a=>(Dx t.nodes h a).length).sum:=by
    intro l
    induction l with
    | nil=>intro _;simp
    | cons a l ihl =>
     intro hk
     have:=ihl fun k h=>hk k (List.mem_cons_of_mem _ h)
     have:=hk a List.mem_cons_self
     simp only [List.map_cons,List.sum_cons,List.length_cons];omega
   have h1:=key (nd t.nodes t.root).kids fun k hk=>by obtain ⟨t',s',x,_⟩:=c.2.2.2.mem k hk;exact LV g.chk x.1
   have h2:2≤(nd t.nodes t.root).kids.length:=by have:=c.2.2.1;unfold mOf at this;simpa using this
   rw [Dx,List.length_flatMap] at hl
   rw [ids,List.length_cons,List.length_flatMap]
   omega
 omega
theorem HE {N:NL}{h:Nat}{root:Int}(hc:Em N)(hl:N.length≤400)(c:DK (fN N) h root (mOf 0 h) topS)(hn:(ids (fN N) h root).Nodup)(hall : ∀(j:Nat) (x:Int ⊕ DNode),N[j]? = some x→Ce x≠0→j∈ids (fN N) h root):Good ⟨root,fN N⟩ h:=by
 refine⟨by show (fN N).length≤400;rw [DD];exact hl,hc,(HG hc h root 0 topS (Int.le_refl _)).2 c,hn,fun i hi hk=>?_⟩
 have hi' : i<(fN N).length:=hi
 rw [DD] at hi'
 have hg:N[i]? = some N[i]:=gge hi'
 refine hall i _ hg fun h0=>hk ?_
 have:nd (fN N) (i:Int)=fN1 N[i]:=by unfold nd;rw [Int.toNat_natCast,F2,hg];rfl
 rw [this]
 cases hx:N[i] with
 | inl k=>rfl
 | inr n=>rw [hx] at h0;exact h0
theorem Mu (d:Int)(h:Nat):mOf d h≤4:=by
 unfold mOf
 split
 · exact Nat.le_refl _
 · split <;> omega
theorem Ju {t:DTree}{h:Nat}(g:Good t h){N' : NL}{K:List Nat}{c:Nat}(f:Fr2 (nlT t) N' (ids (fN (nlT t)) h t.root) K c)(hK : ∀ j∈K,∃ n:DNode,N'[j]? = some (.inr n)∧n.kind≠0):∀(j:Nat) (k:Int),N'[j]?≠some (.inl k):=fun j k hj=>by
 have hold : ∀(j:Nat) (x:Int ⊕ DNode),(nlT t)[j]? = some x→Ce x≠0→j∈ids (fN (nlT t)) h t.root:=fun j x hx hk=>by
  obtain⟨n,hn,rfl⟩:=Hk hx
  rw [Ee]
  exact g.all j (ggs.1 hn).1 (by rw [GX hn];exact hk)
 by_cases hk:k=0
 · subst hk
   obtain⟨n,_,h⟩:=Hk (f.zero j hj)
   cases h
 · rcases f.all j _ hj hk with h | ⟨h,y,hy,hyk⟩
   · obtain⟨n,hn,_⟩:=hK j h
     rw [hn] at hj;cases hj
   · exact h (hold j y hy hyk)
theorem Kt {t:DTree}{h:Nat}(g:Good t h){N' : NL}{K:List Nat}{c:Nat}(f:Fr2 (nlT t) N' (ids (fN (nlT t)) h t.root) K c):∀(j:Nat) (x:Int ⊕ DNode),N'[j]? = some x→Ce x≠0→j∈K:=fun j x hx hk=>by
 rcases f.all j x hx hk with h | ⟨h,y,hy,hyk⟩
 · exact h
 · obtain⟨n,hn,rfl⟩:=Hk hy
   exact absurd (by rw [Ee];exact g.all j (ggs.1 hn).1 (by rw [GX hn];exact hyk)) h
theorem KJ {t:DTree}{h:Nat}{e:DElem}(g:Good t h)(he:DG e=0)(hne : ∀ x∈Dx t.nodes h t.root,Dy x≠Dy e)(hl:(Dx t.nodes h t.root).length≤400) :
 ∃(root:Int) (N:NL),La F e (nlT t) t.root=some (root,N)∧Bh N=some (fN N)∧∃ h',Good ⟨root,fN N⟩ h'∧Dx (fN N) h' root=JX (Dx t.nodes h t.root) e:=by
 obtain⟨f1,f2⟩:=Lt g hl
 have hu:=KQ g
 have hF:=(inferInstance:Big F).le
 have c:=F5 g
 have hsort:=(EO g.chk h t.root 0 topS g.ok).1
 have hlen:(nlT t).length≤400:=by unfold nlT;rw [List.length_map];exact g.len
 obtain⟨N',sp,r,b,hrun,hpost⟩:=Lu (F:=F) he h F (nlT t) t.root (mOf 0 h) topS (by omega) (HN g) hlen (by omega) c (by rw [Ee];exact g.nodup) rfl (by rw [Ee];exact hne)
 have sorted : ∀ {ns:List DNode} {h' : Nat} {root:Int},Good ⟨root,ns⟩ h'→(∀ x,x∈Dx ns h' root↔x=e∨x∈Dx t.nodes h t.root)→Dx ns h' root=JX (Dx t.nodes h t.root) e:=fun {ns h' root} gg hm=>by
  refine IY (EO gg.chk h' root 0 topS gg.ok).1 (Hs hsort e) fun x=>?_
  rw [hm x,Jt]
  constructor
  · rintro(h | h)
    · exact .inl h
    · exact .inr ⟨h,hne x h⟩
  · rintro(h | h)
    · exact .inl h
    · exact .inr h.1
 unfold La
 rw [hrun,obs]
 dsimp only
 rcases hpost with ⟨rfl,P⟩ | ⟨rfl,hsp,P⟩
 · obtain⟨k,t',e1,e2,x⟩:=P.ch
   obtain rfl:t.root=k:=by simpa using e1
   have hK : [t.root].flatMap (ids (fN N') h)=ids (fN N') h t.root:=List.flatMap_singleton ..
   have fr:=P.fr
   rw [hK] at fr
   have hcap:N'.length≤400:=by have:=fr.cap;have:=fr.use;omega
   have gg:=HE fr.chk hcap x.1 fr.nodup (Kt g fr)
   refine⟨t.root,N',rfl,Hy (Ju g fr x.1.used),h,gg,sorted gg fun y=>?_⟩
   have:=P.elems y
   rw [List.flatMap_singleton,Ee] at this
   exact this
 · obtain⟨k,ks',t',ts',e1,e2,i1,x,k2,t2,e3,e4,y⟩:=P.ch
   obtain⟨rfl,rfl⟩ : t.root=k∧[r]=ks':=by simpa using e1
   obtain rfl:r=k2:=by simpa using e3
   have hK : [t.root,r].flatMap (ids (fN N') h)=ids (fN N') h t.root++ids (fN N') h r:=by simp
   have fr:=P.fr
   rw [hK] at fr
   have hcap:N'.length≤400:=by have:=fr.cap;have:=fr.use;omega
   have hKu : ∀ q∈ids (fN N') h t.root++ids (fN N') h r,∃ n:DNode,N'[q]? = some (.inr n)∧n.kind≠0:=fun q hq=>by
    rcases List.mem_append.1 hq with hq | hq
    · exact x.1.used q hq
    · exact y.1.used q hq
   obtain⟨N2,j,hT,tk⟩:=JI (F:=F) (N:=N') ⟨2,[],[t.root,r],[sp],[DE (nd (fN N') t.root),DE (nd (fN N') r)]⟩ (by omega)
   have cc:Ch (GO (fN N') h) [sp] topS [t.root,r] [DE (nd (fN N') t.root),DE (nd (fN N') r)]:=⟨t.root,[r],_,_,rfl,rfl,i1,⟨x.1,rfl⟩,r,_,rfl,rfl,⟨y.1,rfl⟩⟩
   have hck:=D0 (n:=⟨2,[],[t.root,r],[sp],[DE (nd (fN N') t.root),DE (nd (fN N') r)]⟩) rfl (EP fr.chk hcap cc (by simp) (by simp) (List.pairwise_singleton _ _) (by simpa using hsp))
   have fr2:=fr.take tk (Hn _ _ _ _) hck fun q hq=>by obtain ⟨n,hn,hk⟩:=hKu q hq;exact⟨_,hn,hk⟩
   have hlen2:N'.length≤N2.length:=by rcases tk.len with h | ⟨h,_⟩ <;> omega
   have hjK : ∀ q∈ids (fN N') h t.root++ids (fN N') h r,N2[q]? = N'[q]?:=fun q hq=>tk.same q fun e=>by
    subst e
    obtain⟨n,hn,hk⟩:=hKu q hq
    exact absurd (tk.free _ hn) hk
   obtain⟨a1,a2,a3⟩:=En hlen2 cc fun q hq=>hjK q (by rw [hK] at hq;exact hq)
   have hnd:nd (fN N2) (j:Int)=⟨2,[],[t.root,r],[sp],[DE (nd (fN N') t.root),DE (nd (fN N') r)]⟩:=FY (by rw [Int.toNat_natCast];exact tk.at_)
   have hjl:j<N2.length:=(ggs.1 tk.at_).1
   have hids:ids (fN N2) (h+1) (j:Int)=j::(ids (fN N') h t.root++ids (fN N') h r):=by
    rw [ids,hnd,Int.toNat_natCast]
    show j::[t.root,r].flatMap _=_
    rw [a2,hK]
   have sub:DK (fN N2) (h+1) (j:Int) (mOf 0 (h+1)) topS:=⟨by rw [DD];omega,by rw [hnd],by rw [hnd];unfold mOf;simp,by rw [hnd];exact a1⟩
   rw [← hids] at fr2
   have hcap2:N2.length≤400:=by have:=fr2.cap;have:=fr2.use;omega
   have gg:=HE fr2.chk hcap2 sub fr2.nodup (Kt g fr2)
   refine⟨(j:Int),N2,?_,Hy (Ju g fr2 sub.used),h+1,gg,sorted gg fun z=>?_⟩
   · rw [Bool.not_true,cond_false,x.1.node.1,obs,y.1.node.1,obs,Ec fr.chk x.1.range,obs,Ec fr.chk y.1.range,obs,IZ,hT,obs]
   · have:=P.elems z
     rw [Ee] at this
     rw [← this,Dx,hnd]
     show z∈[t.root,r].flatMap _↔_
     rw [a3]
theorem HK {t:DTree}{h:Nat}{e:DElem}(g:Good t h)(he:DG e=0) :
 ∃ N:NL,Ae (Gv F e) F (nlT t,t.root)=some N∧Bh N=some (fN N)∧Good ⟨t.root,fN N⟩ h∧Dx (fN N) h t.root=(Dx t.nodes h t.root).map (EH e):=by
 have hF:=(inferInstance:Big F).le
 have hh:=EY g
 obtain⟨N,hrun,P⟩:=Li (F:=F) he h F (nlT t) t.root (mOf 0 h) topS (by omega) (HN g) (F5 g) (by rw [Ee];exact g.nodup) rfl
 have hn:(ids (fN N) h t.root).Nodup:=by rw [P.ids,Ee];exact g.nodup
 have hin : ∀(j:Nat) (x:Int ⊕ DNode),N[j]? = some x→(∃ n,x = .inr n)∧(Ce x≠0→j∈ids (fN N) h t.root):=fun j x hx=>by
  by_cases hj:j∈ids (fN N) h t.root
  · obtain⟨n,hn,_⟩:=P.sub.used j hj
    rw [hn] at hx
    exact⟨⟨n,(Option.some.inj hx).symm⟩,fun _=>hj⟩
  · rw [P.out j (by rw [← P.ids];exact hj)] at hx
    obtain⟨n,hn,rfl⟩:=Hk hx
    exact⟨⟨n,rfl⟩,fun hk=>by
     rw [P.ids,Ee]
     exact g.all j (ggs.1 hn).1 (by rw [GX hn];exact hk)⟩
 refine⟨N,hrun,Hy fun j k hj=>?_,HE P.chk ?_ P.sub hn fun j x hx=>(hin j x hx).2,?_⟩
 · obtain⟨⟨n,hn⟩,_⟩:=hin j _ hj
   cases hn
 · rw [P.len];unfold nlT;rw [List.length_map];exact g.len
 · rw [P.elems,Ee]
theorem KM {α β:Type}(f:α→List β){l:List α}{k:Nat}(hk:k<l.length):(l.take (k+1)).flatMap f=(l.take k).flatMap f++f l[k]∧((l.take k).flatMap f).length+(f l[k]).length≤(l.flatMap f).length:=by
 have h1:(l.take (k+1)).flatMap f=(l.take k).flatMap f++f l[k]:=by
  rw [List.take_add_one,gge hk,List.flatMap_append];simp
 refine⟨h1,?_⟩
 have h2:l.flatMap f=(l.take (k+1)).flatMap f++(l.drop (k+1)).flatMap f:=by rw [← List.flatMap_append,List.take_append_drop]
 rw [h2,h1,List.length_append,List.length_append];omega
theorem Ih {t:DTree}{h:Nat}(g:Good t h):∀ n∈t.nodes,Small n:=fun n hn=>Ev (g.chk n hn)
def zT:DTree:=⟨0,[]⟩
end
section

end
end Go.Proofs.Ytcmkdoahkncakaa
namespace Go.Proofs.Ytcmkdoahkncakaa
set_option linter.unusedVariables false
set_option linter.unusedSimpArgs false
section walks
variable {τ α β:Type} {F:Nat}
def Ea (t:τ→α→τ × Nat):List α→τ→τ × Nat
 | [],a=>(a,0)
 | e::l,a=>if (t a e).2=0 then Ea t l (t a e).1 else t a e
theorem Fk (t:τ→α→τ × Nat):∀(l m:List α) (a:τ),Ea t (l++m) a=if (Ea t l a).2=0 then Ea t m (Ea t l a).1 else Ea t l a
 | [],m,a=>by simp [Ea]
 | e::l,m,a=>by
  rw [List.cons_append,Ea,Ea]
  by_cases h:(t a e).2=0
  · rw [if_pos h,if_pos h,Fk t l m]
  · rw [if_neg h,if_neg h,if_neg h]
theorem Gg (t:τ→α→τ × Nat)(p:α→Bool):∀(l:List α) (a:τ),Ea (fun st e=>if p e then t st e else (st,0)) l a=Ea t (l.filter p) a
 | [],a=>rfl
 | e::l,a=>by
  rw [Ea]
  by_cases h:p e=true
  · rw [if_pos h,List.filter_cons_of_pos h,Ea]
    by_cases h0:(t a e).2=0
    · rw [if_pos h0,if_pos h0,Gg t p l]
    · rw [if_neg h0,if_neg h0]
  · rw [if_neg h,if_pos rfl,List.filter_cons_of_neg h,Gg t p l]
theorem QQ (t:τ→α→τ × Nat)(g:β→List α):∀(l:List β) (a:τ),Ea (fun st k=>Ea t (g k) st) l a=Ea t (l.flatMap g) a
 | [],a=>rfl
 | b::l,a=>by
  rw [Ea,List.flatMap_cons,Fk,QQ t g l]
theorem HW (t:τ→α→τ × Nat)(len:τ→Nat)(ht : ∀ a e,len (t a e).1≤len a+1):∀(l:List α) (a:τ),len (Ea t l a).1≤len a+l.length
 | [],a=>Nat.le_refl _
 | e::l,a=>by
  rw [Ea,List.length_cons]
  have h1:=ht a e
  by_cases h:(t a e).2=0
  · rw [if_pos h]
    have:=HW t len ht l (t a e).1
    omega
  · rw [if_neg h];omega
theorem Iq {S R:Type}[Big F]{f:S→Option (S ⊕ R)}(t:τ→α→τ × Nat)(l:List α)(enc:τ→Int→S)(o0:τ→R)(o1:τ→Nat→R)(a:τ)(hn:l.length≤9223372036854775807){s:S}(h0:s=enc a 0)
 (hs : ∀(k:Nat) (e:α) (st:τ),l[k]? = some e→Ea t (l.take k) a=(st,0)→f (enc st (k:Int))=some (xy (t st e).2 (.inl (enc (t st e).1 ((k:Int)+1))) (fun n=>.inr (o1 (t st e).1 n))))
 (he : ∀ st,Ea t l a=(st,0)→f (enc st (l.length:Int))=some (.inr (o0 st))) :
 iter f F s=some (xy (Ea t l a).2 (o0 (Ea t l a).1) (fun n=>o1 (Ea t l a).1 n)):=by
 subst h0
 have key : ∀(m k N:Nat) (st:τ),k+m=l.length→m<N→Ea t (l.take k) a=(st,0)→iter f N (enc st (k:Int))=some (xy (Ea t l a).2 (o0 (Ea t l a).1) (fun n=>o1 (Ea t l a).1 n)):=by
  intro m
  induction m with
  | zero =>
   intro k N st hk hN hr
   obtain⟨N,rfl⟩ : ∃ M,N=M+1:=⟨N-1,by omega⟩
   rw [List.take_of_length_le (by omega)] at hr
   rw [iter,show k=l.length by omega,he st hr,hr];rfl
  | succ m ih =>
   intro k N st hk hN hr
   obtain⟨N,rfl⟩ : ∃ M,N=M+1:=⟨N-1,by omega⟩
   have hkl:k<l.length:=by omega
   have hg:=gge hkl
   have hsplit:Ea t l a=Ea t (l[k]::l.drop (k+1)) st:=by
    have h1:=Fk t (l.take k) (l.drop k) a
    rw [List.take_append_drop,hr,if_pos rfl,List.drop_eq_getElem_cons hkl] at h1
    exact h1
   rw [iter,hs k l[k] st hg hr]
   rw [Ea] at hsplit
   cases hz:(t st l[k]).2 with
   | zero =>
    rw [vV]
    refine ih (k+1) N _ (by omega) (by omega) ?_
    rw [List.take_add_one,hg,Fk,hr,if_pos rfl]
    show Ea t [l[k]] st=_
    rw [Ea,if_pos hz];rfl
   | succ n =>
    rw [if_neg (by omega)] at hsplit
    rw [vX,hsplit,hz,vX]
 exact key l.length 0 F a (by omega) (Hi hn) rfl
end walks
def geB (s:DSpot)(e:DElem):Bool:=decide (0≤cmpS (Dy e) s)
def Ex (ns:List DNode)(s:DSpot):Nat→Int→List DElem
 | 0,_=>[]
 | m+1,i=>(nd ns i).elems.filter (geB s)++(if (nd ns i).kind=1 then [] else ((nd ns i).kids.drop (Fl (nd ns i).seps s)).flatMap (Ex ns s m))
theorem KN (ns:List DNode)(s:DSpot):∀(m:Nat) (i:Int),(Ex ns s m i).Sublist (DM ns m i):=by
 intro m
 induction m with
 | zero=>intro i;exact List.Sublist.refl _
 | succ m ih =>
  intro i
  rw [Ex,DM]
  refine List.Sublist.append List.filter_sublist ?_
  split
  · exact List.nil_sublist _
  · have h1 : ∀ l : List Int, (l.flatMap (Ex ns s m)).Sublist (l.flatMap (DM ns m)) := by
     intro l
     induction l with
     | nil=>exact List.Sublist.refl _
     | cons a l ihl=>rw [List.flatMap_cons,List.flatMap_cons];exact(ih a).append ihl
    refine(h1 _).trans ?_
    have h2 : ∀(l:List Int) (k:Nat),((l.drop k).flatMap (DM ns m)).Sublist (l.flatMap (DM ns m)):=by
     intro l k
     conv=>rhs;rw [← List.take_append_drop k l,List.flatMap_append]
     exact List.sublist_append_right _ _
    exact h2 _ _
theorem FW {α β:Type}(p:β→Bool)(f:α→List β):∀ l:List α,(l.flatMap f).filter p=l.flatMap fun a=>(f a).filter p
 | []=>rfl
 | a::l=>by rw [List.flatMap_cons,List.flatMap_cons,List.filter_append,FW p f l]
theorem Lr {ns:List DNode}(hns : ∀ n∈ns,DT n=0)(s:DSpot):∀(h m:Nat) (i d:Int) (sp:Span),okN ns h i d sp→h<m→Ex ns s m i=(Dx ns h i).filter (geB s):=by
 intro h
 induction h with
 | zero =>
  intro m i d sp hok hm
  obtain⟨m,rfl⟩ : ∃ q,m=q+1:=⟨m-1,by omega⟩
  rw [Ex,Dx,if_pos hok.2.1,List.append_nil]
 | succ h ih =>
  intro m i d sp hok hm
  obtain⟨m,rfl⟩ : ∃ q,m=q+1:=⟨m-1,by omega⟩
  have hI:=(EQ hns hok.1 hok.2.1).2
  rw [Ex,Dx,if_neg hok.2.1.2,hI.elems,List.filter_nil,List.nil_append,FW]
  have hk : ∀ k∈(nd ns i).kids,Ex ns s m k=(Dx ns h k).filter (geB s):=fun k hk=>by
   obtain⟨q,hq⟩:=List.mem_iff_getElem?.1 hk
   exact ih m k _ _ (hok.2.2.2 (k,q) (FU hq)).1 (by omega)
  have hcong : ∀ l:List Int,(∀ k∈l,k∈(nd ns i).kids)→l.flatMap (Ex ns s m)=l.flatMap fun k=>(Dx ns h k).filter (geB s):=by
   intro l
   induction l with
   | nil=>intro _;rfl
   | cons a l ihl=>intro hl;rw [List.flatMap_cons,List.flatMap_cons,hk a (hl a List.mem_cons_self),ihl fun k hk=>hl k (List.mem_cons_of_mem _ hk)]
  rw [hcong _ fun k hk=>List.mem_of_mem_drop hk]
  have hnil:((nd ns i).kids.take (Fl (nd ns i).seps s)).flatMap (fun k=>(Dx ns h k).filter (geB s))=[]:=by
   rw [List.flatMap_eq_nil_iff]
   intro k hk
   rw [List.mem_take_iff_getElem] at hk
   obtain⟨q,hq,rfl⟩:=hk
   rw [List.filter_eq_nil_iff]
   intro e he
   have hqk:(nd ns i).kids[q]? = some (nd ns i).kids[q]:=gge (by omega)
   have h1:=(hok.2.2.2 (_,q) (FU hqk)).1
   have h2:=((EO hns h _ _ _ h1).2 e he).1
   have hw:=HI (nd ns i).seps s
   have hx:(nd ns i).seps[q]? = some (nd ns i).seps[q]:=gge (by omega)
   have h3:=HS hx h2
   have h4:=(I6 (nd ns i).seps s).1 q _ (by omega) hx
   have h5:=EC h3 h4
   unfold geB
   rw [decide_eq_true_eq]
   omega
  conv=>rhs;rw [← List.take_append_drop (Fl (nd ns i).seps s) (nd ns i).kids,List.flatMap_append,hnil,List.nil_append]
def L8 {τ:Type}(ns:List DNode)(s:DSpot)(len:τ→Nat)(m:Nat)(x:τ × Int):Prop:=Iu ns m x.2∧len x.1+(Ex ns s m x.2).length≤100000
theorem K0 {τ:Type}{t:DTree}{h:Nat}(hg:Good t h)(s:DSpot)(len:τ→Nat)(a:τ)(ha:len a=0){F:Nat}[Big F]:L8 t.nodes s len F (a,t.root):=by
 have hF:=(inferInstance:Big F).le
 have h4:=EY hg
 refine⟨⟨h,0,topS,by omega,hg.ok⟩,?_⟩
 dsimp only
 have h1:=(KN t.nodes s F t.root).length_le
 rw [Hd hg.chk h F t.root 0 topS hg.ok (by omega)] at h1
 have:=FN hg
 omega
theorem KP {t:DTree}{h:Nat}(hg:Good t h)(s:DSpot){F:Nat}[Big F]:Ex t.nodes s F t.root=(Dx t.nodes h t.root).filter (geB s):=by
 have hF:=(inferInstance:Big F).le
 have h4:=EY hg
 exact Lr hg.chk s h F t.root 0 topS hg.ok (by omega)
theorem LC {τ:Type}{ns:List DNode}(hns : ∀ n∈ns,DT n=0){s:DSpot}{len:τ→Nat}{m:Nat}{a b:τ}{i:Int}(h:L8 ns s len (m+1) (a,i))(h1:(nd ns i).kind≠1){t:τ→DElem→τ × Nat}(ht : ∀ a e,len (t a e).1≤len a+1)
 (hb:Ea t ((nd ns i).elems.filter (geB s)) a=(b,0)) {k:Nat} {e:Int} (hk:((nd ns i).kids.drop (Fl (nd ns i).seps s))[k]? = some e) {st:τ}
 (hr:Ea (fun st k=>Ea t (Ex ns s m k) st) (((nd ns i).kids.drop (Fl (nd ns i).seps s)).take k) b=(st,0)):L8 ns s len m (st,e):=by
 have hkids:=(h.1.kids hns).2
 refine⟨hkids e (List.mem_of_mem_drop (List.mem_of_getElem? hk)),?_⟩
 rw [QQ] at hr
 have q1:=HW t len ht ((nd ns i).elems.filter (geB s)) a
 rw [hb] at q1
 have q2:=HW t len ht ((((nd ns i).kids.drop (Fl (nd ns i).seps s)).take k).flatMap (Ex ns s m)) b
 rw [hr] at q2
 have h2:=h.2
 dsimp only at q1 q2 h2 ⊢
 rw [Ex,if_neg h1,List.length_append] at h2
 obtain⟨hkl,rfl⟩:=ggs.1 hk
 have h3:(((nd ns i).kids.drop (Fl (nd ns i).seps s)).flatMap (Ex ns s m)).length=((((nd ns i).kids.drop (Fl (nd ns i).seps s)).take k).flatMap (Ex ns s m)).length+(((((nd ns i).kids.drop (Fl (nd ns i).seps s)).drop k)).flatMap (Ex ns s m)).length:=by
  rw [← List.length_append,← List.flatMap_append,List.take_append_drop]
 rw [List.drop_eq_getElem_cons hkl,List.flatMap_cons,List.length_append] at h3
 omega
theorem MD {ns:List DNode}{i:Int}(hI:Inner (nd ns i))(s:DSpot):Fl (nd ns i).seps s≤(nd ns i).kids.length:=by
 have:=HI (nd ns i).seps s
 have:=hI.seps
 omega
end Go.Proofs.Ytcmkdoahkncakaa
namespace Go.Proofs.Ytcmkdoahkncakaa
set_option linter.unusedSimpArgs false
set_option linter.unusedVariables false
section
variable {F:Nat} [Big F]
end
section

end
section
variable {F:Nat} [Big F]
theorem Gh {t:DTree}{h h' : Nat}{root' : Int}{N' : NL}(g:Good t h)(len:N'.length=(nlT t).length)(out : ∀ j:Nat,j ∉ ids t.nodes h t.root→N'[j]? = (nlT t)[j]?)(chk:Em N')(sub:DK (fN N') h' root' (mOf 0 h') topS)
 (perm : ∃ Z,(ids t.nodes h t.root).Perm (Z++ids (fN N') h' root')∧∀ j∈Z,N'[j]? = some (.inr zN)):Bh N' = some (fN N')∧Good ⟨root',fN N'⟩ h':=by
 obtain⟨Z,hZ,hz⟩:=perm
 have key : ∀(j:Nat) (x:Int ⊕ DNode),N'[j]? = some x→(∃ n,x = .inr n)∧(Ce x≠0→j∈ids (fN N') h' root'):=fun j x hx=>by
  by_cases hj:j∈ids t.nodes h t.root
  · rcases List.mem_append.1 (hZ.mem_iff.1 hj) with hj | hj
    · rw [hz j hj] at hx
      obtain rfl:=Option.some.inj hx
      exact⟨⟨_,rfl⟩,fun hk=>absurd rfl hk⟩
    · obtain⟨n,hn,_⟩:=sub.used j hj
      rw [hn] at hx
      exact⟨⟨n,(Option.some.inj hx).symm⟩,fun _=>hj⟩
  · rw [out j hj] at hx
    obtain⟨n,hn,rfl⟩:=Hk hx
    exact⟨⟨n,rfl⟩,fun hk=>absurd (g.all j (ggs.1 hn).1 (by rw [GX hn];exact hk)) hj⟩
 refine⟨Hy fun j k hj=>?_,HE chk ?_ sub ?_ fun j x hx=>(key j x hx).2⟩
 · obtain⟨⟨n,hn⟩,_⟩:=key j _ hj
   cases hn
 · rw [len];unfold nlT;rw [List.length_map];exact g.len
 · exact(List.nodup_append.1 (hZ.nodup_iff.1 g.nodup)).2.1
theorem JB {N:NL}{i:Int}{n:DNode}(h:N[i.toNat]? = some (.inr n)):v0 (wt N i) i n=N:=by
 refine List.ext_getElem? fun j=>?_
 by_cases hj:j=i.toNat
 · subst hj
   rw [DY _ (by rw [Dz];exact(ggs.1 h).1),h]
 · rw [DH _ hj,DR _ hj]
theorem KY {t:DTree}{h:Nat}{sp:DSpot}(g:Good t h) :
 ∃(root:Int) (N:NL),L6 F sp (nlT t) t.root=some (N,root)∧Bh N=some (fN N)∧∃ h',Good ⟨root,fN N⟩ h'∧Dx (fN N) h' root=(Dx t.nodes h t.root).filter (Fm sp):=by
 have hF:=(inferInstance:Big F).le
 have hfu:=EY g
 have hc:=HN g
 have c:=F5 g
 have hlen:(nlT t).length≤400:=by unfold nlT;rw [List.length_map];exact g.len
 have hnd:(ids (fN (nlT t)) h t.root).Nodup:=by rw [Ee];exact g.nodup
 have hr:=c.range
 rw [DD] at hr
 unfold L6
 cases h with
 | zero =>
  obtain⟨N',hrun,P⟩:=JC (F:=F) sp 0 F (nlT t) t.root 0 topS (by omega) hc hlen (.inl rfl) c hnd rfl
  have c' : DK (fN N') 0 t.root 0 topS:=P.sub
  have L:=c'.leaf P.chk
  obtain⟨q1,q2⟩:=c'.node
  obtain⟨r1,r2⟩:=Gh g P.len (fun j hj=>P.out j (by rw [Ee];exact hj)) P.chk c' (by obtain ⟨Z,hZ,hz⟩:=P.perm;rw [Ee] at hZ;exact⟨Z,hZ,hz⟩)
  refine⟨t.root,N',?_,r1,0,r2,by rw [P.elems,Ee]⟩
  rw [hrun,obs,q1,obs,L.kids,show (((([]:List Int).length:Int)) == 1)=false from rfl,cond_false,obs,JB q2]
 | succ h =>
  obtain⟨f,hf⟩ : ∃ f,F=f+1:=⟨F-1,by omega⟩
  obtain⟨N3,K,X,T,hrun,M⟩:=KE (F:=F) (JC sp h) (mf:=f) (by omega) hc hlen c hnd rfl
  rw [← hf] at hrun
  have hids:ids t.nodes (h+1) t.root=t.root.toNat::(nd t.nodes t.root).kids.flatMap (ids t.nodes h):=rfl
  have hels:Dx t.nodes (h+1) t.root=(nd t.nodes t.root).kids.flatMap (Dx t.nodes h):=rfl
  have hMe:=M.elems
  obtain⟨Z,hZ,hz⟩:=M.perm
  rw [Ee] at hMe hZ
  have hn1:=g.nodup
  rw [hids] at hn1
  obtain⟨n1,n2⟩:=List.nodup_cons.1 hn1
  have hl3:=M.len
  have h2:2≤(nd t.nodes t.root).kids.length:=by have:=c.2.2.1;rw [Ee] at this;unfold mOf at this;simpa using this
  have hmore:=M.more
  rw [Ee] at hmore
  have hget:(v0 N3 t.root ⟨2,[],K,X,T⟩)[t.root.toNat]? = some (.inr ⟨2,[],K,X,T⟩):=DY _ (by rw [hl3];omega)
  have hnode:xp (v0 N3 t.root ⟨2,[],K,X,T⟩) t.root=some ⟨2,[],K,X,T⟩:=by
   unfold xp
   rw [if_neg (by omega),hget];rfl
  rw [hrun,obs,hnode,obs]
  dsimp only
  by_cases h1:K.length=1
  · obtain⟨k,rfl⟩:=List.length_eq_one_iff.1 h1
    obtain⟨X0,hX0⟩ : ∃ X0,X0=X:=⟨_,rfl⟩
    have hXl:=M.ch.lens.1
    obtain rfl:X=[]:=List.eq_nil_of_length_eq_zero (by simpa using hXl)
    obtain⟨k',t',e1,e2,q⟩:=M.ch
    obtain rfl:k=k':=by simpa using e1
    have hkn : ∀ j∈ids (fN N3) h k,j≠t.root.toNat:=fun j hj e=>n1 (hZ.mem_iff.2 (List.mem_append_right _ (by rw [List.flatMap_singleton,← e];exact hj)))
    have hN:v0 (wt (v0 N3 t.root ⟨2,[],[k],[],T⟩) t.root) t.root zN=v0 N3 t.root zN:=by
     unfold v0 wt
     rw [List.set_set,List.set_set]
    obtain⟨a1,a2,a3,a4⟩:=DK.agree (N':=v0 N3 t.root zN) (by rw [DB];exact Nat.le_refl _) q.1 fun j hj=>DH N3 (hkn j hj)
    rw [List.flatMap_singleton] at hMe hZ
    obtain⟨r1,r2⟩:=Gh (root':=k) g (by rw [DB];exact hl3) (fun j hj=>by
     have:=M.out j (by rw [Ee];exact hj)
     rw [hids,List.mem_cons,not_or] at hj
     rw [DH N3 hj.1,this]) (M.chk.put Kp) (a1.weak (Mu 0 h)) ⟨t.root.toNat::Z,by rw [hids,a2];exact List.Perm.cons _ hZ,fun j hj=>by
     rcases List.mem_cons.1 hj with rfl | hj
     · exact DY _ (by rw [hl3];omega)
     · rw [DH N3 (show j≠t.root.toNat from fun e=>n1 (hZ.mem_iff.2 (List.mem_append_left _ (by rw [← e];exact hj))))]
       exact hz j hj⟩
    refine⟨k,v0 N3 t.root zN,?_,r1,h,r2,by rw [a3,hMe,hels]⟩
    rw [show ((([k]:List Int).length:Int) == 1)=true from rfl,cond_true,FC (by rw [Dz,DB,hl3];exact hr),obs,show idx [k] 0=some k from rfl,obs,obs]
    dsimp only
    exact congrArg (fun q=>some (q,k)) hN
  · have P:=KF hlen c hc hnd M (by omega)
    have h2K:2≤K.length:=by omega
    have hck:=D0 (n:=⟨2,[],K,X,T⟩) rfl (EP M.chk (by rw [hl3];exact hlen) M.ch h2K (by have:=M.few;rw [Ee] at this;have:=(c.inner hc).eight;rw [Ee] at this;omega) M.ord M.ok)
    have hnd2:=FY hget
    have c' : DK (fN (v0 N3 t.root ⟨2,[],K,X,T⟩)) (h+1) t.root (mOf 0 (h+1)) topS :=
     ⟨P.sub.1,P.sub.2.1,by rw [hnd2];unfold mOf;simpa using h2K,P.sub.2.2.2⟩
    obtain⟨r1,r2⟩:=Gh g P.len (fun j hj=>P.out j (by rw [Ee];exact hj)) P.chk c' (by obtain ⟨Z,hZ,hz⟩:=P.perm;rw [Ee] at hZ;exact⟨Z,hZ,hz⟩)
    refine⟨t.root,_,?_,r1,h+1,r2,by rw [P.elems,Ee]⟩
    rw [show ((K.length:Int) == 1)=false by rw [beq_eq_false_iff_ne];omega,cond_false,obs,JB hget]
theorem MC {l:List DElem}{r:Nat}{x:DElem}(ho:l.Pairwise SpO)(hx:l[r]? = some x):l.filter (Fm (Dy x))=l.take r++l.drop (r+1):=by
 obtain⟨hr,he⟩:=ggs.1 hx
 have e:=FO l hr
 rw [he] at e
 have hnx:Fm (Dy x) x=false:=by unfold Fm;simp
 have ho':=ho
 rw [e] at ho'
 obtain⟨o1,o2,o3⟩:=List.pairwise_append.1 ho'
 conv=>lhs;rw [e]
 rw [List.filter_append,List.filter_cons,if_neg (by rw [hnx];decide),GY,GY]
 · intro y hy hs
   have h1:cmpS (Dy x) (Dy y)<0:=(List.pairwise_cons.1 o2).1 y hy
   rw [hs,DC.refl] at h1;omega
 · intro y hy hs
   have h1:cmpS (Dy y) (Dy x)<0:=o3 y hy x List.mem_cons_self
   rw [hs,DC.refl] at h1;omega
end
section
theorem Ij {t:DTree}{h:Nat}(hg:Good t h){F:Nat}[Big F]:DM t.nodes F t.root=Dx t.nodes h t.root:=by
 have hF:=(inferInstance:Big F).le
 have h4:=EY hg
 exact Hd hg.chk h F t.root 0 topS hg.ok (by omega)
end
section

end
section
variable {F:Nat} [Big F]
theorem Hx {t:DTree}(hs : ∀ n∈t.nodes,Small n){h:Nat}(hg:Good t h):yC F t=some (FM (Dx t.nodes h t.root)):=by
 unfold yC
 rw [Ez hs hg,obs]
 dsimp only
 rw [show ((0:Int) != 0)=false from rfl,cond_false,Fs];rfl
theorem Mt {l:List DElem}(hp:l.Pairwise SpO){i j:Nat}{a b:DElem}(hij:i≤j)(ha:l[i]? = some a)(hb:l[j]? = some b):cmpK a.key b.key≤0:=by
 by_cases e:i=j
 · subst e
   rw [ha] at hb
   obtain rfl:=Option.some.inj hb
   rw [DJ.refl];exact Int.le_refl _
 · have:=Ei hp (show i<j by omega) ha hb
   unfold SpO at this
   rcases Fc.1 this with h | ⟨h,_⟩
   · exact Int.le_of_lt h
   · unfold Dy at h
     dsimp only at h
     rw [h,DJ.refl];exact Int.le_refl _
theorem Lc {l:List DElem}(ho : ∀ e∈l,DG e=0)(k:DKey)(u:Int):(l.filter (geB ⟨k,0⟩)).find? (fun e=>e.key == k&&F0 e u)=atR l k u:=by
 unfold atR
 rw [List.find?_filter]
 have : ∀ m:List DElem,(∀ e∈m,e∈l)→m.find? (fun a=>decide (geB ⟨k,0⟩ a=true∧(a.key == k&&F0 a u)=true))=m.find? fun e=>e.key == k&&F0 e u:=by
  intro m
  induction m with
  | nil=>intro _;rfl
  | cons e m ih =>
   intro hm
   rw [List.find?_cons,List.find?_cons,ih fun x hx=>hm x (List.mem_cons_of_mem _ hx)]
   by_cases hk:e.key=k
   · obtain⟨_,h1,_⟩:=Fb (ho e (hm e List.mem_cons_self))
     have hge:geB ⟨k,0⟩ e=true:=by
      refine decide_eq_true ?_
      have h2:=DC.neg (Dy e) ⟨k,0⟩
      have:cmpS ⟨k,0⟩ (Dy e)<0:=Fc.2 (.inr ⟨hk.symm,by show (0:Int)<e.made;omega⟩)
      omega
     have hd:decide (geB ⟨k,0⟩ e=true∧(e.key == k&&F0 e u)=true)=(e.key == k&&F0 e u):=by cases hq:(e.key == k&&F0 e u) <;> simp [hge]
     rw [hd]
   · have:(e.key == k)=false:=by simpa using hk
     rw [this];simp
 first
 | exact this l fun e he=>he
 | (simp only [Bool.decide_and,Bool.decide_eq_true] at this;exact this l fun e he=>he)
theorem KO {l:List DElem}{k:DKey}:∀ e∈l.filter (geB ⟨k,0⟩),0≤cmpK e.key k:=fun e he=>by
 have h1:=(List.mem_filter.1 he).2
 unfold geB at h1
 have h1:=of_decide_eq_true h1
 by_cases h:cmpK e.key k<0
 · have:cmpS (Dy e) ⟨k,0⟩<0:=Fc.2 (.inl h)
   omega
 · omega
end
section
variable {F:Nat} [Big F]
abbrev FlatN:=Bool × Int × Int × Int × Int × Int × ByteArray
def flatN (e:DElem):FlatN:=(true,e.key.pfs,e.key.obj,e.key.off,e.made,e.gone,e.val)
def Fw (k:DKey)(st:FlatN)(e:DElem):FlatN × Nat:=if e.key≠k then (st,1) else if e.gone=0 then (flatN e,2) else (st,0)
theorem JH {k:DKey}{st:FlatN}{e:DElem}(h:e.key≠k):Fw k st e=(st,1):=if_pos h
theorem Kn {k:DKey}{st:FlatN}{e:DElem}(h:e.key=k)(hl:e.gone=0):Fw k st e=(flatN e,2):=by
 unfold Fw;rw [if_neg (fun h'=>h' h),if_pos hl]
theorem Km {k:DKey}{st:FlatN}{e:DElem}(h:e.key=k)(hl : ¬ e.gone=0):Fw k st e=(st,0):=by
 unfold Fw;rw [if_neg (fun h'=>h' h),if_neg hl]
theorem Mc (k:DKey)(u:Int):∀(l:List DElem),l.Pairwise SpO→(∀ e∈l,0≤cmpK e.key k)→(∀ e∈l,D5 e≤u)→∀ a:FlatN,(∃ e,l.find? (fun e=>e.key == k&&F0 e u)=some e∧Ea (Fw k) l a=(flatN e,2))∨(l.find? (fun e=>e.key == k&&F0 e u)=none∧∃ c,c≤1∧Ea (Fw k) l a=(a,c)):=by
 intro l
 induction l with
 | nil=>intro _ _ _ a;exact .inr ⟨rfl,0,by omega,rfl⟩
 | cons e l ih =>
  intro hp hk hu a
  have hlv:=Iv (hu e List.mem_cons_self)
  rw [Ea]
  by_cases he:e.key=k
  · have hb:(e.key == k)=true:=by simpa using he
    rw [List.find?_cons,hb,hlv]
    by_cases hl:e.gone=0
    · left
      rw [Kn he hl,if_neg (by simp),show (e.gone == 0)=true by simpa using hl]
      exact⟨e,rfl,rfl⟩
    · rw [Km he hl,if_pos rfl,show (e.gone == 0)=false by simpa using hl]
      exact ih (List.pairwise_cons.1 hp).2 (fun x hx=>hk x (List.mem_cons_of_mem _ hx)) (fun x hx=>hu x (List.mem_cons_of_mem _ hx)) a
  · right
    rw [JH he,if_neg (by simp)]
    refine⟨?_,1,Nat.le_refl _,rfl⟩
    rw [List.find?_eq_none]
    intro x hx hq
    have hxk:x.key=k:=by
     have:=(Bool.and_eq_true_iff.1 hq).1
     simpa using this
    have h1:=hk e List.mem_cons_self
    obtain⟨j,hj⟩:=List.mem_iff_getElem?.1 hx
    have h2:=Mt hp (i:=0) (j:=j) (Nat.zero_le _) rfl hj
    rw [hxk] at h2
    exact he ((DJ.zero _ _).1 (by omega))
def IV (o:Option DElem):DElem × Bool:=match o with
 | some e=>(e,true)
 | none=>(LQ,false)
theorem ES {t:DTree}{h:Nat}(hg:Good t h)(hr:Run (Dx t.nodes h t.root))(k:DKey):zt F t k=some (IV (Eh (Dx t.nodes h t.root) k)):=by
 have hs:=Ih hg
 have hlen : ∀(a:FlatN) (e:DElem),(fun _:FlatN=>0) (Fw k a e).1≤(fun _:FlatN=>0) a+1:=fun _ _=>Nat.zero_le _
 unfold zt
 rw [F3 (σ:=Bool × Int × Int × Int × Int × Int × ByteArray × Int) (fun m x=>match x with | (x0,x1,x2,x3,x4,x5,x6,x7)=>L8 t.nodes ⟨k,0⟩ (fun _:FlatN=>0) m ((x0,x1,x2,x3,x4,x5,x6),x7))
  (fun m x=>match x with | (x0,x1,x2,x3,x4,x5,x6,x7)=>let r:=Ea (Fw k) (Ex t.nodes ⟨k,0⟩ m x7) (x0,x1,x2,x3,x4,x5,x6);(r.2,r.1)) ?h0 ?hstep F _ (K0 hg ⟨k,0⟩ (fun _=>0) _ rfl)]
 case h0 =>
  rintro⟨x0,x1,x2,x3,x4,x5,x6,x7⟩ ⟨⟨h,d,s,hm,_⟩,_⟩
  omega
 case hstep =>
  rintro m self ih ⟨x0,x1,x2,x3,x4,x5,x6,x7⟩ hpre
  dsimp only at hpre
  obtain⟨⟨h0,h1⟩,hkids⟩:=hpre.1.kids hg.chk
  dsimp only at h0 h1 hkids ⊢
  have hmem:=EE h0 h1
  obtain⟨h8,h8'⟩:=E9 (hg.chk _ hmem)
  rw [GI h0 h1,obs]
  rw [Iq (fun st e=>if geB ⟨k,0⟩ e then Fw k st e else (st,0)) (nd t.nodes x7).elems (fun (st:FlatN) j=>(st.1,st.2.1,st.2.2.1,st.2.2.2.1,st.2.2.2.2.1,st.2.2.2.2.2.1,st.2.2.2.2.2.2,j)) Sum.inl (fun st n=>Sum.inr (n+1,st)) (x0,x1,x2,x3,x4,x5,x6) (by omega) rfl ?hs ?he]
  case hs =>
   rintro j e ⟨y0,y1,y2,y3,y4,y5,y6⟩ hj hr
   have hkl:=(ggs.1 hj).1
   dsimp only
   rw [decide_eq_true (by omega),cond_true,DA,hj,obs,DF,obs,DN,obs,w64 (by omega) (by omega)]
   unfold geB
   by_cases hge:0≤cmpS (Dy e) ⟨k,0⟩
   · rw [decide_eq_true hge,cond_true,if_pos rfl]
     unfold Fw
     by_cases hn:e.key=k
     · rw [if_neg (show ¬ e.key≠k by simpa using hn),show (!(e.key == k))=false by simpa using hn,cond_false]
       by_cases hz:e.gone=0
       · rw [if_pos hz,show (e.gone == 0)=true by simpa using hz];rfl
       · rw [if_neg hz,show (e.gone == 0)=false by simpa using hz];rfl
     · rw [if_pos hn,show (!(e.key == k))=true by simpa using hn];rfl
   · rw [decide_eq_false hge,cond_false,if_neg (by simp)];rfl
  case he =>
   rintro⟨y0,y1,y2,y3,y4,y5,y6⟩ hr
   dsimp only
   rw [decide_eq_false (by omega)];rfl
  rw [obs,Gg,Ex]
  cases hb:Ea (Fw k) ((nd t.nodes x7).elems.filter (geB ⟨k,0⟩)) (x0,x1,x2,x3,x4,x5,x6) with
  | mk b c =>
   rw [Fk,hb]
   cases c with
   | succ c=>rfl
   | zero =>
    obtain⟨b0,b1,b2,b3,b4,b5,b6⟩:=b
    dsimp only [xy]
    rw [if_pos rfl]
    by_cases hkd:(nd t.nodes x7).kind=1
    · rw [if_pos hkd,show ((nd t.nodes x7).kind == 1)=true by simpa using hkd];rfl
    · rw [if_neg hkd,show ((nd t.nodes x7).kind == 1)=false by simpa using hkd,cond_false]
      have hw:Fl (nd t.nodes x7).seps ⟨k,0⟩≤(nd t.nodes x7).kids.length:=by
       rcases DX.1 (hg.chk _ hmem) with q | q | q
       · rw [q.2.2.2.1];exact Nat.zero_le _
       · exact absurd q.1 hkd
       · exact MD q.2 ⟨k,0⟩
      rw [Fj _ ⟨k,0⟩ (hs _ hmem),obs,DQ hw,obs]
      rw [Iq (fun st j=>Ea (Fw k) (Ex t.nodes ⟨k,0⟩ m j) st) ((nd t.nodes x7).kids.drop (Fl (nd t.nodes x7).seps ⟨k,0⟩)) (fun (st:FlatN) j=>(st.1,st.2.1,st.2.2.1,st.2.2.2.1,st.2.2.2.2.1,st.2.2.2.2.2.1,st.2.2.2.2.2.2,j)) Sum.inl (fun st n=>Sum.inr (n+1,st)) (b0,b1,b2,b3,b4,b5,b6) (by rw [List.length_drop];omega) rfl ?hs2 ?he2]
      case hs2 =>
       rintro j e ⟨y0,y1,y2,y3,y4,y5,y6⟩ hk2 hr
       have hkl:=(ggs.1 hk2).1
       rw [List.length_drop] at hkl
       dsimp only
       rw [decide_eq_true (by rw [List.length_drop];omega),cond_true,DA,hk2,obs,ih (y0,y1,y2,y3,y4,y5,y6,e) (LC hg.chk hpre hkd hlen hb hk2 hr),obs,w64 (by omega) (by omega)]
       dsimp only
       cases hc:Ea (Fw k) (Ex t.nodes ⟨k,0⟩ m e) (y0,y1,y2,y3,y4,y5,y6) with
       | mk y c=>cases c <;> rfl
      case he2 =>
       rintro⟨y0,y1,y2,y3,y4,y5,y6⟩ hr
       dsimp only
       rw [decide_eq_false (by omega)];rfl
      rw [obs,QQ]
      cases hc:Ea (Fw k) (((nd t.nodes x7).kids.drop (Fl (nd t.nodes x7).seps ⟨k,0⟩)).flatMap (Ex t.nodes ⟨k,0⟩ m)) (b0,b1,b2,b3,b4,b5,b6) with
      | mk y c=>cases c <;> rfl
 rw [obs]
 dsimp only
 rw [KP hg ⟨k,0⟩]
 obtain⟨hsort,hall⟩:=EO hg.chk h t.root 0 topS hg.ok
 have hlast:=hr.last_le
 have hat:=Lc (fun e he=>(hall e he).2) k 2147483647 (l:=Dx t.nodes h t.root)
 rw [L5 hr hlast] at hat
 rcases Mc k 2147483647 _ (hsort.filter _) KO (fun e he=>by have:=FH (List.mem_filter.1 he).1;omega) (false,0,0,0,0,0,ByteArray.mk #[]) with ⟨e,h1,h2⟩ | ⟨h1,c,hc,h2⟩
 · rw [h2,← hat,h1];rfl
 · rw [h2,← hat,h1]
   have:c=0∨c=1:=by omega
   rcases this with rfl | rfl <;> rfl
theorem KR {ns:List DNode}(hns : ∀ n∈ns,DT n=0):∀ {h:Nat} {i:Int} {m:Nat} {s:Span},DK ns h i m s→DE (nd ns i)=Ed (Dx ns h i):=by
 intro h
 induction h with
 | zero =>
  intro i m s c
  have L:=c.leaf hns
  obtain⟨g1,g2,g3⟩:=GD (nd ns i)
  have g0:=(F6 (hns _ (EE c.range.1 c.range.2))).1
  have hnn:=GT (nd ns i).elems
  rw [Dx]
  refine Int.le_antisymm ?_ (FG.2 ⟨g0,g1⟩)
  rcases g3 with g3 | ⟨e,he,g3⟩ | ⟨t,ht,_⟩
  · omega
  · rw [← g3];exact FH he
  · rw [L.tids] at ht;cases ht
 | succ h ih =>
  intro i m s c
  have L:=c.inner hns
  obtain⟨g1,g2,g3⟩:=GD (nd ns i)
  have g0:=(F6 (hns _ (EE c.range.1 c.range.2))).1
  have hch:=c.2.2.2
  rw [Dx]
  have hnn:=GT ((nd ns i).kids.flatMap (Dx ns h))
  refine Int.le_antisymm ?_ (FG.2 ⟨g0,fun e he=>?_⟩)
  · rcases g3 with g3 | ⟨e,he,_⟩ | ⟨t,ht,g3⟩
    · omega
    · rw [L.elems] at he;cases he
    · obtain⟨k,s',hk,x⟩:=hch.tmem t ht
      rw [← g3,← x.2,ih x.1]
      exact FG.2 ⟨hnn,fun e he=>FH (List.mem_flatMap.2 ⟨k,hk,he⟩)⟩
  · obtain⟨k,hk,he⟩:=List.mem_flatMap.1 he
    obtain⟨q,hq⟩:=List.mem_iff_getElem?.1 hk
    obtain⟨t,s',ht,x,_⟩:=hch.at_ q k hq
    have h1:=g2 t (List.mem_of_getElem? ht)
    have h2:=FH he
    rw [← ih x.1,x.2] at h2
    omega
theorem EB {t:DTree}{h:Nat}(hg:Good t h)(u:Int):yY F t u=some (decide (u<1∨2147483647<u∨u<Ed (Dx t.nodes h t.root))):=by
 have c:=F5 hg
 rw [Ee] at c
 have hgr:=KR hg.chk c
 obtain⟨h0,h1⟩:=c.range
 unfold yY
 by_cases h2:u<1
 · rw [decide_eq_true h2,cond_true,obs,decide_eq_true (.inl h2)]
 · rw [decide_eq_false h2,cond_false]
   by_cases h3:2147483647<u
   · rw [decide_eq_true h3,cond_true,obs,decide_eq_true (.inr (.inl h3))]
   · rw [decide_eq_false h3,cond_false,GI h0 h1,obs,Eg _ (Ev (hg.chk _ (EE h0 h1))),obs,obs,hgr]
     congr 1
     rw [Bool.eq_iff_iff,decide_eq_true_eq,decide_eq_true_eq]
     omega
theorem Fn {t:DTree}{h:Nat}(hg:Good t h):zI F t=some (decide (400≤(Dx t.nodes h t.root).length)):=by
 have hlen : ∀(a:Nat) (e:DElem),(fun a:Nat=>a) ((fun (a:Nat) (_:DElem)=>(a+1,0)) a e).1≤(fun a:Nat=>a) a+1:=fun _ _=>Nat.le_refl _
 unfold zI
 rw [F3 (σ:=Int × Int) (fun m x=>Iu t.nodes m x.2∧0≤x.1∧x.1+((DM t.nodes m x.2).length:Int)≤100000) (fun m x=>x.1+((DM t.nodes m x.2).length:Int)) ?h0 ?hstep F _ ?hpre]
 case h0 =>
  rintro⟨x1,x2⟩ ⟨⟨h,d,s,hm,_⟩,_⟩
  omega
 case hpre =>
  have hF:=(inferInstance:Big F).le
  have h4:=EY hg
  refine⟨⟨h,0,topS,by omega,hg.ok⟩,Int.le_refl _,?_⟩
  dsimp only
  rw [Ij hg]
  have:=FN hg
  omega
 case hstep =>
  rintro m self ih ⟨x1,x2⟩ ⟨hok,hc0,hc1⟩
  obtain⟨⟨h0,h1⟩,hkids⟩:=hok.kids hg.chk
  dsimp only at h0 h1 hkids hc0 hc1 ⊢
  obtain⟨h8,h8'⟩:=E9 (hg.chk _ (EE h0 h1))
  rw [DM,List.length_append] at hc1
  rw [GI h0 h1,obs]
  rw [D8 (fun k=>(x1+(k:Int),(k:Int))) (nd t.nodes x2).elems.length (r:=x1+((nd t.nodes x2).elems.length:Int)) (by simp) (by omega) ?s1 ?e1]
  case s1 =>
   intro k hk
   dsimp only
   rw [decide_eq_true (by omega),cond_true,DA,gge hk,obs,w64 (by omega) (by omega),w64 (by omega) (by omega)]
   congr 3;omega
  case e1 =>
   dsimp only
   rw [decide_eq_false (by omega),cond_false]
  rw [obs]
  have hlen:((nd t.nodes x2).kids.flatMap (DM t.nodes m)).length≤100000:=by omega
  rw [D8 (fun k=>(x1+((nd t.nodes x2).elems.length:Int)+((((nd t.nodes x2).kids.take k).flatMap (DM t.nodes m)).length:Int),(k:Int))) (nd t.nodes x2).kids.length (r:=x1+((nd t.nodes x2).elems.length:Int)+(((nd t.nodes x2).kids.flatMap (DM t.nodes m)).length:Int)) (by simp) (by omega) ?s2 ?e2]
  case s2 =>
   intro k hk
   have hgk:(nd t.nodes x2).kids[k]? = some (nd t.nodes x2).kids[k]:=gge hk
   obtain⟨q1,q2⟩:=KM (DM t.nodes m) hk
   dsimp only
   rw [decide_eq_true (by omega),cond_true,DA,hgk,obs,ih _ ⟨hkids _ (List.getElem_mem _),by dsimp only;omega,by dsimp only;omega⟩,obs,w64 (by omega) (by omega)]
   dsimp only
   rw [q1,List.length_append]
   congr 3;omega
  case e2 =>
   dsimp only
   rw [decide_eq_false (by omega),cond_false,List.take_length]
  rw [obs,DM,List.length_append]
  congr 1;omega
 rw [obs,obs]
 dsimp only
 rw [Ij hg]
 congr 1
 rw [Bool.eq_iff_iff,decide_eq_true_eq,decide_eq_true_eq]
 omega
theorem KG {A B:List DElem}{e y:DElem}(hs:Dy y=Dy e)(ho:(A++e::B).Pairwise SpO):(A++e::B).map (EH y)=A++y::B:=by
 obtain⟨o1,o2,o3⟩:=List.pairwise_append.1 ho
 rw [List.map_append,List.map_cons,GM,GM]
 · unfold EH;rw [if_pos hs.symm]
 · intro x hx h
   have h1:cmpS (Dy e) (Dy x)<0:=(List.pairwise_cons.1 o2).1 x hx
   rw [h,hs,DC.refl] at h1;omega
 · intro x hx h
   have h1:cmpS (Dy x) (Dy e)<0:=o3 x hx e List.mem_cons_self
   rw [h,hs,DC.refl] at h1;omega
theorem Mb {A B:List DElem}{e:DElem}(ho:(A++e::B).Pairwise SpO):(A++e::B).filter (Fm (Dy e))=A++B:=by
 have hg:(A++e::B)[A.length]? = some e:=by rw [List.getElem?_append_right (Nat.le_refl _)];simp
 rw [MC ho hg,List.take_left' rfl,show A++e::B=(A++[e])++B by simp,List.drop_left' (by simp)]
section
variable {l:List DElem} {k:DKey} {t:Int} {v:ByteArray}
theorem Hl (h:Run l){e:DElem}(hn:Eh l k=some e):∃ a,l=(lo l k++a)++e::hi l k∧clo (hist l k) t=a++(if e.made=t then [] else [{ e with gone:=t }]):=by
 obtain⟨a,ha,hc⟩:=HA (t:=t) h.ord hn
 refine⟨a,?_,hc⟩
 conv=>lhs;rw [Gi k h.ord,ha]
 simp
theorem Ma (h:Run l){e:DElem}(hn:Eh l k=some e)(hm:e.made=t):l.map (EH (Ek k v t))=putR l k v t:=by
 obtain⟨a,h1,h2⟩:=Hl (t:=t) h hn
 have hk:=((EM h.ord).1 hn).2.1
 have ho:=Gj h.ord
 rw [h1] at ho
 have hsp:Dy (Ek k v t)=Dy e:=by unfold Dy Ek;rw [hk,hm]
 conv=>lhs;rw [h1]
 rw [KG hsp ho]
 unfold putR upd
 rw [h2,if_pos hm]
 simp
theorem HC (h:Run l){e:DElem}(hn:Eh l k=some e)(hm:e.made≠t):l.map (EH { e with gone:=t })=cutR l k t:=by
 obtain⟨a,h1,h2⟩:=Hl (t:=t) h hn
 have ho:=Gj h.ord
 rw [h1] at ho
 conv=>lhs;rw [h1]
 rw [KG (e:=e) (y:={ e with gone:=t }) rfl ho]
 unfold cutR upd
 rw [h2,if_neg hm]
 simp
theorem LR (h:Run l){e:DElem}(hn:Eh l k=some e)(hm:e.made=t):l.filter (Fm (Dy e))=cutR l k t:=by
 obtain⟨a,h1,h2⟩:=Hl (t:=t) h hn
 have ho:=Gj h.ord
 rw [h1] at ho
 conv=>lhs;rw [h1]
 rw [Mb ho]
 unfold cutR upd
 rw [h2,if_pos hm]
 simp
theorem Iy (h:Run l)(ht:Ed l≤t)(hc:DG (Ek k v t)=0):∀ x∈cutR l k t,Dy x≠Dy (Ek k v t):=by
 obtain⟨_,h0,h1,_⟩:=Gr hc
 obtain⟨c1,c2,c3⟩:=h.clo ht h0 h1 k
 intro x hx hs
 unfold cutR at hx
 have hk:x.key=k:=congrArg DSpot.key hs
 have hmd:x.made=t:=congrArg DSpot.made hs
 rcases (Gq h.ord).1 hx with hx | ⟨_,hx⟩
 · have:=(c3 x hx).2;omega
 · exact hx hk
theorem Jy (h:Run l)(hn:Eh l k=none):(putR l k v t).length=l.length+1:=by rw [FR h,hn]
theorem Jz (h:Run l){e:DElem}(hn:Eh l k=some e)(hm:e.made=t):(putR l k v t).length=l.length:=by rw [FR h,hn];exact if_pos hm
theorem JA (h:Run l){e:DElem}(hn:Eh l k=some e)(hm : ¬ e.made=t):(putR l k v t).length=l.length+1:=by rw [FR h,hn];exact if_neg hm
theorem L9 (h:Run l)(ht:Ed l≤t)(hc:DG (Ek k v t)=0)(hn:(putR l k v t).length≤400):JX (cutR l k t) (Ek k v t)=putR l k v t:=by
 obtain⟨_,h0,h1,_⟩:=Gr hc
 have hcut:=h.cutR ht h0 h1 k
 have hput:=h.putR ht hc hn
 refine IY (Hs (Gj hcut.ord) _) (Gj hput.ord) fun x=>?_
 rw [Jt]
 have hf:=Iy h ht hc
 unfold putR
 rw [Gq h.ord,List.mem_append,List.mem_singleton]
 constructor
 · rintro(rfl | ⟨hx,_⟩)
   · exact .inl (.inr rfl)
   · unfold cutR at hx
     rcases (Gq h.ord).1 hx with hx | hx
     · exact .inl (.inl hx)
     · exact .inr hx
 · rintro((hx | rfl) | hx)
   · have hm:x∈cutR l k t:=by unfold cutR;exact(Gq h.ord).2 (.inl hx)
     exact .inr ⟨hm,hf x hm⟩
   · exact .inl rfl
   · have hm:x∈cutR l k t:=by unfold cutR;exact(Gq h.ord).2 (.inr hx)
     exact .inr ⟨hm,hf x hm⟩
end
theorem Mv {N:NL}(h:Bh N=some (fN N))(root:Int):nlT ⟨root,fN N⟩=N:=(yf h).symm
theorem FQ {t:DTree}{h:Nat}(hg:Good t h):yC F t=some (FM (Dx t.nodes h t.root)):=Hx (Ih hg) hg
omit [Big F] in
theorem Hc (t:DTree)(k:DKey)(v:ByteArray)(u:Int):yA F t k v u=(yC F t).bind fun r1=>bif (r1 != 0) then some ((DTree.mk 0 []),r1) else (xM (DElem.mk k u 0 v)).bind fun r2=>bif (r2 != 0) then some ((DTree.mk 0 []),r2) else
 (yY F t u).bind fun r3=>bif r3 then some ((DTree.mk 0 []),9) else (zt F t k).bind fun r4=>(yS F t).bind fun r5 =>
 bif (r4.2&&(r4.1.made == u)) then (Ae (σ:=NL × Int) (ρ:=NL) (Gv F (DElem.mk k u 0 v)) F (nlT r5,r5.root)).bind fun q1=>(Bh q1).bind fun l1=>some ((DTree.mk r5.root l1),0)
 else (zI F t).bind fun r16=>bif r16 then some ((DTree.mk 0 []),8) else
  (bif r4.2 then (Ae (σ:=NL × Int) (ρ:=NL) (Gv F (DElem.mk r4.1.key r4.1.made u r4.1.val)) F (nlT r5,r5.root)).bind fun q2=>some q2 else some (nlT r5):Option NL).bind fun z5 =>
  (La F (DElem.mk k u 0 v) z5 r5.root).bind fun z=>match z with | (z10,z11)=>(Bh z11).bind fun l2=>some ((DTree.mk z10 l2),0):=rfl
theorem I8 {t:DTree}{h:Nat}(hg:Good t h)(k:DKey)(v:ByteArray)(u:Int)(hz:EG (Dx t.nodes h t.root) k v u≠0):yA F t k v u=some (zT,EG (Dx t.nodes h t.root) k v u):=by
 rw [Hc,FQ hg,obs]
 unfold EG at hz ⊢
 by_cases h1:FM (Dx t.nodes h t.root)=0
 rotate_left
 · rw [DU h1,cond_true,if_pos h1];rfl
 have hrun:=Er.1 h1
 rw [if_neg (by simpa using h1)] at hz ⊢
 rw [DI h1,cond_false,Eb,obs]
 by_cases h2:DG (Ek k v u)=0
 rotate_left
 · rw [show DElem.mk k u 0 v=Ek k v u from rfl,DU h2,cond_true,if_pos h2];rfl
 rw [if_neg (by simpa using h2)] at hz ⊢
 obtain⟨_,u0,u1,_⟩:=Gr h2
 rw [show DElem.mk k u 0 v=Ek k v u from rfl,DI h2,cond_false,EB hg,obs]
 by_cases h3:u<Ed (Dx t.nodes h t.root)
 · rw [decide_eq_true (.inr (.inr h3)),cond_true,if_pos h3];rfl
 rw [if_neg h3] at hz ⊢
 rw [decide_eq_false (by omega),cond_false,ES hg hrun,obs,Ft hg.len hg.chk,obs]
 have hl:=hrun.len
 by_cases h4:400<(putR (Dx t.nodes h t.root) k v u).length
 rotate_left
 · exact absurd (if_neg h4) hz
 rw [if_pos h4]
 have hnm:((IV (Eh (Dx t.nodes h t.root) k)).2&&((IV (Eh (Dx t.nodes h t.root) k)).1.made == u))=false:=by
  cases hn:Eh (Dx t.nodes h t.root) k with
  | none=>rfl
  | some e =>
   show (true&&(e.made == u))=false
   rw [Bool.true_and,beq_eq_false_iff_ne]
   intro hm
   have hpl:=Jz (v:=v) hrun hn hm
   omega
 have h5:400≤(Dx t.nodes h t.root).length:=by
  cases hn:Eh (Dx t.nodes h t.root) k with
  | none=>have hpl:=Jy (v:=v) (t:=u) hrun hn;omega
  | some e =>
   by_cases hm:e.made=u
   · have hpl:=Jz (v:=v) hrun hn hm;omega
   · have hpl:=JA (v:=v) hrun hn hm;omega
 rw [hnm,cond_false,Fn hg,obs,decide_eq_true h5,cond_true];rfl
theorem Gl {t:DTree}{h:Nat}(hg:Good t h)(k:DKey)(v:ByteArray)(u:Int)(hz:EG (Dx t.nodes h t.root) k v u=0) :
 ∃ t' h',yA F t k v u=some (t',0)∧Good t' h'∧Dx t'.nodes h' t'.root=putR (Dx t.nodes h t.root) k v u:=by
 obtain⟨hrun,hc,hlast,hput⟩:=Ix.1 hz
 obtain⟨_,u0,u1,_⟩:=Gr hc
 have hl:=hrun.len
 have hcut:=hrun.cutR hlast u0 u1 k
 have pre : ∀ r,((bif ((IV (Eh (Dx t.nodes h t.root) k)).2&&((IV (Eh (Dx t.nodes h t.root) k)).1.made == u)) then (Ae (σ:=NL × Int) (ρ:=NL) (Gv F (Ek k v u)) F (nlT t,t.root)).bind fun q1=>(Bh q1).bind fun l1=>some ((DTree.mk t.root l1),(0:Int))
  else (zI F t).bind fun r16=>bif r16 then some ((DTree.mk 0 []),8) else
   (bif (IV (Eh (Dx t.nodes h t.root) k)).2 then (Ae (σ:=NL × Int) (ρ:=NL) (Gv F (DElem.mk (IV (Eh (Dx t.nodes h t.root) k)).1.key (IV (Eh (Dx t.nodes h t.root) k)).1.made u (IV (Eh (Dx t.nodes h t.root) k)).1.val)) F (nlT t,t.root)).bind fun q2=>some q2 else some (nlT t):Option NL).bind fun z5 =>
   (La F (Ek k v u) z5 t.root).bind fun z=>match z with | (z10,z11)=>(Bh z11).bind fun l2=>some ((DTree.mk z10 l2),0))=r)→yA F t k v u=r:=fun r hh=>by
  rw [Hc,FQ hg,obs,DI (Er.2 hrun),cond_false,show DElem.mk k u 0 v=Ek k v u from rfl,Eb,obs,DI hc,cond_false,EB hg,obs,decide_eq_false (by omega),cond_false,ES hg hrun,obs,Ft hg.len hg.chk,obs]
  exact hh
 have add : ∀(t1:DTree),Good t1 h→t1.root=t.root→Dx t1.nodes h t1.root=cutR (Dx t.nodes h t.root) k u→∃ t' h',((La F (Ek k v u) (nlT t1) t.root).bind fun z=>match z with | (z10,z11)=>(Bh z11).bind fun l2=>some ((DTree.mk z10 l2),(0:Int)))=some (t',0)∧Good t' h'∧Dx t'.nodes h' t'.root=putR (Dx t.nodes h t.root) k v u:=fun t1 g1 hr1 he1=>by
  obtain⟨root,N,a1,a2,h',a3,a4⟩:=KJ (F:=F) (e:=Ek k v u) g1 hc (by rw [he1];exact Iy hrun hlast hc) (by rw [he1];exact hcut.len)
  rw [hr1] at a1
  refine⟨⟨root,fN N⟩,h',?_,a3,?_⟩
  · rw [a1,obs]
    dsimp only
    rw [a2,obs]
  · rw [a4,he1];exact L9 hrun hlast hc hput
 cases hn:Eh (Dx t.nodes h t.root) k with
 | none =>
  have hpl:=Jy (v:=v) (t:=u) hrun hn
  rw [hn] at pre
  obtain⟨t',h',a1,a2,a3⟩:=add t hg rfl (Ll hrun hn).symm
  refine⟨t',h',pre _ ?_,a2,a3⟩
  show (bif false then _ else _)=_
  rw [cond_false,Fn hg,obs,decide_eq_false (by omega),cond_false]
  show ((bif false then _ else some (nlT t):Option NL).bind _)=_
  rw [cond_false,obs]
  exact a1
 | some e =>
  rw [hn] at pre
  have hem:=(EM hrun.ord).1 hn
  by_cases hm:e.made=u
  · obtain⟨N,c1,c2,c3,c4⟩:=HK (F:=F) (e:=Ek k v u) hg hc
    refine⟨⟨t.root,fN N⟩,h,pre _ ?_,c3,by rw [c4];exact Ma hrun hn hm⟩
    show (bif (true&&(e.made == u)) then _ else _)=_
    rw [Bool.true_and,show (e.made == u)=true by rw [beq_iff_eq];exact hm,cond_true,c1,obs,c2,obs]
  · have hce : DG { e with gone := u } = 0 := by
     have h1:=hcut.ok { e with gone:=u }
     refine h1 ?_
     rw [← HC hrun hn hm]
     exact List.mem_map.2 ⟨e,hem.1,if_pos rfl⟩
    obtain⟨N,c1,c2,c3,c4⟩:=HK (F:=F) (e:={ e with gone:=u }) hg hce
    obtain⟨t',h',a1,a2,a3⟩:=add ⟨t.root,fN N⟩ c3 rfl (by rw [← HC hrun hn hm];exact c4)
    rw [Mv c2] at a1
    refine⟨t',h',pre _ ?_,a2,a3⟩
    have hpl:=JA (v:=v) hrun hn hm
    show (bif (true&&(e.made == u)) then _ else _)=_
    rw [Bool.true_and,show (e.made == u)=false by rw [beq_eq_false_iff_ne];exact hm,cond_false,Fn hg,obs,decide_eq_false (by omega),cond_false]
    show ((bif true then (Ae (σ:=NL × Int) (ρ:=NL) (Gv F { e with gone:=u }) F (nlT t,t.root)).bind _ else _:Option NL).bind _)=_
    rw [cond_true,c1,obs,obs]
    exact a1
omit [Big F] in
theorem Hb (t:DTree)(k:DKey)(u:Int):zr F t k u=(yC F t).bind fun r1=>bif (r1 != 0) then some ((DTree.mk 0 []),r1) else (yx k).bind fun r2=>bif (r2 != 0) then some ((DTree.mk 0 []),r2) else
 (yY F t u).bind fun r3=>bif r3 then some ((DTree.mk 0 []),9) else (zt F t k).bind fun r4=>bif (!r4.2) then some ((DTree.mk 0 []),4) else
 bif (r4.1.made == u) then (yS F t).bind fun r5=>(wj r4.1).bind fun r7=>(L6 F r7 (nlT r5) r5.root).bind fun z=>match z with | (z1,z2)=>(Bh z1).bind fun l1=>some ((DTree.mk z2 l1),0)
 else (yS F t).bind fun r43=>(Ae (σ:=NL × Int) (ρ:=NL) (Gv F (DElem.mk r4.1.key r4.1.made u r4.1.val)) F (nlT r43,r43.root)).bind fun q11=>(Bh q11).bind fun l2=>some ((DTree.mk r43.root l2),0):=rfl
theorem I7 {t:DTree}{h:Nat}(hg:Good t h)(k:DKey)(u:Int)(hz:Ff (Dx t.nodes h t.root) k u≠0):zr F t k u=some (zT,Ff (Dx t.nodes h t.root) k u):=by
 rw [Hb,FQ hg,obs]
 unfold Ff at hz ⊢
 by_cases h1:FM (Dx t.nodes h t.root)=0
 rotate_left
 · rw [DU h1,cond_true,if_pos h1];rfl
 have hrun:=Er.1 h1
 rw [if_neg (by simpa using h1)] at hz ⊢
 rw [DI h1,cond_false,Fq,obs]
 by_cases h2:GB k=0
 rotate_left
 · rw [DU h2,cond_true,if_pos h2];rfl
 rw [if_neg (by simpa using h2)] at hz ⊢
 rw [DI h2,cond_false,EB hg,obs]
 by_cases h3:u<1∨2147483647<u∨u<Ed (Dx t.nodes h t.root)
 · rw [decide_eq_true h3,cond_true,if_pos h3];rfl
 rw [if_neg h3] at hz ⊢
 rw [decide_eq_false h3,cond_false,ES hg hrun,obs]
 cases hn:Eh (Dx t.nodes h t.root) k with
 | none=>rfl
 | some e=>rw [hn] at hz;exact absurd rfl hz
theorem H7 {t:DTree}{h:Nat}(hg:Good t h)(k:DKey)(u:Int)(hz:Ff (Dx t.nodes h t.root) k u=0) :
 ∃ t' h',zr F t k u=some (t',0)∧Good t' h'∧Dx t'.nodes h' t'.root=cutR (Dx t.nodes h t.root) k u:=by
 obtain⟨hrun,hk,u0,u1,hlast,hnow⟩:=Ii.1 hz
 obtain⟨e,hn⟩:=Option.isSome_iff_exists.1 hnow
 have hem:=(EM hrun.ord).1 hn
 have hcut:=hrun.cutR hlast u0 u1 k
 rw [Hb,FQ hg,obs,DI (Er.2 hrun),cond_false,Fq,obs,DI hk,cond_false,EB hg,obs,decide_eq_false (by omega),cond_false,ES hg hrun,obs,hn]
 show ∃ t' h',(bif (!true) then _ else bif (e.made == u) then _ else _)=_∧_
 rw [Bool.not_true,cond_false]
 by_cases hm:e.made=u
 · obtain⟨root,N,o1,o2,h',o3,o4⟩:=KY (F:=F) (sp:=Dy e) hg
   refine⟨⟨root,fN N⟩,h',?_,o3,by rw [o4];exact LR hrun hn hm⟩
   rw [show (e.made == u)=true by rw [beq_iff_eq];exact hm,cond_true,Ft hg.len hg.chk,obs,DF,obs]
   show (L6 F (Dy e) (nlT t) t.root).bind _=_
   rw [o1,obs]
   dsimp only
   rw [o2,obs]
 · have hce : DG { e with gone := u } = 0 := by
    refine hcut.ok { e with gone:=u } ?_
    rw [← HC hrun hn hm]
    exact List.mem_map.2 ⟨e,hem.1,if_pos rfl⟩
   obtain⟨N,c1,c2,c3,c4⟩:=HK (F:=F) (e:={ e with gone:=u }) hg hce
   refine⟨⟨t.root,fN N⟩,h,?_,c3,by rw [c4];exact HC hrun hn hm⟩
   rw [show (e.made == u)=false by rw [beq_eq_false_iff_ne];exact hm,cond_false,Ft hg.len hg.chk,obs]
   show (Ae (σ:=NL × Int) (ρ:=NL) (Gv F { e with gone:=u }) F (nlT t,t.root)).bind _=_
   rw [c1,obs,c2,obs]
end
section

end
section
variable {F:Nat} [Big F]
theorem Mo {α:Type}[DecidableEq α](test:α→α→Bool)(ht : ∀ x y,test x y=true↔x=y)(p q:List α)(hp:p.length≤9223372036854775807) :
 (bif ((p.length:Int) != (q.length:Int)) then
  some false
 else
  (iter (σ:=Int) (ρ:=(Unit) ⊕ Bool) (fun x1 =>
   bif decide (x1<(p.length:Int)) then
    (idx p x1).bind fun e1 =>
    (idx q x1).bind fun e2 =>
    bif (!(test e1 e2)) then
     some (.inr (.inr false))
    else
     some (.inl (IntKind.i64.wrap (x1+1)))
    else
     some (.inr (.inl ()))) F 0).bind fun z=>match z with
  | .inl _ =>
   some true
  | .inr q=>some q)=some (decide (p=q)):=by
 by_cases hl:p.length=q.length
 · rw [show ((p.length:Int) != (q.length:Int))=false by rw [bne_eq_false_iff_eq];omega,cond_false]
   obtain⟨W,hW⟩ : ∃ W:Nat→α→Option (Unit ⊕ Bool),∀ k e,W k e=if q[k]? = some e then none else some (Sum.inr false):=⟨_,fun _ _=>rfl⟩
   rw [EK p W (Sum.inl ()) hp rfl (fun k e hk _=>?_) (by simp)]
   · by_cases he:p=q
     · subst he
       rw [EW.2 fun k e hk=>by rw [hW,if_pos hk],decide_eq_true rfl];rfl
     · rw [decide_eq_false he]
       cases hf:p.zipIdx.findSome? fun a=>W a.2 a.1 with
       | some r =>
        obtain⟨k,e,_,hr⟩:=FF hf
        rw [hW] at hr
        split at hr
        · cases hr
        · obtain rfl:=Option.some.inj hr;rfl
       | none =>
        exfalso
        apply he
        rw [EW] at hf
        apply List.ext_getElem?
        intro k
        cases hk:p[k]? with
        | none=>rw [List.getElem?_eq_none_iff] at hk;rw [List.getElem?_eq_none (by omega)]
        | some e =>
         have:=hf k e hk
         rw [hW] at this
         split at this
         · rename_i h;exact h.symm
         · cases this
   · have hkl:=(ggs.1 hk).1
     have hq:q[k]? = some (q[k]'(by omega)):=gge (by omega)
     rw [decide_eq_true (by omega),cond_true,DA,DA,hk,hq,obs,obs,w64 (by omega) (by omega),hW]
     by_cases he:q[k]'(by omega)=e
     · rw [if_pos (by rw [hq,he]),(ht _ _).2 he.symm];rfl
     · have hf : test e (q[k]'(by omega)) = false := by
        cases hx:test e (q[k]'(by omega))
        · rfl
        · exact absurd ((ht _ _).1 hx).symm he
       rw [if_neg (by rw [hq];simpa using he),hf];rfl
 · rw [show ((p.length:Int) != (q.length:Int))=true by rw [bne_iff_ne];omega,cond_true,decide_eq_false (fun e=>hl (by rw [e]))]
theorem Mn (p q:List DElem)(hp:p.length≤9223372036854775807):xJ F p q=some (decide (p=q)):=Mo (fun x y=>x == y) (fun x y=>by simp) p q hp
end
section
variable {F:Nat} [Big F]
theorem Lh {l:List DElem}(h : ¬ 400<l.length)(hb:JM l=none):ofR l=(EV l,0):=by
 unfold ofR;rw [if_neg h,hb]
theorem of_eq {l:List DElem}(hl:l.length≤400)(ho : ∀ e∈l,DG e=0)(hp:l.Pairwise SpO):yr F l=some (EV l):=by
 unfold yr
 rw [Jb,obs,Lh (by omega) (Ie.2 ⟨ho,hp⟩)]
theorem F4 {t:DTree}{h:Nat}(hg:Good t h):∀ n∈t.nodes,Small n:=fun n hn=>Ev (hg.chk n hn)
theorem LB {l:List DElem}(hl:l.length≤8)(ho : ∀ e∈l,DG e=0)(hp:l.Pairwise SpO):Good (EV l) 0∧Dx (EV l).nodes 0 (EV l).root=l∧(EV l).nodes.length=1:=by
 obtain⟨h,hg,he,hn,h1,hm⟩:=Ja (by omega) ho hp
 have h0:h=0:=by
  cases h with
  | zero=>rfl
  | succ h=>have:=hm 0 (by omega);rw [cN,KA hl] at this;omega
 subst h0
 exact⟨hg,he,by rw [hn,sNk,cN,KA hl]⟩
def JL (off:Int)(v:ByteArray):DElem:=⟨⟨0,0,off⟩,1,0,v⟩
theorem Mj (off:Int)(v:ByteArray):yj off v=some (JL off v):=rfl
theorem Mk {off:Int}{v:ByteArray}(h0:0≤off)(h1:off≤1000)(hv:v.size≤40):DG (JL off v)=0:=by
 unfold DG JL GB
 dsimp only
 rw [if_neg (by rw [if_neg (by omega)];simp),if_neg (by omega),if_neg (by omega)]
theorem Mw {e:DElem}(h:DG e=0):(∀ x∈[e],DG x=0)∧[e].Pairwise SpO:=⟨fun x hx=>by rw [List.mem_singleton.1 hx];exact h,List.pairwise_singleton _ _⟩
theorem HL {l:List DElem}(h:l.length≤9223372036854775807):xJ F l l=some true:=by rw [Mn l l h];simp
end
section
variable {F:Nat} [Big F]
theorem FB (F:Nat)[Big F](t:DTree)(k:DKey)(v:ByteArray)(u:Int)(ok:okTree t)(okk:okKey k)(okv:MF v)(_:v.size≤reachBytes)(oku:Ep .i64 u):yo F t k v u=some true:=by
 have hs:=Kk ok
 have hca:DG (JL 1 (ByteArray.mk #[97]))=0:=Mk (by decide) (by decide) (by decide)
 obtain⟨ho,hp⟩:=Mw hca
 obtain⟨hg,he,hn⟩:=LB (l:=[JL 1 (ByteArray.mk #[97])]) (by simp) ho hp
 have hz0:EG [JL 1 (ByteArray.mk #[97])] (DKey.mk 0 0 1) (ByteArray.mk #[98]) 2=0:=by decide
 obtain⟨t1,h1,k1,k2,k3⟩:=Gl (F:=F) hg (DKey.mk 0 0 1) (ByteArray.mk #[98]) 2 (by rw [he];exact hz0)
 rw [he] at k3
 have k4:putR [JL 1 (ByteArray.mk #[97])] (DKey.mk 0 0 1) (ByteArray.mk #[98]) 2=[DElem.mk (DKey.mk 0 0 1) 1 2 (ByteArray.mk #[97]),Ek (DKey.mk 0 0 1) (ByteArray.mk #[98]) 2]:=by decide
 rw [k4] at k3
 unfold yo
 rw [Mj,obs,of_eq (by simp) ho hp,obs,k1,obs]
 dsimp only
 rw [Ez (F4 k2) k2,k3,obs]
 dsimp only
 rw [DI rfl,cond_false,cond_false,show (((([DElem.mk (DKey.mk 0 0 1) 1 2 (ByteArray.mk #[97]),Ek (DKey.mk 0 0 1) (ByteArray.mk #[98]) 2]:List DElem).length:Nat):Int) != 2)=false from rfl,cond_false]
 show ((some false:Option Bool).bind _)=_
 rw [obs,cond_false]
 by_cases hc:Jc F t=0
 rotate_left
 · rw [I4 hs hc,obs]
   dsimp only
   rw [DU hc,cond_true,obs,cond_true]
 obtain⟨h,g⟩:=Ig.1 hc
 rw [Ez hs g,obs]
 dsimp only
 have hsm:=FN g
 rw [DI rfl,cond_false,Fs,obs,obs]
 by_cases hr:FM (Dx t.nodes h t.root)=0
 rotate_left
 · rw [DU hr,cond_true]
 rw [DI hr,cond_false]
 have hrun:=Er.1 hr
 have P : ∃ tp,yA F t k v u=some (tp,EG (Dx t.nodes h t.root) k v u)∧(EG (Dx t.nodes h t.root) k v u=0→yD F tp=some (putR (Dx t.nodes h t.root) k v u,0)∧(putR (Dx t.nodes h t.root) k v u).length≤400):=by
  by_cases hz:EG (Dx t.nodes h t.root) k v u=0
  · obtain⟨t',h',a1,a2,a3⟩:=Gl (F:=F) g k v u hz
    exact⟨t',by rw [hz];exact a1,fun _=>⟨by rw [Ez (F4 a2) a2,a3],(Ix.1 hz).2.2.2⟩⟩
  · exact⟨_,I8 g k v u hz,fun h=>absurd h hz⟩
 have C : ∃ tp,zr F t k u=some (tp,Ff (Dx t.nodes h t.root) k u)∧(Ff (Dx t.nodes h t.root) k u=0→yD F tp=some (cutR (Dx t.nodes h t.root) k u,0)∧(cutR (Dx t.nodes h t.root) k u).length≤400):=by
  by_cases hz:Ff (Dx t.nodes h t.root) k u=0
  · obtain⟨t',h',a1,a2,a3⟩:=H7 (F:=F) g k u hz
    obtain⟨_,_,u0,u1,hl,_⟩:=Ii.1 hz
    exact⟨t',by rw [hz];exact a1,fun _=>⟨by rw [Ez (F4 a2) a2,a3],(hrun.cutR hl u0 u1 k).len⟩⟩
  · exact⟨_,I7 g k u hz,fun h=>absurd h hz⟩
 obtain⟨tp,p1,p2⟩:=P
 obtain⟨tc,c1,c2⟩:=C
 rw [p1,obs,Ki,obs,c1,obs,Kh,obs]
 dsimp only
 rw [show (EG (Dx t.nodes h t.root) k v u != EG (Dx t.nodes h t.root) k v u)=false by simp,show (Ff (Dx t.nodes h t.root) k u != Ff (Dx t.nodes h t.root) k u)=false by simp,Bool.or_false,cond_false]
 have B1:(bif (EG (Dx t.nodes h t.root) k v u == 0) then
  (yD F tp).bind fun r11 =>
  (
   bif (r11.2 != 0) then
    some true
    else
     (xJ F r11.1 (if EG (Dx t.nodes h t.root) k v u=0 then putR (Dx t.nodes h t.root) k v u else [])).bind fun r12 =>
     some (!r12):Option (Bool)).bind fun z3 =>
  bif z3 then
   some (.inr false)
  else
   some (.inl ())
  else
   some (.inl ()):Option ((Unit) ⊕ Bool))=some (.inl ()):=by
  by_cases hz:EG (Dx t.nodes h t.root) k v u=0
  · obtain⟨q1,q2⟩:=p2 hz
    rw [hz,show ((0:Int) == 0)=true from rfl,cond_true,q1,obs]
    dsimp only
    rw [DI rfl,cond_false,if_pos rfl,HL (by omega),obs,Bool.not_true,obs,cond_false]
  · rw [show (EG (Dx t.nodes h t.root) k v u == 0)=false by rw [beq_eq_false_iff_ne];exact hz,cond_false]
 have B2:(bif (Ff (Dx t.nodes h t.root) k u == 0) then
  (yD F tc).bind fun r11 =>
  (
   bif (r11.2 != 0) then
    some true
    else
     (xJ F r11.1 (if Ff (Dx t.nodes h t.root) k u=0 then cutR (Dx t.nodes h t.root) k u else [])).bind fun r12 =>
     some (!r12):Option (Bool)).bind fun z3 =>
  bif z3 then
   some (.inr false)
  else
   some (.inl ())
  else
   some (.inl ()):Option ((Unit) ⊕ Bool))=some (.inl ()):=by
  by_cases hz:Ff (Dx t.nodes h t.root) k u=0
  · obtain⟨q1,q2⟩:=c2 hz
    rw [hz,show ((0:Int) == 0)=true from rfl,cond_true,q1,obs]
    dsimp only
    rw [DI rfl,cond_false,if_pos rfl,HL (by omega),obs,Bool.not_true,obs,cond_false]
  · rw [show (Ff (Dx t.nodes h t.root) k u == 0)=false by rw [beq_eq_false_iff_ne];exact hz,cond_false]
 refine Eq.trans (congrArg (fun q=>Option.bind q _) B1) ?_
 rw [obs]
 dsimp only
 refine Eq.trans (congrArg (fun q=>Option.bind q _) B2) ?_
 rw [obs]
end
section
open Go.RowKit
theorem LD:ownKnob Try.prog.godebug=none:=by kernel_rfl
theorem K1:laidOutB Try.prog=true:=by kernel_rfl
theorem Mx:DZ Try.prog 26 Dv okKey:=KW Try.underlying26 (by kernel_rfl) rfl (by kernel_rfl) (Eu Try.underlying3) rfl (by kernel_rfl) (Eu Try.underlying3) rfl (by kernel_rfl) (Eu Try.underlying3)
theorem MK:DZ Try.prog 28 eElem okElem:=J8 Try.underlying28 (by kernel_rfl) rfl (by kernel_rfl) Mx rfl (by kernel_rfl) (Eu Try.underlying3) rfl (by kernel_rfl) (Eu Try.underlying3) rfl (by kernel_rfl) (KX Try.underlying9)
theorem ML:DZ Try.prog 34 (yF eElem) (EF 56 okElem):=FP Try.underlying34 (by kernel_rfl) (by kernel_rfl) MK
theorem MG:DZ Try.prog 47 (yF va) (EF 8 (Ep .i64)):=FP Try.underlying47 (by kernel_rfl) (by kernel_rfl) (Eu Try.underlying3)
theorem MM:DZ Try.prog 43 eSpot okSpot:=Ka Try.underlying43 (by kernel_rfl) rfl (by kernel_rfl) Mx rfl (by kernel_rfl) (Eu Try.underlying3)
theorem MN:DZ Try.prog 95 (yF eSpot) (EF 32 okSpot):=FP Try.underlying95 (by kernel_rfl) (by kernel_rfl) MM
theorem MO:DZ Try.prog 97 wY okNode:=J9 Try.underlying97 (by kernel_rfl) rfl (by kernel_rfl) (Eu Try.underlying3) rfl (by kernel_rfl) ML rfl (by kernel_rfl) MG rfl (by kernel_rfl) MN rfl (by kernel_rfl) MG
theorem MI:DZ Try.prog 22 (yF wY) (EF 104 okNode):=FP Try.underlying22 (by kernel_rfl) (by kernel_rfl) MO
theorem MJ:DZ Try.prog 24 yP okTree:=Kb Try.underlying24 (by kernel_rfl) rfl (by kernel_rfl) (Eu Try.underlying3) rfl (by kernel_rfl) MI
set_option maxRecDepth 100000
def orderSigns:List Char:=[.ofNat 104,.ofNat 97,.ofNat 114,.ofNat 110,.ofNat 101,.ofNat 115,.ofNat 115,.ofNat 32,.ofNat 99,.ofNat 101,.ofNat 99,.ofNat 102,.ofNat 54,.ofNat 48,.ofNat 102,.ofNat 51,.ofNat 55,.ofNat 50,.ofNat 101,.ofNat 51,.ofNat 100,.ofNat 49,.ofNat 52,.ofNat 50,.ofNat 50,.ofNat 55,.ofNat 56,.ofNat 55,.ofNat 56,.ofNat 48,.ofNat 54,.ofNat 102,.ofNat 57,.ofNat 56,.ofNat 52,.ofNat 57,.ofNat 100,.ofNat 99,.ofNat 53,.ofNat 97,.ofNat 51,.ofNat 52,.ofNat 52,.ofNat 55,.ofNat 100,.ofNat 55,.ofNat 51,.ofNat 53,.ofNat 56,.ofNat 54,.ofNat 102,.ofNat 102,.ofNat 51,.ofNat 49,.ofNat 50,.ofNat 100,.ofNat 57,.ofNat 100,.ofNat 102,.ofNat 55,.ofNat 50,.ofNat 99,.ofNat 53,.ofNat 101,.ofNat 54,.ofNat 50,.ofNat 55,.ofNat 100,.ofNat 54,.ofNat 55,.ofNat 55,.ofNat 101,.ofNat 32,.ofNat 99,.ofNat 117,.ofNat 116,.ofNat 32,.ofNat 97,.ofNat 116,.ofNat 32,.ofNat 97,.ofNat 110,.ofNat 110,.ofNat 97,.ofNat 108,.ofNat 105,.ofNat 115,.ofNat 116,.ofNat 47,.ofNat 97,.ofNat 110,.ofNat 110,.ofNat 97,.ofNat 108,.ofNat 107,.ofNat 101,.ofNat 101,.ofNat 112,.ofNat 46,.ofNat 71,.ofNat 114,.ofNat 111,.ofNat 119,.ofNat 83,.ofNat 101,.ofNat 116,.ofNat 115,.ofNat 32,.ofNat 97,.ofNat 110,.ofNat 110,.ofNat 97,.ofNat 108,.ofNat 105,.ofNat 115,.ofNat 116,.ofNat 47,.ofNat 97,.ofNat 110,.ofNat 110,.ofNat 97,.ofNat 108,.ofNat 107,.ofNat 101,.ofNat 101,.ofNat 112,.ofNat 46,.ofNat 83,.ofNat 104,.ofNat 114,.ofNat 105,.ofNat 110,.ofNat 107,.ofNat 83,.ofNat 111,.ofNat 109,.ofNat 101,.ofNat 32,.ofNat 97,.ofNat 110,.ofNat 110,.ofNat 97,.ofNat 108,.ofNat 105,.ofNat 115,.ofNat 116,.ofNat 47,.ofNat 97,.ofNat 110,.ofNat 110,.ofNat 97,.ofNat 108,.ofNat 107,.ofNat 101,.ofNat 101,.ofNat 112,.ofNat 46,.ofNat 83,.ofNat 104,.ofNat 114,.ofNat 105,.ofNat 110,.ofNat 107,.ofNat 65,.ofNat 108,.ofNat 108,.ofNat 32,.ofNat 97,.ofNat 110,.ofNat 110,.ofNat 97,.ofNat 108,.ofNat 105,.ofNat 115,.ofNat 116,.ofNat 47,.ofNat 97,.ofNat 110,.ofNat 110,.ofNat 97,.ofNat 108,.ofNat 107,.ofNat 101,.ofNat 101,.ofNat 112,.ofNat 46,.ofNat 80,.ofNat 114,.ofNat 117,.ofNat 110,.ofNat 101,.ofNat 83,.ofNat 116,.ofNat 101,.ofNat 112,.ofNat 115,.ofNat 32,.ofNat 97,.ofNat 110,.ofNat 110,.ofNat 97,.ofNat 108,.ofNat 105,.ofNat 115,.ofNat 116,.ofNat 47,.ofNat 97,.ofNat 110,.ofNat 110,.ofNat 97,.ofNat 108,.ofNat 107,.ofNat 101,.ofNat 101,.ofNat 112,.ofNat 46,.ofNat 71,.ofNat 114,.ofNat 111,.ofNat 119,.ofNat 79,.ofNat 114,.ofNat 100,.ofNat 101,.ofNat 114,.ofNat 115,.ofNat 32,.ofNat 97,.ofNat 110,.ofNat 110,.ofNat 97,.ofNat 108,.ofNat 105,.ofNat 115,.ofNat 116,.ofNat 47,.ofNat 97,.ofNat 110,.ofNat 110,.ofNat 97,.ofNat 108,.ofNat 107,.ofNat 101,.ofNat 101,.ofNat 112,.ofNat 46,.ofNat 84,.ofNat 114,.ofNat 101,.ofNat 101,.ofNat 69,.ofNat 109,.ofNat 112,.ofNat 116,.ofNat 121,.ofNat 32,.ofNat 97,.ofNat 110,.ofNat 110,.ofNat 97,.ofNat 108,.ofNat 105,.ofNat 115,.ofNat 116,.ofNat 47,.ofNat 97,.ofNat 110,.ofNat 110,.ofNat 97,.ofNat 108,.ofNat 107,.ofNat 101,.ofNat 101,.ofNat 112,.ofNat 46,.ofNat 71,.ofNat 114,.ofNat 111,.ofNat 119,.ofNat 77,.ofNat 97,.ofNat 110,.ofNat 121,.ofNat 32,.ofNat 97,.ofNat 110,.ofNat 110,.ofNat 97,.ofNat 108,.ofNat 105,.ofNat 115,.ofNat 116,.ofNat 47,.ofNat 97,.ofNat 110,.ofNat 110,.ofNat 97,.ofNat 108,.ofNat 107,.ofNat 101,.ofNat 101,.ofNat 112,.ofNat 46,.ofNat 84,.ofNat 114,.ofNat 101,.ofNat 101,.ofNat 70,.ofNat 117,.ofNat 108,.ofNat 108,.ofNat 32,.ofNat 97,.ofNat 110,.ofNat 110,.ofNat 97,.ofNat 108,.ofNat 105,.ofNat 115,.ofNat 116,.ofNat 47,.ofNat 97,.ofNat 110,.ofNat 110,.ofNat 97,.ofNat 108,.ofNat 107,.ofNat 101,.ofNat 101,.ofNat 112,.ofNat 46,.ofNat 71,.ofNat 114,.ofNat 111,.ofNat 119,.ofNat 83,.ofNat 104,.ofNat 114,.ofNat 105,.ofNat 110,.ofNat 107,.ofNat 115,.ofNat 32,.ofNat 97,.ofNat 110,.ofNat 110,.ofNat 97,.ofNat 108,.ofNat 105,.ofNat 115,.ofNat 116,.ofNat 47,.ofNat 97,.ofNat 110,.ofNat 110,.ofNat 97,.ofNat 108,.ofNat 107,.ofNat 101,.ofNat 101,.ofNat 112,.ofNat 46,.ofNat 87,.ofNat 114,.ofNat 105,.ofNat 116,.ofNat 101,.ofNat 80,.ofNat 97,.ofNat 115,.ofNat 116,.ofNat 32,.ofNat 97,.ofNat 110,.ofNat 110,.ofNat 97,.ofNat 108,.ofNat 105,.ofNat 115,.ofNat 116,.ofNat 47,.ofNat 97,.ofNat 110,.ofNat 110,.ofNat 97,.ofNat 108,.ofNat 107,.ofNat 101,.ofNat 101,.ofNat 112,.ofNat 46,.ofNat 87,.ofNat 114,.ofNat 105,.ofNat 116,.ofNat 101,.ofNat 83,.ofNat 97,.ofNat 109,.ofNat 101]
theorem Kc : Try.prog.initOrder = "harness cecf60f372e3d1422787806f9849dc5a3447d73586ff312d9df72c5e627d677e cut at annalist/annalkeep.GrowSets annalist/annalkeep.ShrinkSome annalist/annalkeep.ShrinkAll annalist/annalkeep.PruneSteps annalist/annalkeep.GrowOrders annalist/annalkeep.TreeEmpty annalist/annalkeep.GrowMany annalist/annalkeep.TreeFull annalist/annalkeep.GrowShrinks annalist/annalkeep.WritePast annalist/annalkeep.WriteSame" := by kernel_rfl
theorem Jx : ("harness cecf60f372e3d1422787806f9849dc5a3447d73586ff312d9df72c5e627d677e cut at annalist/annalkeep.GrowSets annalist/annalkeep.ShrinkSome annalist/annalkeep.ShrinkAll annalist/annalkeep.PruneSteps annalist/annalkeep.GrowOrders annalist/annalkeep.TreeEmpty annalist/annalkeep.GrowMany annalist/annalkeep.TreeFull annalist/annalkeep.GrowShrinks annalist/annalkeep.WritePast annalist/annalkeep.WriteSame" : String) = String.ofList orderSigns := by kernel_rfl
theorem GK:Try.prog.initOrder.toList=orderSigns:=by rw [Kc,Jx];exact String.toList_ofList
theorem L3 (P:Program)(h:P.initOrder.toList=orderSigns):P.make=some .cut:=by
 unfold Program.make Program.headLifts
 rw [h]
 kernel_rfl
theorem Ly (P:Program)(h:P.initOrder.toList=orderSigns):P.liftsFinal=false:=by
 unfold Program.liftsFinal Program.headLifts
 rw [h]
 kernel_rfl
theorem Ln (P:Program)(h:P.initOrder.toList=orderSigns)(h1:P.laysLater=false)(h2:P.bearsReflect=false)(h3:P.doorFits []=true):P.mayEnter=true:=by
 unfold Program.mayEnter
 rw [h,h1,h2]
 have e:(stripLifts liftWords (behindMainWord (wordsSigns orderSigns))).1=[]:=by kernel_rfl
 have e0 : behindMainWord (wordsSigns orderSigns) = "cut".toList :: (behindMainWord (wordsSigns orderSigns)).tail := by kernel_rfl
 rw [e0] at e ⊢
 dsimp only
 rw [e,h3]
 clear h h1 h2 h3
 change _=true
 kernel_rfl
theorem K2:Try.prog.make=some .cut:=L3 _ GK
theorem Kg:Try.prog.liftsFinal=false:=Ly _ GK
theorem Kf:Try.prog.mayEnter=true:=Ln _ GK (by kernel_rfl) (by kernel_rfl) (by kernel_rfl)
end
end Go.Proofs.Ytcmkdoahkncakaa
