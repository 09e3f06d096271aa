/- Plain Lean: what build.Of computes. Its conditions: none. -/
import Derived.Test.YtaoocidchclpnaaGreatBuildFY
import Derived.Test.YtaoocidchclpnaaGreatMEditY
import Derived.Test.YtaoocidchclpnaaGreatInsY
import Derived.Test.YtaoocidchclpnaaGreatPRunY
import Derived.Test.YtaoocidchclpnaaGreatFrFY
import Derived.Test.YtaoocidchclpnaaGreatRangeY
import Derived.Test.YtaoocidchclpnaaGreatCpFY
import Derived.Test.YtaoocidchclpnaaGreatWrHFY
import Derived.Test.YtaoocidchclpnaaGreatWrPFY
import Derived.Test.YtaoocidchclpnaaGreatWrCLY
import Derived.Test.YtaoocidchclpnaaGreatFrSFY
import Derived.Test.YtaoocidchclpnaaGreatWTopStoreFY
import Derived.Test.YtaoocidchclpnaaGreatRows
open List renaming flatMap_append→a_, flatMap_cons→d_, mem_append→g_, mem_cons→j_, mem_cons_self→l_, length_map→o_, length_take→p_, length_append→t_, length_singleton→v_, flatMap_singleton→x_, pairwise_append→z_, pairwise_cons→B_, mem_of_getElem?→C_, take_append_drop→D_, mem_cons_of_mem→E_, length_drop→G_, append_assoc→H_, nodup_append→I_, mem_of_mem_drop→J_, append_nil→K_, mem_append_left→M_, mem_flatMap→N_, nodup_cons→O_, mem_singleton→P_, mem_filter→Q_, take_add_one→R_, map_append→S_, mem_map→T_, mem_append_right→U_, mem_iff_getElem?→V_, take_left'→X_, drop_left'→Y_, getElem?_map→g6, take_of_length_le→g8, length_zipIdx→g9, drop_eq_getElem_cons→l7, length_cons→l9, mem_of_mem_take→m0, filter_append→m4, length_set→m9, take_length→n9, countP_cons→o5, perm_middle→o6, nil_append→o7, pairwise_map→p6, getElem?_append_right→p7, getElem?_drop→p8, getElem_mem→t5, replicate→t6, cons_append→t7, length_filter_le→t9, length_flatMap→v4, map_cons→v5, length_nil→v7, length_replicate→v8, length_range→w6, drop_drop→w7, filter_eq_self→B2, filter_cons→B3, set_set→C1, find?_cons→C2, getElem?_range→C5, getElem?_zipIdx→C6, findSome?_cons→C7, length_eq_one_iff→E0, getElem?_eq_none→E1, takeWhile_cons_of_pos→E2, takeWhile_cons_of_neg→E3, findIdx?_eq_none_iff→E4, findIdx?_eq_some_iff_getElem→E5, perm_append_comm_assoc→E6, filter_cons_of_pos→E7, filter_cons_of_neg→G0, mem_zipIdx_iff_getElem?→K0
open Option renaming bind→f_, some→u_, bind_assoc→F_, map_eq_some_iff→B1
open Int renaming toNat_natCast→i_, le_refl→Z_
open Nat renaming le_refl→q_, zero_le→W_, le_trans→o8
open Sum renaming inr→y_
open ByteArray renaming mk→L_
open Bool renaming not_true→v6, true_and→C4
namespace Go.Proofs.YtaoocidchclpnaaGreat
set_option linter.unusedSimpArgs false
set_option linter.unusedVariables false
section
variable {F:Nat} [Big F]
def xc (n i:Nat):Nat:=off n (kOf n) (i+1)-off n (kOf n) i
def zX (n:Nat):List Int:=(List.range (kOf n)).map fun i=>((xc n i:Nat):Int)
theorem xm (n:Nat):(zX n).length=kOf n:=by unfold zX;simp
theorem BT {n i:Nat}(h:i<kOf n):(zX n)[i]? = some ((xc n i:Nat):Int):=by
 unfold zX;rw [g6,C5 h];rfl
theorem Kb (n:Nat):kOf n≤n+1:=by unfold kOf;split <;> omega
theorem yN {α:Type}{l:List α}{i:Nat}{x:α}(h:l[i]? = some x):l.take (i+1)=l.take i++[x]:=by
 rw [R_,h];rfl
theorem zd {n:Nat}(hn:n≤100000):lH F (n:Int)=some (zX n):=by
 unfold lH
 have hE:(if (1:Int)<(IntKind.i64.wrap ((IntKind.i64.wrap ((IntKind.i64.wrap ((n:Int)+8))-1):Int).tdiv 8)) then IntKind.i64.wrap ((IntKind.i64.wrap ((IntKind.i64.wrap ((n:Int)+8))-1):Int).tdiv 8) else 1)=(kOf n:Int):=by
  rw [w64 (n:=(n:Int)+8) (by omega) (by omega),w64 (n:=(n:Int)+8-1) (by omega) (by omega),show (n:Int)+8-1=((n+7:Nat):Int) by omega]
  have e:(((n+7:Nat):Int)).tdiv 8=(((n+7) / 8:Nat):Int):=rfl
  rw [e,w64 (by omega) (by omega)]
  unfold kOf
  by_cases h:8<n
  · rw [if_pos h,if_pos (by omega)]
  · rw [if_neg h,if_neg (by omega)];rfl
 rw [hE]
 have hk:=wu n
 have hk1:=Kb n
 rw [wr (List.range (kOf n)) (fun acc i=>acc++[((xc n i:Nat):Int)]) [] (r:=zX n) (by rw [w6];omega) rfl ?hs ?he]
 · rfl
 case hs =>
  intro i e hi
  have hi':=hi
  have hlt:=(ggs.1 hi).1
  rw [w6] at hlt
  rw [C5 hlt] at hi
  obtain rfl:=u_.inj hi
  dsimp only
  rw [Ct]
  rw [show decide ((i:Int)<(kOf n:Int))=true from decide_eq_true (by omega),cond_true]
  have ht:qf (kOf n:Int)=some (kOf n:Int):=by unfold qf;rw [if_neg (by omega)]
  rw [ht,obs,obs]
  have hb1:n*(i+1)≤100000*100002:=Nat.mul_le_mul hn (by omega)
  have hb0:n*i≤100000*100002:=Nat.mul_le_mul hn (by omega)
  have e1:(n:Int)*((i:Int)+1)=((n*(i+1):Nat):Int):=by push_cast;rfl
  have e0:(n:Int)*(i:Int)=((n*i:Nat):Int):=by push_cast;rfl
  have d1:(((n*(i+1):Nat):Int)).tdiv (kOf n:Int)=((off n (kOf n) (i+1):Nat):Int):=rfl
  have d0:(((n*i:Nat):Int)).tdiv (kOf n:Int)=((off n (kOf n) i:Nat):Int):=rfl
  have hm:=Be (n:=n) (k:=kOf n) (show i≤i+1 by omega)
  have hl:=Gm (n:=n) hk (show i+1≤kOf n by omega)
  have es:((off n (kOf n) (i+1):Nat):Int)-((off n (kOf n) i:Nat):Int)=((xc n i:Nat):Int):=by unfold xc;omega
  have hsh:xc n i≤n:=by unfold xc;omega
  rw [w64 (n:=(i:Int)+1) (by omega) (by omega),e1,e0,w64 (n:=((n*(i+1):Nat):Int)) (by omega) (by omega),w64 (n:=((n*i:Nat):Int)) (by omega) (by omega),d1,d0,w64 (n:=((off n (kOf n) (i+1):Nat):Int)) (by omega) (by omega),w64 (n:=((off n (kOf n) i:Nat):Int)) (by omega) (by omega),es,w64 (by omega) (by omega)]
  rw [vn (by simp;omega) (by simp;omega)]
  rfl
 case he =>
  dsimp only
  rw [Ct,w6,decide_eq_false (by omega),cond_false];rfl
theorem wt {n:DNode}(h:vq n=0):Small n:=by
 obtain⟨h1,h2⟩:=xG h
 rcases vz.1 h with q | q | q
 · refine⟨by omega,by omega,?_,?_⟩
   · rw [q.2.2.2.1];simp
   · rw [q.2.2.2.2];simp
 · refine⟨by omega,by omega,?_,?_⟩
   · rw [q.2.seps];simp
   · rw [q.2.tids];simp
 · exact⟨by omega,by omega,by have:=q.2.seps;omega,by have:=q.2.tids;omega⟩
def G9 (l:List DElem):Option Int:=l.zipIdx.findSome? fun p=>wx l p.2 p.1
def ofR (l:List DElem):DTree × Int:=if 400<l.length then (⟨0,[]⟩,2) else match G9 l with
 | some e=>(⟨0,[]⟩,e)
 | none=>(yf l,0)
theorem Dh {l:List DElem}:G9 l=none↔(∀ e∈l,vb e=0)∧l.Pairwise SpO:=by
 unfold G9
 rw [xx]
 constructor
 · intro h
   refine⟨fun e he=>?_,xL (R:=SpO) (fun a b c h1 h2=>SpO.trans h1 h2) fun j p e hp he=>?_⟩
   · obtain⟨k,hk⟩:=V_.1 he
     exact(wZ.1 (h k e hk)).1
   · exact(wZ.1 (h (j+1) e he)).2 j p rfl hp
 · rintro⟨h1,h2⟩ k e hk
   exact wZ.2 ⟨h1 e (C_ hk),fun j p hj hp=>wi h2 (by omega) hp hk⟩
theorem Fl {α:Type}{G:List (List α)}{β:Type}{φ:List α × Nat→β}{i:Nat}{g:List α}(h:G[i]? = some g):(G.zipIdx.map φ)[i]? = some (φ (g,i)):=by
 rw [g6,C6,h];simp
theorem DO {α:Type}(l:List α)(i:Nat):(l.drop (off l.length (kOf l.length) i)).drop (xc l.length i)=l.drop (off l.length (kOf l.length) (i+1)):=by
 rw [w7]
 congr 1
 have:=Be (n:=l.length) (k:=kOf l.length) (show i≤i+1 by omega)
 unfold xc;omega
theorem DN {α:Type}(l:List α){i:Nat}(h:i<kOf l.length):xc l.length i≤(l.drop (off l.length (kOf l.length) i)).length:=by
 have h1:=Gm (n:=l.length) (wu l.length) (show i+1≤kOf l.length by omega)
 rw [G_];unfold xc;omega
theorem EP (l:List DElem):pK F l=some (ofR l):=by
 unfold pK ofR
 by_cases hl:400<l.length
 · rw [show decide ((400:Int)<(l.length:Int))=true from decide_eq_true (by omega),cond_true,if_pos hl]
 rw [show decide ((400:Int)<(l.length:Int))=false from decide_eq_false (by omega),cond_false,if_neg hl]
 rw [w8 l (fun k e=>(wx l k e).map fun x=>y_ ((⟨0,[]⟩ : DTree),x)) (.inl ()) (by omega) rfl (fun k e hk hb=>?_) (by simp)]
 rotate_left
 · have hkl:=(ggs.1 hk).1
   rw [decide_eq_true (by omega),cond_true,uX,hk,obs,vH,obs]
   unfold wx
   by_cases hc:vb e=0
   · rw [vp hc,cond_false,if_neg (show ¬ (vb e≠0) by simpa using hc)]
     cases k with
     | zero =>
      rw [show decide ((0:Int)<((0:Nat):Int))=false from rfl,cond_false,obs,cond_false,w64 (by omega) (by omega)];rfl
     | succ j =>
      obtain⟨p,hp⟩ : ∃ p,l[j]? = some p:=⟨_,gge (by omega)⟩
      have e1:IntKind.i64.wrap (((j+1:Nat):Int)-1)=(j:Int):=by rw [w64 (by omega) (by omega)];omega
      rw [decide_eq_true (show (0:Int)<((j+1:Nat):Int) by omega),cond_true,e1,uX,hp]
      simp only [obs,vf,vx,hp]
      by_cases hs:0≤cmpS (uU p) (uU e)
      · rw [decide_eq_true hs,if_pos hs];rfl
      · rw [decide_eq_false hs,if_neg hs,cond_false,w64 (by omega) (by omega)];rfl
   · rw [vD hc,cond_true,if_pos (show (vb e≠0) by simpa using hc)];rfl
 have hbad:((l.zipIdx.findSome? fun p=>(wx l p.2 p.1).map fun x=>(y_ ((⟨0,[]⟩ : DTree),x):Unit ⊕ (DTree × Int))).getD (.inl ()))=match G9 l with
  | some e=>.inr (⟨0,[]⟩,e)
  | none=>.inl ():=by
  have : ∀ q:List (DElem × Nat),(q.findSome? fun p=>(wx l p.2 p.1).map fun x=>(y_ ((⟨0,[]⟩ : DTree),x):Unit ⊕ (DTree × Int)))=(q.findSome? fun p=>wx l p.2 p.1).map fun x=>y_ (⟨0,[]⟩,x):=by
   intro q
   induction q with
   | nil=>rfl
   | cons a q ih=>rw [C7,C7];cases wx l a.2 a.1 with
    | none=>exact ih
    | some x=>rfl
  rw [this]
  unfold G9
  cases (l.zipIdx.findSome? fun p=>wx l p.2 p.1) <;> rfl
 rw [hbad,obs]
 cases hb:G9 l with
 | some e=>rfl
 | none =>
  obtain⟨ho,hp⟩:=Dh.1 hb
  dsimp only
  have hk:=wu l.length
  have hk50:kOf l.length≤50:=Dy (by omega) (by decide)
  have hglen:=vB l
  rw [zd (by omega),obs]
  rw [vE (fun i=>(((vN l).take i,(yr l).take i,l.drop (off l.length (kOf l.length) i),(i:Int)):List DNode × List Dbuild_low × List DElem × Int)) (kOf l.length) (r:=(vN l,yr l)) (by rw [zy];rfl) (by omega) ?hs ?he]
  case he =>
   dsimp only
   rw [xm,decide_eq_false (by omega),cond_false,g8 (by unfold vN;rw [o_];omega),g8 (by unfold yr;rw [o_,g9];omega)]
  case hs =>
   intro i hi
   dsimp only
   have hg:=Am hi
   have hn0:(vN l)[i]? = some (IE (xu l (kOf l.length) i)):=by unfold vN;rw [g6,hg];rfl
   have hl0:(yr l)[i]? = some ⟨(i:Int),AY (xu l (kOf l.length) i)⟩:=Fl hg
   have hrl:=DN l hi
   have hrn:=DO l i
   have hpc:xu l (kOf l.length) i=(l.drop (off l.length (kOf l.length) i)).take (xc l.length i):=rfl
   have hpl:(xu l (kOf l.length) i).length≤8:=(vS (C_ hg)).1
   generalize hrest:l.drop (off l.length (kOf l.length) i)=rest at *
   have htl:((vN l).take i).length=i:=by rw [p_];unfold vN;rw [o_];omega
   have htl2:((yr l).take i).length=i:=by rw [p_];unfold yr;rw [o_,g9];omega
   rw [xm,decide_eq_true (by omega),cond_true,uX,BT hi,obs]
   have hspot:(bif decide ((0:Int)<((xc l.length i:Nat):Int)) then (idx rest 0).bind fun e4=>(jf e4).bind fun r8=>some (r8.key.pfs,r8.key.obj,r8.key.off,r8.made) else some (0,0,0,0):Option (Int × Int × Int × Int)) =
    some ((AY (xu l (kOf l.length) i)).key.pfs,(AY (xu l (kOf l.length) i)).key.obj,(AY (xu l (kOf l.length) i)).key.off,(AY (xu l (kOf l.length) i)).made):=by
    by_cases h0:0<xc l.length i
    · rw [decide_eq_true (show (0:Int)<((xc l.length i:Nat):Int) by omega),cond_true]
      cases rest with
      | nil=>simp at hrl;omega
      | cons e r =>
       obtain⟨q,hq⟩ : ∃ q,xc l.length i=q+1:=⟨xc l.length i-1,by omega⟩
       rw [hpc,hq,show idx (e::r) 0=some e from rfl,obs,vf];rfl
    · have h00:xc l.length i=0:=by omega
      rw [h00,List.take_zero] at hpc
      rw [hpc,h00];rfl
   rw [hspot,obs]
   dsimp only
   rw [wd hrl,obs,← hpc,vn (by simp;omega) (by simp;omega),obs,vn (by simp;omega) (by simp;omega),obs,vn (by simp;omega) (by simp;omega),obs,vF hrl,obs,hrn,w64 (by omega) (by omega),htl,yN hn0,yN hl0]
   rfl
  rw [obs]
  dsimp only
  have L0:=Lev.zero (by omega) ho hp
  have hlv0:(yr l).length≤400:=by have:=L0.size;omega
  have hout : ∀ {K:List DNode × List Dbuild_low→Option (DTree × Int)} {f:List DNode × List Dbuild_low→Option ((List DNode × List Dbuild_low) ⊕ (List DNode × List Dbuild_low))},
   (∀ ns lv h,Lev ns lv l h→f (ns,lv)=some (if 1<lv.length then .inl (vO (ns,lv)) else .inr (ns,lv)))→(iter f F (vN l,yr l)).bind K=K (up 400 (vN l,yr l)):=by
   intro K f hf
   obtain⟨q,hq⟩ : ∃ q,K (up 400 (vN l,yr l))=some q∨True:=⟨(⟨0,[]⟩,0),.inr trivial⟩
   have hit:iter f F (vN l,yr l)=some (up 400 (vN l,yr l)):=by
    have:=AX (F:=F) (f:=f) (K:=some) (fun m s q=>q=up m s∧s.2.length≤m∧∃ h,Lev s.1 s.2 l h) ?_ (m:=400) (s:=(vN l,yr l)) (q:=up 400 (vN l,yr l)) (by omega) ⟨rfl,hlv0,0,L0⟩
    · simpa using this
    · rintro m ⟨ns,lv⟩ q ⟨rfl,hm,h,L⟩
      dsimp only at hm L
      have hpos:0<lv.length:=by rw [L.count];exact FR _ _
      by_cases h1:1<lv.length
      · right
        obtain⟨m,rfl⟩ : ∃ k,m=k+1:=⟨m-1,by omega⟩
        have L':=L.next hp ho h1
        have hc:(vO (ns,lv)).2.length=kOf lv.length:=by unfold vO;dsimp only;rw [o_,g9,vB]
        have hh:=AR h1
        refine⟨m,vO (ns,lv),by omega,by rw [hf ns lv h L,if_pos h1],?_,o8 (Nat.le_of_eq hc) (by omega),h+1,L'⟩
        rw [up,if_pos h1]
      · left
        refine⟨(ns,lv),by rw [hf ns lv h L,if_neg h1],?_⟩
        cases m with
        | zero=>rfl
        | succ m=>rw [up,if_neg h1]
   rw [hit,obs]
  rw [hout ?hstep]
  case hstep =>
   intro ns lv h L
   dsimp only
   have hsize:=L.size
   by_cases h1:1<lv.length
   rotate_left
   · rw [if_neg h1,show decide ((1:Int)<(lv.length:Int))=false from decide_eq_false (by omega),cond_false]
   rw [if_pos h1,show decide ((1:Int)<(lv.length:Int))=true from decide_eq_true (by omega),cond_true]
   rw [zd (by omega),obs]
   have hkl:=AR h1
   have hkp:=wu lv.length
   have hgl:=vB lv
   have hgm:((groups lv).map (yA ns)).length=kOf lv.length:=by rw [o_];exact hgl
   have hlm:(vO (ns,lv)).2.length=kOf lv.length:=by unfold vO;dsimp only;rw [o_,g9,vB]
   rw [vE (fun i=>(((vO (ns,lv)).2.take i,ns++((groups lv).map (yA ns)).take i,lv.drop (off lv.length (kOf lv.length) i),(i:Int)):List Dbuild_low × List DNode × List Dbuild_low × Int)) (kOf lv.length) (r:=((vO (ns,lv)).2,(vO (ns,lv)).1)) (by rw [zy];simp) (by omega) ?hs2 ?he2]
   · rfl
   case he2 =>
    dsimp only
    rw [xm,decide_eq_false (by omega),cond_false,g8 (by omega),g8 (by omega)];rfl
   case hs2 =>
    intro i hi
    dsimp only
    have hg:=Am hi
    have hn0:((groups lv).map (yA ns))[i]? = some (yA ns (xu lv (kOf lv.length) i)):=by rw [g6,hg];rfl
    have hl0:(vO (ns,lv)).2[i]? = some ⟨((ns.length+i:Nat):Int),GM (xu lv (kOf lv.length) i)⟩:=Fl hg
    have hrl:=DN lv hi
    have hrn:=DO lv i
    have hpc:xu lv (kOf lv.length) i=(lv.drop (off lv.length (kOf lv.length) i)).take (xc lv.length i):=rfl
    obtain⟨hp8,_,_,hp1⟩:=vS (C_ hg)
    have hp1:=hp1 h1
    have hsub:=(zW (C_ hg)).subset
    generalize xu lv (kOf lv.length) i=g at *
    generalize lv.drop (off lv.length (kOf lv.length) i)=rest at *
    have htl:(((groups lv).map (yA ns)).take i).length=i:=by rw [p_];omega
    have htl2:((vO (ns,lv)).2.take i).length=i:=by rw [p_];omega
    rw [xm,decide_eq_true (by omega),cond_true,uX,BT hi,obs,wd hrl,obs,← hpc]
    rw [vE (s:=(([]:List DSpot),([]:List Int),([]:List Int),(0:Int))) (fun j=>(((g.take j).tail.map (·.s),(g.take j).map (fun k=>ve (nd ns k.i)),(g.take j).map (·.i),(j:Int)):List DSpot × List Int × List Int × Int)) g.length (r:=(g.tail.map (·.s),g.map (fun k=>ve (nd ns k.i)),g.map (·.i))) rfl (by omega) ?hs3 ?he3]
    case he3 =>
     dsimp only
     rw [decide_eq_false (by omega),cond_false,n9]
    case hs3 =>
     intro j hj
     dsimp only
     have hgj:g[j]? = some g[j]:=gge hj
     have hin:=hsub (C_ hgj)
     have hrange:=(L.fit _ hin).range
     generalize g[j]=e at *
     have hnd:idx (ns++((groups lv).map (yA ns)).take i) e.i=some (nd ns e.i):=by
      rw [Av hrange.1 (by rw [t_];have:=hrange.2;omega),Aw ns _ hrange]
     have htk:(g.take j).length=j:=by rw [p_];omega
     rw [decide_eq_true (by omega),cond_true,uX,hgj,obs,vn (by rw [o_,htk,v_];omega) (by rw [o_,htk,v_];omega),obs,hnd,obs,wg _ (wt (L.chk _ (wS hrange.1 hrange.2))),obs,vn (by rw [o_,htk,v_];omega) (by rw [o_,htk,v_];omega),obs,w64 (by omega) (by omega),yN hgj,S_,S_]
     cases j with
     | zero=>rfl
     | succ j =>
      have hne:g.take (j+1)≠[]:=fun h=>by rw [h] at htk;simp at htk
      rw [decide_eq_true (show (0:Int)<((j+1:Nat):Int) by omega),cond_true,vn (by rw [o_,List.length_tail,htk,v_];omega) (by rw [o_,List.length_tail,htk,v_];omega),List.tail_append_of_ne_nil hne,S_]
      rfl
    rw [obs]
    dsimp only
    obtain⟨y,g',rfl⟩ : ∃ y g',g=y::g':=by
     cases g with
     | nil=>simp at hp1
     | cons y g'=>exact ⟨y,g',rfl⟩
    have hy:idx rest 0=some y:=by
     cases rest with
     | nil=>simp at hpc
     | cons z r =>
      cases hsh:xc lv.length i with
      | zero=>rw [hsh] at hpc;simp at hpc
      | succ q=>rw [hsh,List.take_succ_cons] at hpc;rw [(List.cons.inj hpc).1];rfl
    rw [hy,obs,vn (by rw [htl2,v_];omega) (by rw [htl2,v_];omega),obs,vn (by rw [t_,htl,v_];omega) (by rw [t_,htl,v_];omega),obs,vF hrl,obs,hrn,w64 (by omega) (by omega),t_,htl,yN hn0,yN hl0,H_]
    rfl
  obtain⟨h,L,h1⟩:=Lev.up hp ho 400 L0 hlv0
  unfold yf
  dsimp only
  generalize up 400 (vN l,yr l)=x at L h1
  obtain⟨ns,lv⟩:=x
  dsimp only at L h1 ⊢
  obtain⟨y,rfl⟩:=E0.1 h1
  rfl
end
section
def wT (e x:DElem):DElem:=if uU x=uU e then e else x
theorem BF (e x:DElem):uU (wT e x)=uU x:=by
 unfold wT
 split
 · rename_i h;exact h.symm
 · rfl
theorem JQ {e x:DElem}(he:vb e=0)(hx:vb x=0):vb (wT e x)=0:=by
 unfold wT;split <;> assumption
theorem FE {e:DElem}{l:List DElem}(h:l.Pairwise SpO):(l.map (wT e)).Pairwise SpO:=by
 rw [p6]
 exact h.imp fun {a b} hab=>by unfold SpO at hab ⊢;rw [BF,BF];exact hab
theorem AE {e:DElem}{l:List DElem}(h : ∀ x∈l,uU x≠uU e):l.map (wT e)=l:=by
 conv=>rhs;rw [← List.map_id l]
 exact List.map_congr_left fun x hx=>by unfold wT;rw [if_neg (h x hx)];rfl
structure ChgPost (e:DElem) (N N' : NL) (h:Nat) (i:Int) (m:Nat) (s:Span):Prop where
 len:N'.length=N.length
 out : ∀ j,j ∉ ids (fN N) h i→N'[j]? = N[j]?
 kinds : ∀ j,kd N' j=kd N j
 chk:wv N'
 sub:vm (fN N') h i m s
 ids:ids (fN N') h i=ids (fN N) h i
 elems:uS (fN N') h i=(uS (fN N) h i).map (wT e)
def zk (F:Nat)(e:DElem)(rf1:NL × Int→Option NL)(x:NL × Int):Option NL :=
 match x with
  | (x1,x2) =>
   (kh x1 x2).bind fun n1 =>
    bif (n1.kind == 1) then
     (iter (σ:=(List DElem) × Int) (ρ:=(List DElem)) (fun x=>match x with
      | (x3,x4) =>
       bif decide (x4<(n1.elems.length:Int)) then
        (
         (idx x3 x4).bind fun e1 =>
          (jf e1).bind fun r8 =>
          (jf e).bind fun r9 =>
          bif (r8 == r9) then
           (idx x3 x4).bind fun e2 =>
           some (x3.set x4.toNat e)
          else
           some x3:Option ((List DElem))).bind fun z3 =>
        some (.inl (z3,IntKind.i64.wrap (x4+1)))
        else
         some (.inr x3)) F (n1.elems,0)).bind fun z2 =>
     (tM n1 (DNode.mk n1.kind z2 n1.kids n1.seps n1.tids)).bind fun u1 =>
     some (jo (iT x1 x2) x2 (DNode.mk n1.kind z2 n1.kids n1.seps n1.tids))
    else
     (jf e).bind fun r10 =>
     (mE F n1 r10).bind fun r11 =>
     (idx n1.kids r11).bind fun e3 =>
     (rf1 ((iT x1 x2),e3)).bind fun z4 =>
     (idx n1.kids r11).bind fun e4 =>
     (kh z4 e4).bind fun n2 =>
     (jl F n2).bind fun r12 =>
     (idx n1.tids r11).bind fun e5 =>
     (tM n1 (DNode.mk n1.kind n1.elems n1.kids n1.seps (n1.tids.set r11.toNat r12))).bind fun u2 =>
     some (jo z4 x2 (DNode.mk n1.kind n1.elems n1.kids n1.seps (n1.tids.set r11.toNat r12)))
variable {F:Nat} [Big F]
theorem GJ {a b:DNode}(h1:a.elems.length=b.elems.length)(h2:a.kids.length=b.kids.length)(h3:a.seps.length=b.seps.length)(h4:a.tids.length=b.tids.length):tM a b=some ():=by
 unfold tM;rw [if_pos ⟨h1,h2,h3,h4⟩]
theorem xP {n:DNode}(h1:n.kind=1)(h2:Leaf n):vq n=0:=vz.2 (.inr (.inl ⟨h1,h2⟩))
theorem vM {n:DNode}(h1:n.kind=2)(h2:Inner n):vq n=0:=vz.2 (.inr (.inr ⟨h1,h2⟩))
theorem yC {N:NL}(h:wv N){i:Int}(hi:0≤i∧i<((fN N).length:Int)):vq (nd (fN N) i)=0:=h _ (wS hi.1 hi.2)
theorem vX {N:NL}(h:wv N){i:Int}(hi:0≤i∧i<((fN N).length:Int)):jl F (nd (fN N) i)=some (ve (nd (fN N) i)):=wg _ (wt (yC h hi))
theorem I6 (l:List DElem)(e:DElem)(hl:l.length≤8) :
 iter (σ:=(List DElem) × Int) (ρ:=(List DElem)) (fun x=>match x with
  | (x3,x4) =>
   bif decide (x4<(l.length:Int)) then
    (
     (idx x3 x4).bind fun e1 =>
      (jf e1).bind fun r8 =>
      (jf e).bind fun r9 =>
      bif (r8 == r9) then
       (idx x3 x4).bind fun e2 =>
       some (x3.set x4.toNat e)
      else
       some x3:Option ((List DElem))).bind fun z3 =>
    some (.inl (z3,IntKind.i64.wrap (x4+1)))
    else
     some (.inr x3)) F (l,0)=some (l.map (wT e)):=by
 refine vE (fun k=>((l.take k).map (wT e)++l.drop k,(k:Int))) l.length (by simp) (by omega) (fun k hk=>?_) ?_
 · have hs:l.drop k=l[k]::l.drop (k+1):=l7 hk
   have hlen:((l.take k).map (wT e)).length=k:=by rw [o_,p_];omega
   have hi:idx ((l.take k).map (wT e)++l.drop k) (k:Int)=some l[k]:=by
    rw [hs]
    have:=wM ((l.take k).map (wT e)) l[k] (l.drop (k+1))
    rwa [hlen] at this
   have ht:l.take (k+1)=l.take k++[l[k]]:=by rw [R_,gge hk];rfl
   dsimp only
   rw [decide_eq_true (by omega),cond_true,hi,obs,vf,obs,vf,obs,w64 (by omega) (by omega),ht,S_,H_]
   by_cases h:uU l[k]=uU e
   · rw [show (uU l[k] == uU e)=true by simpa using h,cond_true,obs,obs,i_,hs]
     have:=yx ((l.take k).map (wT e)) l[k] e (l.drop (k+1))
     rw [hlen] at this
     rw [this]
     show _=some (Sum.inl ((l.take k).map (wT e)++([wT e l[k]]++l.drop (k+1)),_))
     unfold wT
     rw [if_pos h];rfl
   · rw [show (uU l[k] == uU e)=false by simpa using h,cond_false,obs]
     show _=some (Sum.inl ((l.take k).map (wT e)++([wT e l[k]]++l.drop (k+1)),_))
     rw [hs]
     conv=>rhs;unfold wT
     rw [if_neg h];rfl
 · dsimp only
   rw [decide_eq_false (by omega),cond_false,List.drop_length,n9,K_]
theorem Ie {e:DElem}(he:vb e=0):∀(h mf:Nat) (N:NL) (i:Int) (m:Nat) (s:Span),h<mf→wv N→vm (fN N) h i m s→(ids (fN N) h i).Nodup→inS s (uU e)=true →
 ∃ N',ql (zk F e) mf (N,i)=some N'∧ChgPost e N N' h i m s:=by
 intro h
 induction h with
 | zero =>
  intro mf N i m s hm hc c hn hs
  obtain⟨mf,rfl⟩ : ∃ q,mf=q+1:=⟨mf-1,by omega⟩
  have L:=c.leaf hc
  have hr:=c.range
  rw [vd] at hr
  obtain⟨hnode,hat⟩:=c.node
  have hk1:=c.2.1
  have L' : Leaf ⟨1,(nd (fN N) i).elems.map (wT e),(nd (fN N) i).kids,(nd (fN N) i).seps,(nd (fN N) i).tids⟩ :=
   ⟨L.kids,L.seps,L.tids,by rw [o_];exact L.len,fun x hx=>by
    obtain⟨y,hy,rfl⟩:=T_.1 hx
    exact JQ he (L.ok y hy),FE L.ord⟩
  have hc':=xP (n:=⟨1,(nd (fN N) i).elems.map (wT e),(nd (fN N) i).kids,(nd (fN N) i).seps,(nd (fN N) i).tids⟩) rfl L'
  have hnd:nd (fN (jo (iT N i) i ⟨1,(nd (fN N) i).elems.map (wT e),(nd (fN N) i).kids,(nd (fN N) i).seps,(nd (fN N) i).tids⟩)) i=_:=Bz (by rw [uW];exact hr)
  refine⟨jo (iT N i) i ⟨1,(nd (fN N) i).elems.map (wT e),(nd (fN N) i).kids,(nd (fN N) i).seps,(nd (fN N) i).tids⟩,?_,?_,?_,?_,(hc.out i).put hc',?_,rfl,?_⟩
  · show zk F e (ql (zk F e) mf) (N,i)=_
    have hfit:tM (nd (fN N) i) ⟨1,(nd (fN N) i).elems.map (wT e),(nd (fN N) i).kids,(nd (fN N) i).seps,(nd (fN N) i).tids⟩=some ():=GJ (by simp) rfl rfl rfl
    unfold zk
    dsimp only
    rw [hnode,obs,hk1,show ((1:Int) == 1)=true from rfl,cond_true,I6 _ _ L.len,obs,hfit,obs]
  · rw [uZ,uW]
  · intro j hj
    have hji:j≠i.toNat:=by simpa [ids] using hj
    rw [vj _ hji,vA _ hji]
  · intro j
    by_cases hji:j=i.toNat
    · subst hji
      unfold kd
      rw [vK _ (by rw [uW];omega),hat]
      show some 1=some (nd (fN N) i).kind
      rw [hk1]
    · unfold kd;rw [vj _ hji,vA _ hji]
  · refine⟨?_,by rw [hnd],by rw [hnd,o_];exact c.2.2.1,?_⟩
    · rw [vd,uZ,uW];exact hr
    · rw [hnd]
      intro x hx
      obtain⟨y,hy,rfl⟩:=T_.1 hx
      rw [BF];exact c.2.2.2 y hy
  · show (nd _ i).elems=_
    rw [hnd];rfl
 | succ h ih =>
  intro mf N i m s hm hc c hn hs
  obtain⟨mf,rfl⟩ : ∃ q,mf=q+1:=⟨mf-1,by omega⟩
  have L:=c.inner hc
  have hr:=c.range
  rw [vd] at hr
  obtain⟨hnode,hat⟩:=c.node
  obtain⟨_,hk2,hmk,hch⟩:=c
  obtain⟨A,k,B,XA,XB,TA,t,TB,s',f⟩:=F6 L.seps L.tids L.ord hch hs
  generalize hnn:nd (fN N) i=n at *
  rw [ids,hnn,f.kids] at hn
  obtain⟨d1,d2,d3⟩:=zw hn
  have hN1 : ∀ j∈ids (fN N) h k,(iT N i)[j]? = N[j]?:=fun j hj=>vA N (fun e=>d1 (e▸hj))
  obtain⟨q1,q2,q3,q4⟩:=vm.agree (N':=iT N i) (by rw [uW];exact q_ _) f.here.1 hN1
  obtain⟨N2,hrun,P2⟩:=ih mf (iT N i) k 4 s' (by omega) (hc.out i) q1 (by rw [q2];exact d2) f.in_
  have hlen2:N2.length=N.length:=by rw [P2.len,uW]
  obtain⟨hnode2,_⟩:=P2.sub.node
  have hg:=zq (yC P2.chk P2.sub.range)
  have hw:xV n.seps (uU e)=TA.length:=by rw [f.way,f.ta]
  have htids:(n.tids.set TA.length (ve (nd (fN N2) k)))=TA++ve (nd (fN N2) k)::TB:=by rw [f.tids,yx]
  have L' : Inner ⟨2,n.elems,n.kids,n.seps,TA++ve (nd (fN N2) k)::TB⟩ :=
   ⟨L.elems,L.two,L.eight,L.seps,by have h5:=L.tids;rw [f.tids] at h5;simpa using h5,L.kid,fun x hx=>by
    rcases g_.1 hx with hx | hx
    · exact L.tid x (by rw [f.tids];exact M_ _ hx)
    · rcases j_.1 hx with rfl | hx
      · exact hg
      · exact L.tid x (by rw [f.tids];exact U_ _ (E_ _ hx)),L.ok,L.ord⟩
  obtain⟨n',hn'⟩ : ∃ n' : DNode,n' = ⟨2,n.elems,n.kids,n.seps,TA++ve (nd (fN N2) k)::TB⟩:=⟨_,rfl⟩
  have e2:n'.kind=2:=by rw [hn']
  have ek:n'.kids=n.kids:=by rw [hn']
  have es:n'.seps=n.seps:=by rw [hn']
  have et:n'.tids=TA++ve (nd (fN N2) k)::TB:=by rw [hn']
  rw [← hn'] at L'
  have hc':=vM e2 L'
  have hnd:nd (fN (jo N2 i n')) i=n':=Bz (by rw [hlen2];exact hr)
  have hi2:i.toNat ∉ ids (fN N2) h k:=by rw [P2.ids,q2];exact d1
  obtain⟨r1,r2,r3,r4⟩:=vm.agree (N':=jo N2 i n') (by rw [uZ];exact q_ _) P2.sub fun j hj=>vj N2 (fun e=>hi2 (e▸hj))
  have other : ∀ a,a∈A∨a∈B→∀ {m:Nat} {s:Span},vm (fN N) h a m s→_:=fun a ha m s c=>vm.agree (N:=N) (N':=jo N2 i n') (by rw [uZ,hlen2];exact q_ _) c fun j hj=>by
   obtain⟨x1,x2⟩:=d3 a ha
   have hji:j≠i.toNat:=fun e=>x1 (e▸hj)
   rw [vj N2 hji,P2.out j (by rw [q2];exact x2 j hj),vA N hji]
  have hkids : ∀ a,a∈A∨a∈B→∃ t' s'',vm (fN N) h a 4 s''∧(∀ x∈uS (fN N) h a,uU x≠uU e):=fun a ha=>by
   rcases ha with ha | ha
   · obtain⟨t',s'',x1,x2⟩:=f.lo a ha
     exact⟨t',s'',x1.1,fun x hx e=>by have:=x2 _ ((x1.1.elems hc).2 x hx).1;rw [e,vc.refl] at this;omega⟩
   · obtain⟨t',s'',x1,x2⟩:=f.hi a ha
     exact⟨t',s'',x1.1,fun x hx e=>by have:=x2 _ ((x1.1.elems hc).2 x hx).1;rw [e,vc.refl] at this;omega⟩
  have flat : ∀(l:List Int),(∀ a∈l,a∈A∨a∈B)→l.flatMap (ids (fN (jo N2 i n')) h)=l.flatMap (ids (fN N) h) ∧
   l.flatMap (uS (fN (jo N2 i n')) h)=(l.flatMap (uS (fN N) h)).map (wT e):=fun l hl=>by
   constructor
   · exact xy fun a ha=>by obtain ⟨t',s'',x1,_⟩:=hkids a (hl a ha);exact(other a (hl a ha) x1).2.1
   · rw [List.map_flatMap]
     exact vI fun a ha=>by obtain ⟨t',s'',x1,x2⟩:=hkids a (hl a ha);rw [(other a (hl a ha) x1).2.2.1,AE x2]
  refine⟨jo N2 i n',?_,by rw [uZ,hlen2],?_,?_,P2.chk.put hc',?_,?_,?_⟩
  · rw [hn']
    show zk F e (ql (zk F e) mf) (N,i)=_
    have hfit:tM n ⟨2,n.elems,n.kids,n.seps,TA++ve (nd (fN N2) k)::TB⟩=some ():=GJ rfl rfl rfl (by rw [f.tids];simp)
    generalize ql (zk F e) mf=rf at hrun
    unfold zk
    dsimp only
    rw [hnode,obs,hk2,show ((2:Int) == 1)=false from rfl,cond_false,vf,obs,xR n _ (wt (vM hk2 L)),obs,f.way,f.kids,wM,obs,hrun,obs,obs,hnode2,obs,vX P2.chk P2.sub.range,obs,f.tids,← f.ta,wM,obs,i_,yx]
    rw [f.kids] at hfit
    rw [hfit,obs]
  · intro j hj
    rw [ids,hnn,f.kids,a_,d_] at hj
    simp only [j_,g_,not_or] at hj
    rw [vj N2 hj.1,P2.out j (by rw [q2];exact hj.2.2.1),vA N hj.1]
  · intro j
    by_cases hji:j=i.toNat
    · subst hji
      unfold kd
      rw [vK _ (by rw [hlen2];omega),hat]
      show some n'.kind=some n.kind
      rw [hk2,e2]
    · have:=P2.kinds j
      rw [ym] at this
      rw [← this]
      unfold kd;rw [vj N2 hji]
  · refine⟨?_,by rw [hnd,e2],by rw [hnd,ek];exact hmk,?_⟩
    · rw [vd,uZ,hlen2];exact hr
    · rw [hnd,es,ek,et]
      have:=f.turn (AJ (fN (jo N2 i n')) h) (fun a t' s'' ha x=>⟨(other a ha x.1).1,by rw [(other a ha x.1).2.2.2];exact x.2⟩) [k] [] [ve (nd (fN N2) k)] ⟨k,_,rfl,rfl,r1,by rw [r4]⟩
      rw [f.kids,f.seps]
      simpa using this
  · rw [ids,hnd,ids,hnn,ek,f.kids,a_,d_,a_,d_,(flat A fun a ha=>.inl ha).1,(flat B fun a ha=>.inr ha).1,r2,P2.ids,q2]
  · rw [uS,hnd,uS,hnn,ek,f.kids,a_,d_,a_,d_,(flat A fun a ha=>.inl ha).2,(flat B fun a ha=>.inr ha).2,r3,P2.elems,q3,S_,S_]
end
section
def CU (x:Int ⊕ DNode):Bool:=rX x != 0
def used (N:NL):Nat:=N.countP CU
theorem xI {x:Int ⊕ DNode}:CU x=true↔rX x≠0:=by unfold CU;simp
theorem CV {N:NL}{i:Nat}{x:Int ⊕ DNode}(y:Int ⊕ DNode)(h:N[i]? = some x):used (N.set i y)+(if CU x then 1 else 0)=used N+(if CU y then 1 else 0):=by
 unfold used
 induction N generalizing i with
 | nil=>simp at h
 | cons a N ih =>
  cases i with
  | zero =>
   obtain rfl:a=x:=by simpa using h
   rw [List.set_cons_zero,o5,o5];omega
  | succ i =>
   have:=ih (i:=i) (by simpa using h)
   rw [List.set_cons_succ,o5,o5];omega
theorem HX {N:NL}{i:Nat}{x y:Int ⊕ DNode}(h:N[i]? = some x)(hx:rX x≠0)(hy:rX y≠0):used (N.set i y)=used N:=by
 have:=CV y h
 rw [if_pos (xI.2 hx),if_pos (xI.2 hy)] at this
 omega
theorem Bn (N:NL)(i:Int):used (iT N i)=used N:=by
 unfold iT
 rcases Nat.lt_or_ge i.toNat N.length with h | h
 · have hg:=gge h
   have:=CV (.inl (((N[i.toNat]?).map rX).getD 0)) hg
   have e:CU (.inl (((N[i.toNat]?).map rX).getD 0))=CU N[i.toNat]:=by rw [hg];rfl
   rw [e] at this
   omega
 · rw [List.set_eq_of_length_le h]
theorem yu {N:NL}{j:Nat}{x:Int ⊕ DNode}(h:N[j]? = some x):kd N j=some (rX x):=by unfold kd;rw [h];rfl
theorem GR {N:NL}{j:Nat}{k:Int}(h:kd N j=some k):∃ x,N[j]? = some x∧rX x=k:=B1.1 h
theorem Jg {N:NL}(h : ∀(j:Nat) (x:Int ⊕ DNode),N[j]? = some x→rX x≠0):used N=N.length :=
 List.countP_eq_length.2 fun x hx=>by
  obtain⟨j,hj⟩:=V_.1 hx
  exact xI.2 (h j x hj)
structure Fr2 (N N' : NL) (I K:List Nat) (c:Nat):Prop where
 len:N.length≤N'.length
 cap:N'.length≤max N.length (used N')
 use:used N'≤used N+c
 out : ∀(j:Nat) (x:Int ⊕ DNode),j ∉ I→N[j]? = some x→rX x≠0→N'[j]? = some x
 kept : ∀(j:Nat) (x:Int ⊕ DNode),N[j]? = some x→rX x≠0→∃ y,N'[j]? = some y∧rX y≠0
 new : ∀ j∈K,j∈I∨∀ x:Int ⊕ DNode,N[j]? = some x→rX x=0
 all : ∀(j:Nat) (x:Int ⊕ DNode),N'[j]? = some x→rX x≠0→j∈K∨(j ∉ I∧∃ y,N[j]? = some y∧rX y≠0)
 nodup:K.Nodup
 chk:wv N'
 zero : ∀ j:Nat,N'[j]? = some (.inl 0)→N[j]? = some (.inl 0)
theorem Fr2.perm {N N' : NL}{I K K' : List Nat}{c:Nat}(h:Fr2 N N' I K c)(p:K.Perm K'):Fr2 N N' I K' c :=
 ⟨h.len,h.cap,h.use,h.out,h.kept,fun j hj=>h.new j (p.mem_iff.2 hj),fun j x hx hk=>(h.all j x hx hk).imp (fun q=>p.mem_iff.1 q) id,p.nodup_iff.1 h.nodup,h.chk,h.zero⟩
theorem Fr2.more {N N' : NL}{I K:List Nat}{c c' : Nat}(h:Fr2 N N' I K c)(hc:c≤c'):Fr2 N N' I K c' :=
 ⟨h.len,h.cap,o8 h.use (by omega),h.out,h.kept,h.new,h.all,h.nodup,h.chk,h.zero⟩
theorem vm.used {N:NL}:∀ {h:Nat} {i:Int} {m:Nat} {s:Span},vm (fN N) h i m s→∀ j∈ids (fN N) h i,∃ n,N[j]? = some (.inr n)∧n.kind≠0:=by
 intro h
 induction h with
 | zero =>
  intro i m s c j hj
  obtain rfl:j=i.toNat:=by simpa [ids] using hj
  exact⟨_,c.node.2,c.kind⟩
 | succ h ih =>
  intro i m s c j hj
  rw [ids] at hj
  rcases j_.1 hj with rfl | hj
  · exact⟨_,c.node.2,c.kind⟩
  · obtain⟨k,hk,hj⟩:=N_.1 hj
    obtain⟨t,s',x,_⟩:=c.2.2.2.mem k hk
    exact ih x.1 j hj
theorem Fr2.start {N:NL}(hc:wv N){i:Int}{n:DNode}(hi:N[i.toNat]? = some (.inr n))(hk:n.kind≠0):Fr2 N (iT N i) [i.toNat] [i.toNat] 0:=by
 refine⟨by rw [uW];exact q_ _,by rw [uW];exact Nat.le_max_left _ _,by rw [Bn];exact q_ _,fun j x hj hx _=>by rw [vA N (by simpa using hj)];exact hx,fun j x hx hk=>?_,fun j hj=>.inl hj,fun j x hx hk=>?_,by simp,hc.out i,fun j hj=>?_⟩
 · have:=ym N i j
   rw [yu hx] at this
   obtain⟨y,hy,hyk⟩:=GR this
   exact⟨y,hy,by rw [hyk];exact hk⟩
 · by_cases hji:j=i.toNat
   · exact .inl (by simp [hji])
   · rw [vA N hji] at hx
     exact .inr ⟨by simpa using hji,x,hx,hk⟩
 · by_cases hji:j=i.toNat
   · subst hji
     have:=ym N i i.toNat
     rw [yu hj,yu hi] at this
     exact absurd (u_.inj this).symm hk
   · rw [vA N hji] at hj;exact hj
theorem Fr2.up {N N2:NL}{i:Nat}{I1 I2 I3 K:List Nat}{c:Nat}{i' : Int}(hi:i'.toNat=i)(f:Fr2 (iT N i') N2 I2 K c)(hn:(i::(I1++(I2++I3))).Nodup)(hu : ∀ j∈i::(I1++(I2++I3)),∃ n:DNode,N[j]? = some (.inr n)∧n.kind≠0) :
 Fr2 N N2 (i::(I1++(I2++I3))) (i::(I1++(K++I3))) c:=by
 have hk : ∀(j:Nat) (x:Int ⊕ DNode),N[j]? = some x→rX x≠0→∃ y,(iT N i')[j]? = some y∧rX y≠0:=fun j x hx hxk=>by
  have:=ym N i' j
  rw [yu hx] at this
  obtain⟨y,hy,hyk⟩:=GR this
  exact⟨y,hy,by rw [hyk];exact hxk⟩
 have hk' : ∀(j:Nat) (x:Int ⊕ DNode),(iT N i')[j]? = some x→rX x≠0→∃ y,N[j]? = some y∧rX y≠0:=fun j x hx hxk=>by
  have:=ym N i' j
  rw [yu hx] at this
  obtain⟨y,hy,hyk⟩:=GR this.symm
  exact⟨y,hy,by rw [hyk];exact hxk⟩
 have hK : ∀ j∈K,j∈I2∨∀ x:Int ⊕ DNode,N[j]? = some x→rX x=0:=fun j hj=>(f.new j hj).imp id fun h x hx=>by
  by_cases h0:rX x=0
  · exact h0
  · obtain⟨y,hy,hyk⟩:=hk j x hx h0
    exact absurd (h y hy) hyk
 obtain⟨n1,n2⟩:=O_.1 hn
 obtain⟨n3,n4,n5⟩:=I_.1 n2
 obtain⟨n6,n7,n8⟩:=I_.1 n4
 have hKu : ∀ j∈K,j ∉ I2→∀ n:DNode,N[j]? = some (.inr n)→n.kind=0:=fun j hj hj2 n hx=>by
  rcases hK j hj with h | h
  · exact absurd h hj2
  · exact h _ hx
 have hne : ∀ j∈K,j∈i::(I1++(I2++I3))→j∈I2:=fun j hj hm=>by
  by_cases h2:j∈I2
  · exact h2
  · obtain⟨n,hx,hnk⟩:=hu j hm
    exact absurd (hKu j hj h2 n hx) hnk
 refine⟨by have:=f.len;rwa [uW] at this,by have:=f.cap;rwa [uW] at this,by have:=f.use;rwa [Bn] at this,fun j x hj hx hxk=>?_,fun j x hx hxk=>?_,fun j hj=>?_,fun j x hx hxk=>?_,?_,f.chk,fun j hj=>?_⟩
 · simp only [j_,g_,not_or] at hj
   exact f.out j x hj.2.2.1 (by rw [vA N (by omega)];exact hx) hxk
 · obtain⟨y,hy,hyk⟩:=hk j x hx hxk
   exact f.kept j y hy hyk
 · simp only [j_,g_] at hj ⊢
   rcases hj with h | h | h | h
   · exact .inl (.inl h)
   · exact .inl (.inr (.inl h))
   · exact(hK j h).imp (fun h=>.inr (.inr (.inl h))) id
   · exact .inl (.inr (.inr (.inr h)))
 · simp only [j_,g_,not_or]
   rcases f.all j x hx hxk with h | ⟨h,y,hy,hyk⟩
   · exact .inl (.inr (.inr (.inl h)))
   · by_cases h0:j=i
     · exact .inl (.inl h0)
     by_cases h1:j∈I1
     · exact .inl (.inr (.inl h1))
     by_cases h3:j∈I3
     · exact .inl (.inr (.inr (.inr h3)))
     · exact .inr ⟨⟨h0,h1,h,h3⟩,hk' j y hy hyk⟩
 · refine O_.2 ⟨fun hm=>?_,I_.2 ⟨n3,I_.2 ⟨f.nodup,n7,fun a ha b hb e=>?_⟩,fun a ha b hb e=>?_⟩⟩
   · simp only [g_,not_or] at hm n1
     rcases hm with h | h | h
     · exact n1.1 h
     · exact n1.2.1 (hne i h l_)
     · exact n1.2.2 h
   · subst e
     exact n8 a (hne a ha (by simp [hb])) a hb rfl
   · subst e
     rcases g_.1 hb with h | h
     · exact n5 a ha a (M_ _ (hne a h (by simp [ha]))) rfl
     · exact n5 a ha a (U_ _ h) rfl
 · have h0:=f.zero j hj
   by_cases hji:j=i'.toNat
   · subst hji
     obtain⟨n,hx,hnk⟩:=hu i l_
     rw [← hi] at hx
     have:=ym N i' i'.toNat
     rw [yu h0,yu hx] at this
     exact absurd (u_.inj this).symm hnk
   · rw [vA N hji] at h0;exact h0
theorem Fr2.put {N N2:NL}{I K:List Nat}{c:Nat}(f:Fr2 N N2 I K c){i:Int}(hI:i.toNat∈I)(hK:i.toNat∈K){x:Int ⊕ DNode}(hx:N2[i.toNat]? = some x)(hxk:rX x≠0){n:DNode}(hn:n.kind≠0)(hc:vq n=0):Fr2 N (jo N2 i n) I K c:=by
 have hlt:=(ggs.1 hx).1
 have hu:used (jo N2 i n)=used N2:=HX hx hxk hn
 refine⟨by rw [uZ];exact f.len,by rw [uZ,hu];exact f.cap,by rw [hu];exact f.use,fun j y hj hy hyk=>?_,fun j y hy hyk=>?_,f.new,fun j y hy hyk=>?_,f.nodup,f.chk.put hc,fun j hj=>?_⟩
 · rw [vj N2 (show j≠i.toNat from fun e=>hj (by rw [e];exact hI))];exact f.out j y hj hy hyk
 · by_cases hji:j=i.toNat
   · subst hji;exact⟨_,vK N2 hlt,hn⟩
   · rw [vj N2 hji];exact f.kept j y hy hyk
 · by_cases hji:j=i.toNat
   · subst hji;exact .inl hK
   · rw [vj N2 hji] at hy;exact f.all j y hy hyk
 · by_cases hji:j=i.toNat
   · subst hji;rw [vK N2 hlt] at hj;cases hj
   · rw [vj N2 hji] at hj;exact f.zero j hj
structure TakeP (N:NL) (n:DNode) (N' : NL) (j:Nat):Prop where
 at_:N'[j]? = some (.inr n)
 same : ∀ q,q≠j→N'[q]? = N[q]?
 free : ∀ x:Int ⊕ DNode,N[j]? = some x→rX x=0
 len:N'.length=N.length∨N'.length=N.length+1∧j=N.length∧∀(q:Nat) (x:Int ⊕ DNode),N[q]? = some x→rX x≠0
 use:rX (.inr n)≠0→used N' = used N+1
theorem Fr2.take {N N2 N' : NL}{I K:List Nat}{c:Nat}(f:Fr2 N N2 I K c){n:DNode}{j:Nat}(t:TakeP N2 n N' j)(hn:n.kind≠0)(hc:vq n=0)(hK : ∀ q∈K,∃ x,N2[q]? = some x∧rX x≠0):Fr2 N N' I (j::K) (c+1):=by
 have hu:=t.use hn
 have hjN : ∀ x:Int ⊕ DNode,N[j]? = some x→rX x=0:=fun x hx=>by
  by_cases h0:rX x=0
  · exact h0
  · obtain⟨y,hy,hyk⟩:=f.kept j x hx h0
    exact absurd (t.free y hy) hyk
 have hlen:N2.length≤N'.length:=by rcases t.len with h | ⟨h,_⟩ <;> omega
 refine⟨o8 f.len hlen,?_,by rw [hu];have:=f.use;omega,fun q x hq hx hxk=>?_,fun q x hx hxk=>?_,fun q hq=>?_,fun q x hx hxk=>?_,O_.2 ⟨fun hj=>?_,f.nodup⟩,fun m hm=>?_,fun q hq=>?_⟩
 · rcases t.len with h | ⟨h,_,ha⟩
   · rw [h,hu];have:=f.cap;omega
   · have:=Jg ha
     rw [hu,h,this];omega
 · have h1:=f.out q x hq hx hxk
   by_cases hqj:q=j
   · subst hqj;exact absurd (hjN x hx) hxk
   · rw [t.same q hqj];exact h1
 · obtain⟨y,hy,hyk⟩:=f.kept q x hx hxk
   by_cases hqj:q=j
   · subst hqj;exact⟨_,t.at_,hn⟩
   · exact⟨y,by rw [t.same q hqj];exact hy,hyk⟩
 · rcases j_.1 hq with rfl | hq
   · exact .inr hjN
   · exact f.new q hq
 · by_cases hqj:q=j
   · subst hqj;exact .inl l_
   · rw [t.same q hqj] at hx
     exact(f.all q x hx hxk).imp (E_ _) id
 · obtain⟨x,hx,hxk⟩:=hK j hj
   exact hxk (t.free x hx)
 · obtain⟨x,hx,rfl⟩:=T_.1 hm
   obtain⟨q,hq⟩:=V_.1 hx
   by_cases hqj:q=j
   · subst hqj
     rw [t.at_] at hq
     obtain rfl:=u_.inj hq
     exact hc
   · rw [t.same q hqj] at hq
     exact f.chk _ (T_.2 ⟨x,C_ hq,rfl⟩)
 · by_cases hqj:q=j
   · subst hqj;rw [t.at_] at hq;cases hq
   · rw [t.same q hqj] at hq;exact f.zero q hq
end
section
def G4 (F:Nat)(N:NL)(n:DNode):Option ((List (Int ⊕ DNode)) × Int) :=
 (iter (σ:=Int) (ρ:=(Unit) ⊕ ((List (Int ⊕ DNode)) × Int)) (fun x16 =>
  bif decide (x16<(N.length:Int)) then
   (rC N x16).bind fun kd4 =>
   bif (kd4 == 0) then
    (kH N x16).bind fun u15 =>
    some (.inr (.inr ((jo N x16 n),x16)))
   else
    some (.inl (IntKind.i64.wrap (x16+1)))
   else
    some (.inr (.inl ()))) F 0).bind fun z=>match z with
  | .inl _ =>
   (rY 104 (N.length+1)).bind fun u16 =>
   some ((N++[(y_ n:Int ⊕ DNode)]),IntKind.i64.wrap (((N++[(y_ n:Int ⊕ DNode)]).length:Int)-1))
  | .inr q=>some q
def Kk (F:Nat)(l:List DElem)(e:DElem):Option Int :=
 iter (σ:=Int) (ρ:=Int) (fun x15 =>
  (
   bif decide (x15<(l.length:Int)) then
    (idx l x15).bind fun e28 =>
    (jf e28).bind fun r68 =>
    (jf e).bind fun r69 =>
    (jp r68 r69).bind fun r70 =>
    some (decide (r70<0))
    else
     some false:Option (Bool)).bind fun z131 =>
   bif z131 then
    some (.inl (IntKind.i64.wrap (x15+1)))
   else
    some (.inr x15)) F 0
abbrev InsT:=(List (Int ⊕ DNode)) × Int × Int × Int × Int × Int × Bool
def D8 (F:Nat)(e:DElem)(rf4:NL × Int→Option InsT)(x13:NL)(x14:Int)(n31:DNode):Option ((List DElem) × (List Int) × (List DSpot) × (List Int) × (List (Int ⊕ DNode))) :=
 bif (n31.kind == 1) then
  (Kk F n31.elems e).bind fun z130 =>
  (sw 56 n31.elems z130 e).bind fun _ =>
  some ((js n31.elems z130.toNat e),n31.kids,n31.seps,n31.tids,(iT x13 x14))
  else
   (jf e).bind fun r71 =>
   (mE F n31 r71).bind fun r72 =>
   (idx n31.kids r72).bind fun e29 =>
   (rf4 ((iT x13 x14),e29)).bind fun z=>match z with
    | (z132,z133,z134,z135,z136,z137,z138) =>
     (idx n31.kids r72).bind fun e30 =>
     (kh z132 e30).bind fun n32 =>
     (jl F n32).bind fun r73 =>
     (idx n31.tids r72).bind fun e31 =>
     bif z138 then
      (sw 8 n31.kids (IntKind.i64.wrap (r72+1)) z137).bind fun _ =>
      (sw 32 n31.seps r72 (DSpot.mk (DKey.mk z133 z134 z135) z136)).bind fun _ =>
      (kh z132 z137).bind fun n33 =>
      (jl F n33).bind fun r74 =>
      (sw 8 (n31.tids.set r72.toNat r73) (IntKind.i64.wrap (r72+1)) r74).bind fun _ =>
      some (n31.elems,(js n31.kids (IntKind.i64.wrap (r72+1)).toNat z137),(js n31.seps r72.toNat (DSpot.mk (DKey.mk z133 z134 z135) z136)),(js (n31.tids.set r72.toNat r73) (IntKind.i64.wrap (r72+1)).toNat r74),z132)
     else
      some (n31.elems,n31.kids,n31.seps,(n31.tids.set r72.toNat r73),z132)
def zf (k:Int)(z125:List DElem)(z126:List Int)(z127:List DSpot)(z128:List Int):Option ((List Int) × (List DSpot) × (List Int) × (List DElem) × (List DElem) × (List Int) × (List DSpot) × (List Int) × Int × Int × Int × Int × Int) :=
 bif (k == 1) then
  (ja z125 4 (z125.length:Int)).bind fun s25 =>
  (jT 56 ([]:List DElem) s25).bind fun _ =>
  (ja z125 0 4).bind fun s26 =>
  (idx s25 0).bind fun e33 =>
  (jf e33).bind fun r76 =>
  some ([],[],[],s25,s26,z126,z127,z128,r76.key.pfs,r76.key.obj,r76.key.off,r76.made,1)
  else
   (ja z126 4 (z126.length:Int)).bind fun s27 =>
   (ja z127 4 (z127.length:Int)).bind fun s28 =>
   (ja z128 4 (z128.length:Int)).bind fun s29 =>
   (jT 8 ([]:List Int) s27).bind fun y37 =>
   (jT 32 ([]:List DSpot) s28).bind fun y38 =>
   (jT 8 ([]:List Int) s29).bind fun y39 =>
   (idx z127 3).bind fun e34 =>
   (ja z126 0 4).bind fun s30 =>
   (ja z127 0 3).bind fun s31 =>
   (ja z128 0 4).bind fun s32 =>
   some (s29,s28,s27,[],z125,s30,s31,s32,e34.key.pfs,e34.key.obj,e34.key.off,e34.made,2)
def Ar (F:Nat)(e:DElem)(rf4:NL × Int→Option InsT)(x:NL × Int):Option InsT :=
 match x with
  | (x13,x14) =>
   (kh x13 x14).bind fun n31 =>
    (D8 F e rf4 x13 x14 n31).bind fun z=>match z with
     | (z125,z126,z127,z128,z129) =>
      bif decide ((IntKind.i64.wrap ((z125.length:Int)+(z126.length:Int)))≤8) then
       (kH z129 x14).bind fun u13 =>
       some ((jo z129 x14 (DNode.mk n31.kind z125 z126 z127 z128)),0,0,0,0,0,false)
      else
       (zf n31.kind z125 z126 z127 z128).bind fun z=>match z with
        | (z139,z140,z141,z142,z143,z144,z145,z146,z147,z148,z149,z150,z151) =>
         (kH z129 x14).bind fun u14 =>
         (G4 F (jo z129 x14 (DNode.mk n31.kind z143 z144 z145 z146)) (DNode.mk z151 z142 z141 z140 z139)).bind fun z=>match z with
          | (z152,z153) =>
           some (z152,z147,z148,z149,z150,z153,true)
def FN (F:Nat)(e:DElem)(N:NL)(root:Int):Option (Int × NL) :=
 (ql (σ:=(List (Int ⊕ DNode)) × Int) (ρ:=InsT) (Ar F e) F (N,root)).bind fun z=>match z with
  | (z39,z40,z41,z42,z43,z44,z45) =>
   bif (!z45) then
    some (root,z39)
   else
    (kh z39 root).bind fun n41 =>
    (kh z39 z44).bind fun n42 =>
    (jl F n41).bind fun r84 =>
    (jl F n42).bind fun r85 =>
    (G4 F z39 (DNode.mk 2 [] [root,z44] [(DSpot.mk (DKey.mk z40 z41 z42) z43)] [r84,r85])).bind fun z=>match z with
     | (z154,z155) =>
      some (z155,z154)
variable {F:Nat} [Big F]
theorem Gd {N:NL}{k:Nat}{x:Int ⊕ DNode}(h:N[k]? = some x):rC N (k:Int)=some (rX x):=by
 unfold rC;rw [if_neg (by omega),i_,h];rfl
theorem FJ {N:NL}(n:DNode)(hl:N.length≤1000):∃ N' j,G4 F N n=some (N',((j:Nat):Int))∧TakeP N n N' j:=by
 unfold G4
 rw [w8 (ρ:=Unit ⊕ (List (Int ⊕ DNode) × Int)) N (fun k x=>if rX x=0 then some (.inr (jo N (k:Int) n,(k:Int))) else none) (.inl ()) (by omega) rfl ?hs ?he]
 case hs =>
  intro k x hk _
  have hkl:=(ggs.1 hk).1
  rw [decide_eq_true (by omega),cond_true,Gd hk,obs]
  by_cases h:rX x=0
  · rw [show (rX x == 0)=true by simpa using h,cond_true,yz ⟨by omega,by omega⟩,obs,if_pos h]
  · rw [show (rX x == 0)=false by simpa using h,cond_false,if_neg h,w64 (by omega) (by omega)]
 case he=>rw [decide_eq_false (by omega),cond_false]
 rw [obs]
 cases hf:N.zipIdx.findSome? (fun p=>if rX p.1=0 then some (y_ (jo N (p.2:Int) n,(p.2:Int)):Unit ⊕ (List (Int ⊕ DNode) × Int)) else none) with
 | some r =>
  obtain⟨k,x,hk,hr⟩:=yH (w:=fun k x=>if rX x=0 then some (y_ (jo N (k:Int) n,(k:Int)):Unit ⊕ (List (Int ⊕ DNode) × Int)) else none) hf
  have hkl:=(ggs.1 hk).1
  split at hr
  · rename_i h0
    obtain rfl:=u_.inj hr
    refine⟨jo N (k:Int) n,k,rfl,⟨?_,fun q hq=>?_,fun y hy=>?_,.inl (uZ _ _ _),fun hn=>?_⟩⟩
    · have:=vK N (i:=(k:Int)) (n:=n) (by rw [i_];exact hkl)
      rwa [i_] at this
    · exact vj N (by rw [i_];exact hq)
    · rw [hk] at hy
      obtain rfl:=u_.inj hy
      exact h0
    · unfold jo
      rw [i_]
      have:=CV (.inr n) hk
      rw [if_neg (fun h=>xI.1 h h0),if_pos (xI.2 hn)] at this
      omega
  · cases hr
 | none =>
  have hn:=(xx (w:=fun k x=>if rX x=0 then some (y_ (jo N (k:Int) n,(k:Int)):Unit ⊕ (List (Int ⊕ DNode) × Int)) else none)).1 hf
  have hall : ∀(q:Nat) (x:Int ⊕ DNode),N[q]? = some x→rX x≠0:=fun q x hx h0=>by
   have:=hn q x hx
   rw [if_pos h0] at this;cases this
  refine⟨N++[.inr n],N.length,?_,⟨by rw [p7 (q_ _)];simp,fun q hq=>?_,fun x hx=>?_,.inr ⟨by simp,rfl,hall⟩,fun hk=>?_⟩⟩
  · have hr:rY 104 (N.length+1)=some ():=by unfold rY;rw [if_pos ⟨by omega,by unfold maxLen;omega⟩]
    dsimp only [Option.getD_none]
    rw [hr,obs,t_,v_,w64 (by omega) (by omega)]
    congr 2;omega
  · rcases Nat.lt_or_ge q N.length with h | h
    · rw [List.getElem?_append_left h]
    · rw [E1 (by rw [t_,v_];omega),E1 h]
  · have:=(ggs.1 hx).1;omega
  · unfold used
    rw [List.countP_append,List.countP_singleton,if_pos (xI.2 hk)]
theorem Je {α:Type}{p:α→Bool}{x:α}:∀ {l:List α},x∈l.takeWhile p→p x=true
 | [],h=>by simp at h
 | a::l,h=>by
  cases ha:p a with
  | true =>
   rw [E2 ha] at h
   rcases j_.1 h with rfl | h
   · exact ha
   · exact Je h
  | false=>rw [E3 (by simp [ha])] at h;cases h
theorem JG (l:List DElem)(e:DElem)(hl:l.length≤1000):∃ w:Nat,Kk F l e=some (w:Int)∧w≤l.length∧(∀ x∈l.take w,cmpS (uU x) (uU e)<0)∧∀ x,l[w]? = some x→¬ cmpS (uU x) (uU e)<0:=by
 obtain⟨w1,w2⟩ : (∀ x∈l.takeWhile (fun x=>decide (cmpS (uU x) (uU e)<0)),cmpS (uU x) (uU e)<0)∧∀ x,l[(l.takeWhile (fun x=>decide (cmpS (uU x) (uU e)<0))).length]? = some x→¬ cmpS (uU x) (uU e)<0:=by
  refine⟨fun x hx=>by simpa using Je hx,?_⟩
  clear hl
  induction l with
  | nil=>intro x hx;simp at hx
  | cons a l ih =>
   intro x hx
   by_cases h:cmpS (uU a) (uU e)<0
   · rw [E2 (by simpa using h),l9,List.getElem?_cons_succ] at hx
     exact ih x hx
   · rw [E3 (by simpa using h)] at hx
     obtain rfl:a=x:=by simpa using hx
     exact h
 have hpre:l.takeWhile (fun x=>decide (cmpS (uU x) (uU e)<0)) <+: l:=List.takeWhile_prefix _
 have hle:=hpre.length_le
 have ht:l.take (l.takeWhile (fun x=>decide (cmpS (uU x) (uU e)<0))).length=l.takeWhile (fun x=>decide (cmpS (uU x) (uU e)<0)):=(List.prefix_iff_eq_take.1 hpre).symm
 generalize hw:(l.takeWhile (fun x=>decide (cmpS (uU x) (uU e)<0))).length=w at *
 refine⟨w,?_,hle,by rw [ht];exact w1,w2⟩
 unfold Kk
 refine vE (fun k=>(k:Int)) w rfl (by omega) (fun k hk=>?_) ?_
 · have hkl:k<l.length:=by omega
   have hg:l[k]? = some l[k]:=gge hkl
   have hmem:l[k]∈l.take w:=C_ (by rw [List.getElem?_take_of_lt hk];exact hg)
   rw [decide_eq_true (by omega),cond_true,uX,hg,obs,vf,obs,vf,obs,vx,obs,decide_eq_true (w1 _ (by rw [← ht];exact hmem)),obs,cond_true,w64 (by omega) (by omega)]
   rfl
 · by_cases h:w<l.length
   · have hg:l[w]? = some l[w]:=gge h
     rw [decide_eq_true (by omega),cond_true,uX,hg,obs,vf,obs,vf,obs,vx,obs,decide_eq_false (w2 _ hg),obs,cond_false]
   · rw [decide_eq_false (by omega),cond_false,obs,cond_false]
theorem D7 {l:List DElem}{e:DElem}{w:Nat}(ho:l.Pairwise SpO)(hw:w≤l.length)(h1 : ∀ x∈l.take w,cmpS (uU x) (uU e)<0)(h2 : ∀ x,l[w]? = some x→¬ cmpS (uU x) (uU e)<0)(hne : ∀ x∈l,uU x≠uU e) :
 (js l w e).Pairwise SpO∧∀ x,x∈js l w e↔x=e∨x∈l:=by
 have ho':=ho
 rw [← D_ w l] at ho'
 obtain⟨o1,o2,o3⟩:=z_.1 ho'
 have hd : ∀ x∈l.drop w,SpO e x:=fun x hx=>by
  have h0 : ∀ y,l[w]? = some y→SpO e y:=fun y hy=>by
   have h3:=h2 y hy
   have h4:=hne y (C_ hy)
   have h5:cmpS (uU y) (uU e)≠0:=fun h=>h4 ((vc.zero _ _).1 h)
   have h6:=vc.neg (uU y) (uU e)
   show cmpS (uU e) (uU y)<0
   omega
  obtain⟨q,hq⟩:=V_.1 hx
  rw [p8] at hq
  cases q with
  | zero=>exact h0 x (by simpa using hq)
  | succ q =>
   have hlt:=(ggs.1 hq).1
   have hg:l[w]? = some l[w]:=gge (by omega)
   exact(h0 _ hg).trans (wi ho (by omega) hg hq)
 unfold js
 refine⟨z_.2 ⟨o1,B_.2 ⟨hd,o2⟩,fun a ha b hb=>?_⟩,fun x=>?_⟩
 · rcases j_.1 hb with rfl | hb
   · exact h1 a ha
   · exact o3 a ha b hb
 · conv=>rhs;rw [← D_ w l]
   rw [g_,j_,g_]
   constructor
   · rintro(h | h | h)
     · exact .inr (.inl h)
     · exact .inl h
     · exact .inr (.inr h)
   · rintro(h | h | h)
     · exact .inr (.inl h)
     · exact .inl h
     · exact .inr (.inr h)
structure InsPost (e:DElem) (N N' : NL) (h:Nat) (i:Int) (s:Span) (m:Nat) (R:List Int) (X:List DSpot):Prop where
 fr:Fr2 N N' (ids (fN N) h i) (R.flatMap (ids (fN N') h)) (h+1)
 ch:Ch (fun k t s'=>vm (fN N') h k m s'∧ve (nd (fN N') k)=t) X s R (R.map fun k=>ve (nd (fN N') k))
 elems : ∀ x,x∈R.flatMap (uS (fN N') h)↔x=e∨x∈uS (fN N) h i
theorem ww {N N' : NL}{h:Nat}{X:List DSpot}{s:Span}{Ks Ts:List Int}(hl:N.length≤N'.length)(c:Ch (AJ (fN N) h) X s Ks Ts)(hj : ∀ j∈Ks.flatMap (ids (fN N) h),N'[j]? = N[j]?) :
 Ch (AJ (fN N') h) X s Ks Ts∧Ks.flatMap (ids (fN N') h)=Ks.flatMap (ids (fN N) h)∧Ks.flatMap (uS (fN N') h)=Ks.flatMap (uS (fN N) h):=by
 have key : ∀ k∈Ks,∀ {m:Nat} {s:Span},vm (fN N) h k m s→vm (fN N') h k m s∧ids (fN N') h k=ids (fN N) h k∧uS (fN N') h k=uS (fN N) h k∧nd (fN N') k=nd (fN N) k:=fun k hk {m s} x =>
  x.agree hl fun j hjk=>hj j (N_.2 ⟨k,hk,hjk⟩)
 refine⟨c.mono fun k t s' hk x=>⟨(key k hk x.1).1,by rw [(key k hk x.1).2.2.2];exact x.2⟩,xy fun k hk=>?_,vI fun k hk=>?_⟩
 · obtain⟨t,s',x,_⟩:=c.mem k hk;exact(key k hk x.1).2.1
 · obtain⟨t,s',x,_⟩:=c.mem k hk;exact(key k hk x.1).2.2.1
theorem Ch.tmem {P:Int→Int→Span→Prop}:∀ {xs:List DSpot} {s:Span} {ks ts:List Int},Ch P xs s ks ts→∀ t∈ts,∃ k s',k∈ks∧P k t s'
 | [],s,ks,ts,⟨k,t,h1,h2,c⟩,q,hq=>by
  subst h1 h2
  rw [P_.1 hq];exact⟨k,s,l_,c⟩
 | x::xs,s,ks,ts,⟨k,ks',t,ts',h1,h2,h3,h4,c⟩,q,hq=>by
  subst h1 h2
  rcases j_.1 hq with rfl | hq
  · exact⟨k,_,l_,h4⟩
  · obtain⟨k',s',i1,i2⟩:=c.tmem q hq
    exact⟨k',s',E_ _ i1,i2⟩
theorem xj {N:NL}(hc:wv N)(hl:N.length≤400){h:Nat}{X:List DSpot}{s:Span}{Ks Ts:List Int}(c:Ch (AJ (fN N) h) X s Ks Ts)(h2:2≤Ks.length)(h8:Ks.length≤8)(ho:X.Pairwise SpotO)(hx : ∀ x∈X,vb (zE x)=0) :
 Inner ⟨2,[],Ks,X,Ts⟩:=by
 have hlen:=c.lens
 refine⟨rfl,h2,h8,hlen.1,hlen.2,fun k hk=>?_,fun t ht=>?_,hx,ho⟩
 · obtain⟨t,s',x,_⟩:=c.mem k hk
   have:=x.1.range
   rw [vd] at this
   omega
 · obtain⟨k,s',_,x⟩:=c.tmem t ht
   rw [← x.2]
   exact zq (yC hc x.1.range)
theorem vm.some_elem {ns:List DNode}(hns : ∀ n∈ns,vq n=0){h:Nat}{i:Int}{s:Span}(c:vm ns h i 4 s):∃ e,e∈uS ns h i:=by
 have h0:=(Ce hns h i 1 s (by decide)).2 (by unfold mOf;rw [if_pos (by decide)];exact c)
 have:=F1 hns h i 1 s h0 (by decide)
 have h1:0<4 ^ (h+1):=Nat.pow_pos (by decide)
 exact List.exists_mem_of_length_pos (by omega)
theorem F7 {l:List DElem}(hl:l.length=9)(ks:List Int)(xs:List DSpot)(ts:List Int):∃ x,l[4]? = some x∧zf 1 l ks xs ts=some ([],[],[],l.drop 4,l.take 4,ks,xs,ts,(uU x).key.pfs,(uU x).key.obj,(uU x).key.off,(uU x).made,1):=by
 have hg:l[4]? = some l[4]:=gge (by omega)
 refine⟨_,hg,?_⟩
 unfold zf
 have h1:ja l 4 (l.length:Int)=some (l.drop 4):=vF (k:=4) (by omega)
 have h2:ja l 0 4=some (l.take 4):=wd (k:=4) (by omega)
 have h3:idx (l.drop 4) 0=some l[4]:=by rw [show (0:Int)=((0:Nat):Int) from rfl,uX,p8];exact hg
 rw [show ((1:Int) == 1)=true from rfl,cond_true,h1,obs,vn (by simp [hl]) (by simp [hl]),obs,h2,obs,h3,obs,vf,obs]
theorem E8 {ks:List Int}{xs:List DSpot}{ts:List Int}(hk:ks.length=9)(hx:xs.length=8)(ht:ts.length=9)(l:List DElem):∃ x,xs[3]? = some x∧zf 2 l ks xs ts=some (ts.drop 4,xs.drop 4,ks.drop 4,[],l,ks.take 4,xs.take 3,ts.take 4,x.key.pfs,x.key.obj,x.key.off,x.made,2):=by
 have hg:xs[3]? = some xs[3]:=gge (by omega)
 refine⟨_,hg,?_⟩
 unfold zf
 have h1:ja ks 4 (ks.length:Int)=some (ks.drop 4):=vF (k:=4) (by omega)
 have h2:ja xs 4 (xs.length:Int)=some (xs.drop 4):=vF (k:=4) (by omega)
 have h3:ja ts 4 (ts.length:Int)=some (ts.drop 4):=vF (k:=4) (by omega)
 have h4:ja ks 0 4=some (ks.take 4):=wd (k:=4) (by omega)
 have h5:ja xs 0 3=some (xs.take 3):=wd (k:=3) (by omega)
 have h6:ja ts 0 4=some (ts.take 4):=wd (k:=4) (by omega)
 have h7:idx xs 3=some xs[3]:=by rw [show (3:Int)=((3:Nat):Int) from rfl,uX];exact hg
 rw [show ((2:Int) == 1)=false from rfl,cond_false,h1,obs,h2,obs,h3,obs,vn (by simp [hk]) (by simp [hk]),obs,vn (by simp [hx]) (by simp [hx]),obs,vn (by simp [ht]) (by simp [ht]),obs,h7,obs,h4,obs,h5,obs,h6,obs]
end
section
variable {F:Nat} [Big F]
theorem Fr2.cong {N N' : NL}{I I' K K' : List Nat}{c:Nat}(f:Fr2 N N' I K c)(h1:I=I')(h2:K=K'):Fr2 N N' I' K' c:=by subst h1 h2;exact f
theorem zg {N:NL}{i:Int}{n:DNode}(h:N[i.toNat]? = some (.inr n)):nd (fN N) i=n:=by unfold nd;rw [zm,h];rfl
def FL (F:Nat)(e:DElem)(N:NL)(h mf:Nat)(i:Int)(s:Span)(m:Nat):Prop :=
 ∃(N' : NL) (sp:DSpot) (r:Int) (b:Bool),ql (Ar F e) mf (N,i)=some (N',sp.key.pfs,sp.key.obj,sp.key.off,sp.made,r,b) ∧
  ((b=false∧InsPost e N N' h i s m [i] [])∨(b=true∧vb (zE sp)=0∧InsPost e N N' h i s 4 [i,r] [sp]))
def z0:DSpot:=⟨⟨0,0,0⟩,0⟩
omit [Big F] in
theorem Cy {e:DElem}{rf:NL × Int→Option InsT}{N N2:NL}{i:Int}{n:DNode}{l:List DElem}{ks:List Int}{xs:List DSpot}{ts:List Int}(hn:kh N i=some n)(hm:D8 F e rf N i n=some (l,ks,xs,ts,N2))(h8:l.length+ks.length≤8)(hi:0≤i∧i<(N2.length:Int)) :
 Ar F e rf (N,i)=some (jo N2 i ⟨n.kind,l,ks,xs,ts⟩,0,0,0,0,0,false):=by
 unfold Ar
 dsimp only
 rw [hn,obs,hm,obs]
 dsimp only
 rw [w64 (by omega) (by omega),decide_eq_true (by omega),cond_true,yz hi,obs]
theorem Cx {e:DElem}{rf:NL × Int→Option InsT}{N N2:NL}{i:Int}{n:DNode}{l:List DElem}{ks:List Int}{xs:List DSpot}{ts:List Int}(hn:kh N i=some n)(hm:D8 F e rf N i n=some (l,ks,xs,ts,N2))(h8:l.length+ks.length=9)(hi:0≤i∧i<(N2.length:Int))(hl:N2.length≤1000)
 {r1:List Int} {r2:List DSpot} {r3:List Int} {r4 l1:List DElem} {l2:List Int} {l3:List DSpot} {l4:List Int} {sp:DSpot} {k:Int} (hh:zf n.kind l ks xs ts=some (r1,r2,r3,r4,l1,l2,l3,l4,sp.key.pfs,sp.key.obj,sp.key.off,sp.made,k)) :
 ∃ N' j,Ar F e rf (N,i)=some (N',sp.key.pfs,sp.key.obj,sp.key.off,sp.made,((j:Nat):Int),true)∧TakeP (jo N2 i ⟨n.kind,l1,l2,l3,l4⟩) ⟨k,r4,r3,r2,r1⟩ N' j:=by
 obtain⟨N',j,h1,h2⟩:=FJ (F:=F) (N:=jo N2 i ⟨n.kind,l1,l2,l3,l4⟩) ⟨k,r4,r3,r2,r1⟩ (by rw [uZ];exact hl)
 refine⟨N',j,?_,h2⟩
 unfold Ar
 dsimp only
 rw [hn,obs,hm,obs]
 dsimp only
 rw [w64 (by omega) (by omega),decide_eq_false (by omega),cond_false,hh,obs]
 dsimp only
 rw [yz hi,obs,h1,obs]
theorem IA {e:DElem}(he:vb e=0){mf:Nat}{N:NL}{i:Int}{m:Nat}{s:Span}(hm:0<mf)(hc:wv N)(hl:N.length≤400)(c:vm (fN N) 0 i m s)(hs:inS s (uU e)=true)(hne : ∀ x∈uS (fN N) 0 i,uU x≠uU e):FL F e N 0 mf i s m:=by
 obtain⟨mf,rfl⟩ : ∃ q,mf=q+1:=⟨mf-1,by omega⟩
 have L:=c.leaf hc
 have hr:=c.range
 rw [vd] at hr
 obtain⟨hnode,hat⟩:=c.node
 have hk0:=c.kind
 obtain⟨_,hk1,hmk,hin⟩:=c
 have hne' : ∀ x∈(nd (fN N) i).elems,uU x≠uU e:=hne
 have hel : ∀ x,x∈uS (fN N) 0 i↔x∈(nd (fN N) i).elems:=fun x=>Iff.rfl
 generalize hnn:nd (fN N) i=n at *
 obtain⟨w,hw,hwl,hw1,hw2⟩:=JG (F:=F) n.elems e (by have:=L.len;omega)
 obtain⟨so,sm⟩:=D7 L.ord hwl hw1 hw2 hne'
 have hlen:=kE e hwl
 have h8:=L.len
 generalize hl' : js n.elems w e=l' at *
 have hok : ∀ x∈l',vb x=0:=fun x hx=>by
  rcases (sm x).1 hx with rfl | hx
  · exact he
  · exact L.ok x hx
 have hin' : ∀ x∈l',inS s (uU x)=true:=fun x hx=>by
  rcases (sm x).1 hx with rfl | hx
  · exact hs
  · exact hin x hx
 have hM : ∀ rf,D8 F e rf N i n=some (l',[],[],[],iT N i):=fun rf=>by
  unfold D8
  rw [hk1,show ((1:Int) == 1)=true from rfl,cond_true,hw,obs]
  unfold sw
  rw [if_pos ⟨by omega,by omega,by omega,by unfold maxLen;omega⟩,obs,i_,hl',L.kids,L.seps,L.tids]
 have fr0:=Fr2.start hc hat hk0
 have hat1 : ∃ x,(iT N i)[i.toNat]? = some x∧rX x≠0:=by
  have:=ym N i i.toNat
  rw [yu hat] at this
  obtain⟨x,hx,hxk⟩:=GR this
  exact⟨x,hx,by rw [hxk];exact hk0⟩
 obtain⟨x1,hx1,hxk1⟩:=hat1
 have hI:ids (fN N) 0 i=[i.toNat]:=rfl
 by_cases hs8:l'.length≤8
 · have Lf:Leaf ⟨1,l',[],[],[]⟩:=⟨rfl,rfl,rfl,hs8,hok,so⟩
   have hck:=xP (n:=⟨1,l',[],[],[]⟩) rfl Lf
   have hnd:nd (fN (jo (iT N i) i ⟨1,l',[],[],[]⟩)) i=⟨1,l',[],[],[]⟩:=Bz (by rw [uW];exact hr)
   refine⟨jo (iT N i) i ⟨1,l',[],[],[]⟩,z0,0,false,?_,.inl ⟨rfl,⟨?_,?_,?_⟩⟩⟩
   · show Ar F e (ql (Ar F e) mf) (N,i)=_
     rw [Cy hnode (hM _) (by simpa using hs8) (by rw [uW];exact hr),hk1];rfl
   · exact((fr0.put l_ l_ hx1 hxk1 (show (1:Int)≠0 by decide) hck).more (W_ _)).cong rfl (by simp [ids])
   · refine⟨i,_,rfl,rfl,⟨?_,by rw [hnd],by rw [hnd];show m≤l'.length;omega,by rw [hnd];exact hin'⟩,rfl⟩
     rw [vd,uZ,uW];exact hr
   · intro x
     rw [hel,← sm x,x_]
     show x∈(nd _ i).elems↔_
     rw [hnd]
 · have h9:l'.length=9:=by omega
   obtain⟨x,hx,hh⟩:=F7 h9 [] [] []
   rw [← hk1] at hh
   obtain⟨N',j,hB,tk⟩:=Cx (sp:=uU x) hnode (hM (ql (Ar F e) mf)) (by simpa using h9) (by rw [uW];exact hr) (by rw [uW];omega) hh
   rw [hk1] at tk
   have e48:l' = l'.take 4++l'.drop 4:=(D_ 4 l').symm
   have hso:=so
   rw [e48] at hso
   obtain⟨o1,o2,o3⟩:=z_.1 hso
   have hl1:(l'.take 4).length=4:=by rw [p_];omega
   have hl2:(l'.drop 4).length=5:=by rw [G_];omega
   have hxd : ∃ r,l'.drop 4=x::r:=by
    have h4:4<l'.length:=by omega
    rw [gge h4] at hx
    obtain rfl:=u_.inj hx
    exact⟨_,l7 h4⟩
   obtain⟨rr,hrr⟩:=hxd
   have Lf1:Leaf ⟨1,l'.take 4,[],[],[]⟩:=⟨rfl,rfl,rfl,by show (l'.take 4).length≤8;omega,fun y hy=>hok y (m0 hy),o1⟩
   have Lf2:Leaf ⟨1,l'.drop 4,[],[],[]⟩:=⟨rfl,rfl,rfl,by show (l'.drop 4).length≤8;omega,fun y hy=>hok y (J_ hy),o2⟩
   have hck1:=xP (n:=⟨1,l'.take 4,[],[],[]⟩) rfl Lf1
   have hck2:=xP (n:=⟨1,l'.drop 4,[],[],[]⟩) rfl Lf2
   have fr1:=fr0.put l_ l_ hx1 hxk1 (n:=⟨1,l'.take 4,[],[],[]⟩) (show (1:Int)≠0 by decide) hck1
   have hat2:(jo (iT N i) i ⟨1,l'.take 4,[],[],[]⟩)[i.toNat]? = some (.inr ⟨1,l'.take 4,[],[],[]⟩):=vK _ (by rw [uW];omega)
   have fr2:=fr1.take tk (show (1:Int)≠0 by decide) hck2 fun q hq=>by
    obtain rfl:q=i.toNat:=by simpa using hq
    exact⟨_,hat2,show (1:Int)≠0 by decide⟩
   have hij:i.toNat≠j:=fun h=>by
    subst h
    exact absurd (tk.free _ hat2) (show (1:Int)≠0 by decide)
   have hNi:N'[i.toNat]? = some (.inr ⟨1,l'.take 4,[],[],[]⟩):=by rw [tk.same _ hij];exact hat2
   have hnd1:nd (fN N') i=⟨1,l'.take 4,[],[],[]⟩:=zg hNi
   have hnd2:nd (fN N') (j:Int)=⟨1,l'.drop 4,[],[],[]⟩:=Bb (by rw [zm,tk.at_];rfl)
   have hjl:j<N'.length:=(ggs.1 tk.at_).1
   have hil:i.toNat<N'.length:=(ggs.1 hNi).1
   have hxs:inS s (uU x)=true:=hin' x (J_ (by rw [hrr];exact l_))
   refine⟨N',uU x,(j:Int),true,hB,.inr ⟨rfl,Eu (hok x (J_ (by rw [hrr];exact l_))),⟨?_,?_,?_⟩⟩⟩
   · refine((fr2.more (by omega)).perm (K':=[i.toNat,j]) (List.Perm.swap _ _ _)).cong rfl ?_
     simp [ids]
   · refine⟨i,[(j:Int)],_,_,rfl,rfl,hxs,⟨⟨?_,by rw [hnd1],by rw [hnd1];show 4≤(l'.take 4).length;omega,?_⟩,rfl⟩,(j:Int),_,rfl,rfl,⟨?_,by rw [hnd2],by rw [hnd2];show 4≤(l'.drop 4).length;omega,?_⟩,rfl⟩
     · rw [vd];omega
     · rw [hnd1]
       intro y hy
       exact wE.2 ⟨(vJ.1 (hin' y (m0 hy))).1,o3 y hy x (by rw [hrr];exact l_)⟩
     · rw [vd];omega
     · rw [hnd2]
       intro y hy
       refine yd.2 ⟨?_,(vJ.1 (hin' y (J_ hy))).2⟩
       have hy' : y∈x::rr:=by rw [← hrr];exact hy
       rw [hrr] at o2
       rcases j_.1 hy' with rfl | hy'
       · rw [vc.refl];decide
       · have:cmpS (uU x) (uU y)<0:=(B_.1 o2).1 y hy'
         omega
   · intro y
     rw [hel,← sm y,d_,x_]
     show y∈(nd _ i).elems++(nd _ (j:Int)).elems↔_
     rw [hnd1,hnd2]
     show y∈l'.take 4++l'.drop 4↔_
     rw [← e48]
theorem BH (l:List DElem)(a:List Int)(b:List DSpot)(c:List Int):(DNode.mk 2 l a b c).kind≠0:=show (2:Int)≠0 by decide
theorem Jy {e:DElem}{N N2:NL}{h mf:Nat}{i:Int}{m:Nat}{s:Span}{n:DNode}{Ks:List Int}{Xs:List DSpot}{Ts:List Int}(hnode:kh N i=some n)(hk2:n.kind=2)(hM:D8 F e (ql (Ar F e) mf) N i n=some ([],Ks,Xs,Ts,N2))(hi:0≤i∧i<(N2.length:Int))(hl2:N2.length≤400)
 (fr:Fr2 N N2 (ids (fN N) (h+1) i) (i.toNat::Ks.flatMap (ids (fN N2) h)) (h+1)) (hole : ∃ x,N2[i.toNat]? = some x∧rX x≠0) (c:Ch (AJ (fN N2) h) Xs s Ks Ts) (h2:2≤Ks.length) (h9:Ks.length≤9) (hm:m≤Ks.length) (ho:Xs.Pairwise SpotO) (hx : ∀ x∈Xs,vb (zE x)=0)
 (el : ∀ x,x∈Ks.flatMap (uS (fN N2) h)↔x=e∨x∈uS (fN N) (h+1) i):FL F e N (h+1) (mf+1) i s m:=by
 have hI:i.toNat∈ids (fN N) (h+1) i:=vm.head _ _
 have hc2:=fr.chk
 obtain⟨x1,hx1,hxk1⟩:=hole
 have hiK:i.toNat ∉ Ks.flatMap (ids (fN N2) h):=(O_.1 fr.nodup).1
 have hlens:=c.lens
 by_cases h8:Ks.length≤8
 · have hck:=vM (n:=⟨2,[],Ks,Xs,Ts⟩) rfl (xj hc2 hl2 c h2 h8 ho hx)
   have hnd:nd (fN (jo N2 i ⟨2,[],Ks,Xs,Ts⟩)) i=⟨2,[],Ks,Xs,Ts⟩:=Bz hi
   obtain⟨a1,a2,a3⟩:=ww (N':=jo N2 i ⟨2,[],Ks,Xs,Ts⟩) (by rw [uZ];exact q_ _) c fun j hj=>vj N2 (show j≠i.toNat from fun h=>hiK (by rw [← h];exact hj))
   refine⟨jo N2 i ⟨2,[],Ks,Xs,Ts⟩,z0,0,false,?_,.inl ⟨rfl,⟨?_,?_,?_⟩⟩⟩
   · show Ar F e (ql (Ar F e) mf) (N,i)=_
     rw [Cy hnode hM (by simpa using h8) hi,hk2];rfl
   · refine((fr.put hI l_ hx1 hxk1 (BH _ _ _ _) hck).more (by omega)).cong rfl ?_
     rw [x_,ids,hnd,a2]
   · refine⟨i,_,rfl,rfl,⟨?_,by rw [hnd],by rw [hnd];exact hm,by rw [hnd];exact a1⟩,rfl⟩
     rw [vd,uZ];exact hi
   · intro x
     rw [x_,uS,hnd,a3]
     exact el x
 · have hk9:Ks.length=9:=by omega
   obtain⟨sp,hsp,hh⟩:=E8 hk9 (show Xs.length=8 by omega) (show Ts.length=9 by omega) []
   rw [← hk2] at hh
   obtain⟨N',j,hB,tk⟩:=Cx hnode hM (by simpa using hk9) hi (by omega) hh
   rw [hk2] at tk
   have h3:3<Xs.length:=by omega
   have hspx:Xs[3]=sp:=by rw [gge h3] at hsp;exact u_.inj hsp
   have eX:Xs=Xs.take 3++sp::Xs.drop 4:=by rw [← hspx];exact yW Xs h3
   have eK:Ks=Ks.take 4++Ks.drop 4:=(D_ 4 Ks).symm
   have eT:Ts=Ts.take 4++Ts.drop 4:=(D_ 4 Ts).symm
   have l1:(Ks.take 4).length=4:=by rw [p_];omega
   have l2:(Xs.take 3).length=3:=by rw [p_];omega
   have l3:(Ts.take 4).length=4:=by rw [p_];omega
   have l4:(Ks.drop 4).length=5:=by rw [G_];omega
   have c':=c
   rw [eX,eK,eT] at c'
   have ho':=ho
   rw [eX] at ho'
   obtain⟨s1,s2,s3⟩:=Ch.split (by omega) (by omega) ho' c'
   obtain⟨o1,o2,o3⟩:=z_.1 ho'
   have hck1:=vM (n:=⟨2,[],Ks.take 4,Xs.take 3,Ts.take 4⟩) rfl (xj hc2 hl2 s2 (by omega) (by omega) o1 fun x h=>hx x (m0 h))
   have hck2:=vM (n:=⟨2,[],Ks.drop 4,Xs.drop 4,Ts.drop 4⟩) rfl (xj hc2 hl2 s3 (by omega) (by omega) (B_.1 o2).2 fun x h=>hx x (J_ h))
   have fr1:=fr.put hI l_ hx1 hxk1 (BH [] (Ks.take 4) (Xs.take 3) (Ts.take 4)) hck1
   have hat2:(jo N2 i ⟨2,[],Ks.take 4,Xs.take 3,Ts.take 4⟩)[i.toNat]? = some (.inr ⟨2,[],Ks.take 4,Xs.take 3,Ts.take 4⟩):=vK _ (by omega)
   have hKu : ∀ q∈Ks.flatMap (ids (fN N2) h),∃ n:DNode,N2[q]? = some (.inr n)∧n.kind≠0:=fun q hq=>by
    obtain⟨k,hk,hq⟩:=N_.1 hq
    obtain⟨t,s',x,_⟩:=c.mem k hk
    exact x.1.used q hq
   have hne : ∀ q∈Ks.flatMap (ids (fN N2) h),q≠i.toNat:=fun q hq h=>hiK (by rw [← h];exact hq)
   have fr2:=fr1.take tk (BH _ _ _ _) hck2 fun q hq=>by
    rcases j_.1 hq with rfl | hq
    · exact⟨_,hat2,BH _ _ _ _⟩
    · obtain⟨y,hy,hyk⟩:=hKu q hq
      exact⟨.inr y,by rw [vj N2 (hne q hq)];exact hy,hyk⟩
   have hij:i.toNat≠j:=fun h=>by
    subst h
    exact absurd (tk.free _ hat2) (BH _ _ _ _)
   have hNi:N'[i.toNat]? = some (.inr ⟨2,[],Ks.take 4,Xs.take 3,Ts.take 4⟩):=by rw [tk.same _ hij];exact hat2
   have hnd1:nd (fN N') i=⟨2,[],Ks.take 4,Xs.take 3,Ts.take 4⟩:=zg hNi
   have hnd2:nd (fN N') (j:Int)=⟨2,[],Ks.drop 4,Xs.drop 4,Ts.drop 4⟩:=zg (by rw [i_];exact tk.at_)
   have hjl:j<N'.length:=(ggs.1 tk.at_).1
   have hil:i.toNat<N'.length:=(ggs.1 hNi).1
   have hlen:N2.length≤N'.length:=by rcases tk.len with h | ⟨h,_⟩ <;> rw [uZ] at h <;> omega
   have hag : ∀ q∈Ks.flatMap (ids (fN N2) h),N'[q]? = N2[q]?:=fun q hq=>by
    have hqj:q≠j:=fun h=>by
     subst h
     obtain⟨y,hy,hyk⟩:=hKu q hq
     exact absurd (tk.free (.inr y) (by rw [vj N2 (hne q hq)];exact hy)) hyk
    rw [tk.same q hqj,vj N2 (hne q hq)]
   have sub1 : ∀ q∈(Ks.take 4).flatMap (ids (fN N2) h),q∈Ks.flatMap (ids (fN N2) h):=fun q hq=>by
    rw [eK,a_];exact M_ _ hq
   have sub2 : ∀ q∈(Ks.drop 4).flatMap (ids (fN N2) h),q∈Ks.flatMap (ids (fN N2) h):=fun q hq=>by
    rw [eK,a_];exact U_ _ hq
   obtain⟨a1,a2,a3⟩:=ww hlen s2 fun q hq=>hag q (sub1 q hq)
   obtain⟨b1,b2,b3⟩:=ww hlen s3 fun q hq=>hag q (sub2 q hq)
   refine⟨N',sp,(j:Int),true,hB,.inr ⟨rfl,hx sp (by rw [eX];simp),⟨?_,?_,?_⟩⟩⟩
   · refine(fr2.perm (K':=i.toNat::((Ks.take 4).flatMap (ids (fN N2) h)++j::(Ks.drop 4).flatMap (ids (fN N2) h))) ?_).cong rfl ?_
     · rw [show Ks.flatMap (ids (fN N2) h)=(Ks.take 4).flatMap (ids (fN N2) h)++(Ks.drop 4).flatMap (ids (fN N2) h) by rw [← a_,← eK]]
       exact(List.Perm.swap _ _ _).trans (List.Perm.cons _ o6.symm)
     · rw [d_,x_,ids,ids,hnd1,hnd2,a2,b2,i_];rfl
   · refine⟨i,[(j:Int)],_,_,rfl,rfl,s1,⟨⟨?_,by rw [hnd1],by rw [hnd1];show 4≤(Ks.take 4).length;omega,by rw [hnd1];exact a1⟩,rfl⟩,(j:Int),_,rfl,rfl,⟨?_,by rw [hnd2],by rw [hnd2];show 4≤(Ks.drop 4).length;omega,by rw [hnd2];exact b1⟩,rfl⟩
     · rw [vd];omega
     · rw [vd];omega
   · intro x
     rw [← el x,d_,x_,uS,uS,hnd1,hnd2]
     show x∈(Ks.take 4).flatMap _++(Ks.drop 4).flatMap _↔_
     rw [a3,b3,← a_,← eK]
theorem Et (sp:DSpot):DSpot.mk (DKey.mk sp.key.pfs sp.key.obj sp.key.off) sp.made=sp:=rfl
theorem Iz {e:DElem}(he:vb e=0):∀(h mf:Nat) (N:NL) (i:Int) (m:Nat) (s:Span),h<mf→wv N→N.length≤400→used N+(h+1)≤400→vm (fN N) h i m s→(ids (fN N) h i).Nodup→inS s (uU e)=true→(∀ x∈uS (fN N) h i,uU x≠uU e) →
 FL F e N h mf i s m:=by
 intro h
 induction h with
 | zero=>exact fun mf N i m s hm hc hl _ c _ hs hne=>IA he hm hc hl c hs hne
 | succ h ih =>
  intro mf N i m s hm hc hl hu c hn hs hne
  obtain⟨mf,rfl⟩ : ∃ q,mf=q+1:=⟨mf-1,by omega⟩
  have L:=c.inner hc
  have hr:=c.range
  rw [vd] at hr
  have hus:=c.used
  obtain⟨hnode,hat⟩:=c.node
  have hk0:=c.kind
  obtain⟨_,hk2,hmk,hch⟩:=c
  obtain⟨A,k,B,XA,XB,TA,t,TB,s',f⟩:=F6 L.seps L.tids L.ord hch hs
  have hids:ids (fN N) (h+1) i=i.toNat::(A.flatMap (ids (fN N) h)++(ids (fN N) h k++B.flatMap (ids (fN N) h))):=by
   rw [ids,f.kids,a_,d_]
  have hels:uS (fN N) (h+1) i=A.flatMap (uS (fN N) h)++(uS (fN N) h k++B.flatMap (uS (fN N) h)):=by
   rw [uS,f.kids,a_,d_]
  generalize hnn:nd (fN N) i=n at *
  have hn0:=hn
  rw [ids,hnn,f.kids] at hn
  obtain⟨d1,d2,d3⟩:=zw hn
  have hN1 : ∀ j∈ids (fN N) h k,(iT N i)[j]? = N[j]?:=fun j hj=>vA N (fun e=>d1 (e▸hj))
  obtain⟨q1,q2,q3,q4⟩:=vm.agree (N':=iT N i) (by rw [uW];exact q_ _) f.here.1 hN1
  obtain⟨N2,sp,r,b,hrun,hpost⟩:=ih mf (iT N i) k 4 s' (by omega) (hc.out i) (by rw [uW];exact hl) (by rw [Bn];omega) q1 (by rw [q2];exact d2) f.in_ (fun x hx=>hne x (by rw [hels,← q3];simp [hx]))
  have hw:xV n.seps (uU e)=A.length:=f.way
  have hkl:n.kids.length=A.length+B.length+1:=by rw [f.kids];simp;omega
  have h8:=L.eight
  have hta:=f.ta
  have hxa:=f.xa
  obtain⟨R,X,P,hXp,hXc,hRl,hXo,hM⟩ : ∃ R X,InsPost e (iT N i) N2 h k s' 4 R X∧(∀ x∈X,vb (zE x)=0)∧X.length+1=R.length∧R.length≤2∧(XA++(X++XB)).Pairwise SpotO ∧
   D8 F e (ql (Ar F e) mf) N i n=some ([],A++(R++B),XA++(X++XB),TA++(R.map (fun k=>ve (nd (fN N2) k))++TB),N2):=by
   have hord:=L.ord
   rw [f.seps] at hord
   have hcall : ∀(K:InsT→Option ((List DElem) × (List Int) × (List DSpot) × (List Int) × (List (Int ⊕ DNode)))),True:=fun _=>trivial
   rcases hpost with ⟨rfl,P⟩ | ⟨rfl,hsp,P⟩
   · refine⟨[k],[],P,by simp,rfl,by simp,by simpa using hord,?_⟩
     obtain⟨k',t',e1,e2,x⟩:=P.ch
     obtain rfl:k=k':=by simpa using e1
     unfold D8
     rw [hk2,show ((2:Int) == 1)=false from rfl,cond_false,vf,obs,xR n _ (wt (vM hk2 L)),obs,hw,f.kids,wM,obs,hrun,obs]
     dsimp only
     rw [obs,x.1.node.1,obs,vX P.fr.chk x.1.range,obs,f.tids,← hta,wM,obs,cond_false,i_,yx,L.elems,f.seps]
     simp
   · obtain⟨k',ks',t',ts',e1,e2,i1,x,k2,t2,e3,e4,y⟩:=P.ch
     obtain⟨rfl,rfl⟩ : k=k'∧[r]=ks':=by simpa using e1
     obtain rfl:r=k2:=by simpa using e3
     refine⟨[k,r],[sp],P,by simpa using hsp,rfl,by simp,?_,?_⟩
     · obtain⟨p1,p2,p3⟩:=z_.1 hord
       obtain⟨y0,hy0⟩:=x.1.some_elem P.fr.chk
       have hy1:=(wE.1 ((x.1.elems P.fr.chk).2 y0 hy0).1)
       have hy2:=wP i1 ((x.1.elems P.fr.chk).2 y0 hy0).1
       have hlo : ∀ z∈XA,SpotO z sp:=fun z hz=>Aj (f.loX z hz _ hy2) hy1.2
       have hhi : ∀ z∈XB,SpotO sp z:=fun z hz=>f.hiX z hz sp i1
       refine z_.2 ⟨p1,B_.2 ⟨hhi,p2⟩,fun a ha b hb=>?_⟩
       rcases j_.1 hb with rfl | hb
       · exact hlo a ha
       · exact p3 a ha b hb
     · have hXl:n.seps.length=A.length+B.length:=by have:=L.seps;omega
       have htl:(TA++ve (nd (fN N2) k)::TB).length=A.length+B.length+1:=by have:=f.tb;simp;omega
       unfold D8
       rw [hk2,show ((2:Int) == 1)=false from rfl,cond_false,vf,obs,xR n _ (wt (vM hk2 L)),obs,hw,f.kids,wM,obs,hrun,obs]
       dsimp only
       rw [obs,x.1.node.1,obs,vX P.fr.chk x.1.range,obs,f.tids,show idx (TA++t::TB) (A.length:Int)=some t by rw [← hta];exact wM _ _ _,obs,cond_true,w64 (by omega) (by omega),i_,show (TA++t::TB).set A.length (ve (nd (fN N2) k))=TA++ve (nd (fN N2) k)::TB by rw [← hta];exact yx _ _ _ _,Et]
       have hi1:sw 8 (A++k::B) ((A.length:Int)+1) r=some (A++(k::r::B)):=by
        unfold sw
        rw [if_pos ⟨by omega,by simp;omega,by simp;omega,by unfold maxLen;simp;omega⟩,show ((A.length:Int)+1).toNat=A.length+1 by omega]
        unfold js
        rw [show A++k::B=(A++[k])++B by simp,X_ (by simp),Y_ (by simp)];simp
       have hi2:sw 32 n.seps (A.length:Int) sp=some (XA++sp::XB):=by
        unfold sw
        rw [if_pos ⟨by omega,by omega,by omega,by unfold maxLen;omega⟩,i_]
        unfold js
        rw [f.seps,X_ hxa,Y_ hxa]
       have hi3:sw 8 (TA++ve (nd (fN N2) k)::TB) ((A.length:Int)+1) (ve (nd (fN N2) r))=some (TA++(ve (nd (fN N2) k)::ve (nd (fN N2) r)::TB)):=by
        unfold sw
        rw [if_pos ⟨by omega,by omega,by omega,by unfold maxLen;omega⟩,show ((A.length:Int)+1).toNat=A.length+1 by omega]
        unfold js
        rw [show TA++ve (nd (fN N2) k)::TB=(TA++[ve (nd (fN N2) k)])++TB by simp,X_ (by simp;omega),Y_ (by simp;omega)];simp
       obtain⟨_,_,_,_,j1⟩:=nE hi1
       obtain⟨_,_,_,_,j2⟩:=nE hi2
       obtain⟨_,_,_,_,j3⟩:=nE hi3
       rw [i_] at j2
       rw [hi1,obs,hi2,obs,y.1.node.1,obs,vX P.fr.chk y.1.range,obs,hi3,obs,j1,j2,j3,L.elems]
       simp
  have hl2:N2.length≤400:=by
   have h1:=P.fr.cap
   have h2:=P.fr.use
   rw [uW] at h1
   rw [Bn] at h2
   omega
  have hr2:0≤i∧i<(N2.length:Int):=by
   have:=P.fr.len
   rw [uW] at this
   omega
  have hab : ∀ a,a∈A∨a∈B→∀ j∈ids (fN N) h a,N2[j]? = N[j]?:=fun a ha j hj=>by
   obtain⟨x1,x2⟩:=d3 a ha
   obtain⟨y,hy,hyk⟩:=hus j (by
    rw [hids]
    rcases ha with ha | ha
    · simp only [j_,g_,N_];exact .inr (.inl ⟨a,ha,hj⟩)
    · simp only [j_,g_,N_];exact .inr (.inr (.inr ⟨a,ha,hj⟩)))
   have hji:j≠i.toNat:=fun e=>x1 (e▸hj)
   rw [P.fr.out j (.inr y) (by rw [q2];exact x2 j hj) (by rw [vA N hji];exact hy) hyk,hy]
  have hlen2:N.length≤N2.length:=by have:=P.fr.len;rwa [uW] at this
  have other : ∀ a,a∈A∨a∈B→∀ {m:Nat} {s:Span},vm (fN N) h a m s→_:=fun a ha m s c=>vm.agree (N:=N) (N':=N2) hlen2 c (hab a ha)
  have c2:=f.turn (AJ (fN N2) h) (fun a t' s'' ha x=>⟨(other a ha x.1).1,by rw [(other a ha x.1).2.2.2];exact x.2⟩) R X _ P.ch
  have hkids : ∀ a,a∈A∨a∈B→∃ t' s'',vm (fN N) h a 4 s'':=fun a ha=>by
   rcases ha with ha | ha
   · obtain⟨t',s'',x1,_⟩:=f.lo a ha;exact⟨t',s'',x1.1⟩
   · obtain⟨t',s'',x1,_⟩:=f.hi a ha;exact⟨t',s'',x1.1⟩
  have flat : ∀(l:List Int),(∀ a∈l,a∈A∨a∈B)→l.flatMap (ids (fN N2) h)=l.flatMap (ids (fN N) h)∧l.flatMap (uS (fN N2) h)=l.flatMap (uS (fN N) h):=fun l hl=>by
   constructor
   · exact xy fun a ha=>by obtain ⟨t',s'',x1⟩:=hkids a (hl a ha);exact(other a (hl a ha) x1).2.1
   · exact vI fun a ha=>by obtain ⟨t',s'',x1⟩:=hkids a (hl a ha);exact(other a (hl a ha) x1).2.2.1
  have fr:=P.fr.up (i:=i.toNat) (I1:=A.flatMap (ids (fN N) h)) (I3:=B.flatMap (ids (fN N) h)) rfl (by rw [q2,← hids];exact hn0) (fun j hj=>hus j (by rw [hids,← q2];exact hj))
  rw [q2,← hids] at fr
  have hK:(A++(R++B)).flatMap (ids (fN N2) h)=A.flatMap (ids (fN N) h)++(R.flatMap (ids (fN N2) h)++B.flatMap (ids (fN N) h)):=by
   rw [a_,a_,(flat A fun a ha=>.inl ha).1,(flat B fun a ha=>.inr ha).1]
  refine Jy hnode hk2 hM hr2 hl2 (fr.cong rfl (by rw [hK])) (fr.kept _ _ hat hk0) c2 ?_ ?_ ?_ hXo ?_ ?_
  · have:=L.two;simp;omega
  · simp;omega
  · simp;omega
  · intro x hx
    rcases g_.1 hx with hx | hx
    · exact L.ok x (by rw [f.seps];exact M_ _ hx)
    · rcases g_.1 hx with hx | hx
      · exact hXp x hx
      · exact L.ok x (by rw [f.seps];exact U_ _ hx)
  · intro x
    have hp:=P.elems x
    rw [q3] at hp
    rw [a_,a_,(flat A fun a ha=>.inl ha).2,(flat B fun a ha=>.inr ha).2,hels,g_,g_,hp,g_,g_]
    constructor
    · rintro(h | (h | h) | h)
      · exact .inr (.inl h)
      · exact .inl h
      · exact .inr (.inr (.inl h))
      · exact .inr (.inr (.inr h))
    · rintro(h | h | h | h)
      · exact .inr (.inl (.inl h))
      · exact .inl h
      · exact .inr (.inl (.inr h))
      · exact .inr (.inr h)
end
section
variable {F:Nat} [Big F] {α:Type}
theorem Gg {f:Int→Option (Int ⊕ (Unit ⊕ Int))}(l:List α)(p:α→Bool)(hn:l.length≤9223372036854775807)
 (hs : ∀(k:Nat) (x:α),l[k]? = some x→f (k:Int)=some (if p x then .inr (.inr (k:Int)) else .inl ((k:Int)+1)))
 (he:f (l.length:Int)=some (.inr (.inl ()))):iter f F 0=some (match l.findIdx? p with | some i=>.inr (i:Int) | none=>.inl ()):=by
 cases h:l.findIdx? p with
 | none =>
  rw [E4] at h
  refine vE (fun k=>(k:Int)) l.length (show (0:Int)=_ from rfl) hn (fun k hk=>?_) he
  rw [hs k _ (gge hk),h _ (t5 hk)];rfl
 | some i =>
  rw [E5] at h
  obtain⟨hi,h1,h2⟩:=h
  refine vE (fun k=>(k:Int)) i (show (0:Int)=_ from rfl) (by omega) (fun k hk=>?_) ?_
  · rw [hs k _ (gge (by omega)),if_neg (h2 k hk)];rfl
  · show f (i:Int)=_
    rw [hs i _ (gge hi),if_pos h1]
def dst (q:α→Bool)(l:List α)(i0:Nat):Nat→List α × Nat
 | 0=>(l,i0)
 | k+1=>match l[i0+1+k]? with
  | some x=>if q x then ((dst q l i0 k).1.set (dst q l i0 k).2 x,(dst q l i0 k).2+1) else dst q l i0 k
  | none=>dst q l i0 k
theorem GI (q:α→Bool)(l:List α)(i0:Nat)(h0:(l.take (i0+1)).filter q=l.take i0)(hi:i0<l.length):∀ k,i0+1+k≤l.length →
 (dst q l i0 k).1.length=l.length∧(dst q l i0 k).2<i0+1+k∧(dst q l i0 k).1.take (dst q l i0 k).2=(l.take (i0+1+k)).filter q∧(dst q l i0 k).1.drop (i0+1+k)=l.drop (i0+1+k)
 | 0,_=>⟨rfl,by show i0<_;omega,by show l.take i0=_;exact h0.symm,rfl⟩
 | k+1,hk=>by
  obtain⟨h1,h2,h3,h4⟩:=GI q l i0 h0 hi k (by omega)
  have hlt:i0+1+k<l.length:=by omega
  have hx:=gge hlt
  have ht:l.take (i0+1+(k+1))=l.take (i0+1+k)++[l[i0+1+k]]:=by rw [show i0+1+(k+1)=(i0+1+k)+1 by omega,R_,hx];rfl
  have h5:(dst q l i0 k).1.drop (i0+1+(k+1))=l.drop (i0+1+(k+1)):=by
   rw [show i0+1+(k+1)=(i0+1+k)+1 by omega,← w7,h4,w7]
  rw [dst,hx]
  dsimp only
  rw [ht,m4]
  by_cases hq:q l[i0+1+k]=true
  · rw [if_pos hq]
    dsimp only
    refine⟨by rw [m9,h1],by omega,?_,?_⟩
    · rw [R_,List.take_set_of_le (q_ _),h3,List.getElem?_set,if_pos rfl,if_pos (by omega)]
      simp [hq]
    · rw [List.drop_set_of_lt (by omega),h5]
  · rw [if_neg hq]
    refine⟨h1,by omega,?_,h5⟩
    rw [h3];simp [hq]
theorem Hx {f:List α × Int × Int→Option ((List α × Int × Int) ⊕ (List α × Int))}(l:List α)(q:α→Bool)(i0:Nat)(hi:i0<l.length)(hn:l.length≤9223372036854775806)(h0:(l.take (i0+1)).filter q=l.take i0)
 (hs : ∀(A:List α) (i j:Nat) (x:α),A.length=l.length→i<j→A[j]? = some x→f (A,(i:Int),(j:Int))=some (.inl (if q x then A.set i x else A,if q x then (i:Int)+1 else (i:Int),(j:Int)+1)))
 (he : ∀(A:List α) (i:Nat),A.length=l.length→f (A,(i:Int),(l.length:Int))=some (.inr (A,(i:Int)))) :
 ∃(A:List α) (i:Nat),iter f F (l,(i0:Int),(i0:Int)+1)=some (A,(i:Int))∧A.length=l.length∧i≤l.length∧A.take i=l.filter q:=by
 have inv:=GI q l i0 h0 hi
 obtain⟨e1,e2,e3,e4⟩:=inv (l.length-(i0+1)) (by omega)
 refine⟨_,_,vE (fun k=>((dst q l i0 k).1,((dst q l i0 k).2:Int),((i0+1+k:Nat):Int))) (l.length-(i0+1)) (r:=((dst q l i0 (l.length-(i0+1))).1,((dst q l i0 (l.length-(i0+1))).2:Int))) rfl (by omega) (fun k hk=>?_) ?_,e1,by omega,?_⟩
 · obtain⟨h1,h2,h3,h4⟩:=inv k (by omega)
   have hlt:i0+1+k<l.length:=by omega
   have hx:(dst q l i0 k).1[i0+1+k]? = some l[i0+1+k]:=by
    have:=congrArg (fun m=>m[0]?) h4
    simp only [p8,Nat.add_zero] at this
    rw [this,gge hlt]
   rw [hs _ _ _ _ h1 h2 hx]
   have hd:dst q l i0 (k+1)=if q l[i0+1+k] then ((dst q l i0 k).1.set (dst q l i0 k).2 l[i0+1+k],(dst q l i0 k).2+1) else dst q l i0 k:=by
    conv=>lhs;rw [dst,gge hlt]
   rw [hd]
   by_cases hq:q l[i0+1+k]=true
   · simp only [hq,if_true];rfl
   · simp only [hq,if_false];rfl
 · rw [show i0+1+(l.length-(i0+1))=l.length by omega]
   exact he _ _ e1
 · rw [e3,show i0+1+(l.length-(i0+1))=l.length by omega,n9]
theorem D2 {l:List α}{q:α→Bool}{i:Nat}(h:l.findIdx? (fun x=>!q x)=some i):i<l.length∧(l.take (i+1)).filter q=l.take i:=by
 rw [E5] at h
 obtain⟨hi,h1,h2⟩:=h
 refine⟨hi,?_⟩
 rw [R_,gge hi,m4]
 have hq:q l[i]=false:=by simpa using h1
 have:(l.take i).filter q=l.take i:=by
  rw [B2]
  intro x hx
  obtain⟨j,hj,rfl⟩:=List.getElem_of_mem hx
  rw [p_] at hj
  rw [List.getElem_take]
  simpa using h2 j (by omega)
 rw [this];simp [hq]
theorem HU (A m:List α)(i:Nat)(h:i≤A.length):(over A i m).take i=A.take i:=by
 unfold over
 rw [H_,List.take_append_of_le_length (by rw [p_];omega),List.take_take,Nat.min_self]
end
section
abbrev RemT:=(List Int) × (List DSpot) × (List Int) × (List (Int ⊕ DNode))
def Jo (F:Nat)(l:List DElem)(p1:DSpot):Option (List DElem) :=
 (
  (
   (iter (σ:=Int) (ρ:=(Unit) ⊕ Int) (fun x3 =>
    bif decide (x3<(l.length:Int)) then
     (idx l x3).bind fun e1 =>
     (
      (jf e1).bind fun r8 =>
       some (r8 == p1):Option (Bool)).bind fun z6 =>
     bif z6 then
      some (.inr (.inr x3))
     else
      some (.inl (IntKind.i64.wrap (x3+1)))
     else
      some (.inr (.inl ()))) F 0).bind fun z=>match z with
    | .inl _ =>
     some (-1)
    | .inr q=>some q:Option (Int)).bind fun z5 =>
   bif (z5 == (-1)) then
    some l
   else
    (iter (σ:=(List DElem) × Int × Int) (ρ:=(List DElem) × Int) (fun x=>match x with
     | (x4,x5,x6) =>
      bif decide (x6<(x4.length:Int)) then
       (
        (idx x4 x6).bind fun e2 =>
         (
          (jf e2).bind fun r9 =>
           some (r9 == p1):Option (Bool)).bind fun z11 =>
         bif (!z11) then
          (idx x4 x5).bind fun e3 =>
          some ((x4.set x5.toNat e2),IntKind.i64.wrap (x5+1))
         else
          some (x4,x5):Option ((List DElem) × Int)).bind fun z=>match z with
        | (z9,z10) =>
         some (.inl (z9,z10,IntKind.i64.wrap (x6+1)))
       else
        some (.inr (x4,x5))) F (l,z5,IntKind.i64.wrap (z5+1))).bind fun z=>match z with
     | (z7,z8) =>
      (ja z7 z8 (z7.length:Int)).bind fun s2 =>
      (ja (over z7 z8.toNat (t6 s2.length ((DElem.mk (DKey.mk 0 0 0) 0 0 (L_ #[])):DElem))) 0 z8).bind fun s3 =>
      some s3:Option ((List DElem)))
def Fc (n5 n6:DNode)(e10:DSpot):Option (List DSpot) :=
 (
  (jT 56 n5.elems n6.elems).bind fun _ =>
   (
    bif (n5.kind == 2) then
     (jT 32 n5.seps [e10]).bind fun y4 =>
     (jT 32 (n5.seps++[e10]) n6.seps).bind fun y5 =>
     some ((n5.seps++[e10])++n6.seps)
     else
      some n5.seps:Option ((List DSpot))).bind fun z23 =>
   (jT 8 n5.kids n6.kids).bind fun _ =>
   (jT 8 n5.tids n6.tids).bind fun _ =>
   some z23:Option ((List DSpot)))
def IM (F:Nat)(n1:DNode)(r10 r11:Int)(z12:NL)(z21 e8 e9:Int)(n5 n6:DNode)(z22:List DSpot):Option RemT :=
 bif decide ((8:Int)<(IntKind.i64.wrap (((n5.elems++n6.elems).length:Int)+((n5.kids++n6.kids).length:Int)))) then
  (zf n5.kind (n5.elems++n6.elems) (n5.kids++n6.kids) z22 (n5.tids++n6.tids)).bind fun z=>match z with
   | (z28,z29,z30,z31,z32,z33,z34,z35,z36,z37,z38,z39,z40) =>
    (kH (iT z12 e8) e8).bind fun u2 =>
    (kH (jo (iT z12 e8) e8 (DNode.mk n5.kind z32 z33 z34 z35)) e9).bind fun u3 =>
    (idx n1.seps z21).bind fun e15 =>
    (jl F (DNode.mk z40 z31 z30 z29 z28)).bind fun r25 =>
    (idx (n1.tids.set r10.toNat r11) (IntKind.i64.wrap (z21+1))).bind fun e16 =>
    some (n1.kids,(n1.seps.set z21.toNat (DSpot.mk (DKey.mk z36 z37 z38) z39)),((n1.tids.set r10.toNat r11).set ((IntKind.i64.wrap (z21+1)).toNat) r25),(jo (jo (iT z12 e8) e8 (DNode.mk n5.kind z32 z33 z34 z35)) e9 (DNode.mk z40 z31 z30 z29 z28)))
  else
   (kH (iT z12 e8) e8).bind fun u4 =>
   (kH (jo (iT z12 e8) e8 (DNode.mk n5.kind (n5.elems++n6.elems) (n5.kids++n6.kids) z22 (n5.tids++n6.tids))) e9).bind fun u5 =>
   (sY n1.kids (IntKind.i64.wrap (z21+1)) (IntKind.i64.wrap (z21+2))).bind fun _ =>
   (sY n1.seps z21 (IntKind.i64.wrap (z21+1))).bind fun _ =>
   (sY (n1.tids.set r10.toNat r11) (IntKind.i64.wrap (z21+1)) (IntKind.i64.wrap (z21+2))).bind fun _ =>
   some ((jX n1.kids (IntKind.i64.wrap (z21+1)).toNat (IntKind.i64.wrap (z21+2)).toNat),(jX n1.seps z21.toNat (IntKind.i64.wrap (z21+1)).toNat),(jX (n1.tids.set r10.toNat r11) (IntKind.i64.wrap (z21+1)).toNat (IntKind.i64.wrap (z21+2)).toNat),(jo (jo (iT z12 e8) e8 (DNode.mk n5.kind (n5.elems++n6.elems) (n5.kids++n6.kids) z22 (n5.tids++n6.tids))) e9 (DNode.mk 0 [] [] [] [])))
def Cr (F:Nat)(n1:DNode)(r10 r11:Int)(z12:NL):Option RemT :=
 (
  (
   bif (r10 == (IntKind.i64.wrap ((n1.kids.length:Int)-1))) then
    some (IntKind.i64.wrap (r10-1))
    else
     some r10:Option (Int)).bind fun z21 =>
   (idx n1.kids z21).bind fun e8 =>
   (idx n1.kids (IntKind.i64.wrap (z21+1))).bind fun e9 =>
   (kh z12 e8).bind fun n5 =>
   (kh (iT z12 e8) e9).bind fun n6 =>
   (idx n1.seps z21).bind fun e10 =>
   (Fc n5 n6 e10).bind fun z22 =>
   (IM F n1 r10 r11 z12 z21 e8 e9 n5 n6 z22).bind fun z=>match z with
    | (z24,z25,z26,z27) =>
     (kh z27 e8).bind fun n13 =>
     (jl F n13).bind fun r30 =>
     (idx z26 z21).bind fun e19 =>
     some (z24,z25,(z26.set z21.toNat r30),z27):Option RemT)
def JL (F:Nat)(n1 n4:DNode)(r10 r11:Int)(z12:NL):Option RemT :=
 bif decide ((IntKind.i64.wrap ((n4.elems.length:Int)+(n4.kids.length:Int)))<4) then
  (Cr F n1 r10 r11 z12).bind fun z=>match z with
   | (z17,z18,z19,z20) =>
    some (z17,z18,z19,z20)
  else
   some (n1.kids,n1.seps,(n1.tids.set r10.toNat r11),z12)
def B5 (F:Nat)(p1:DSpot)(rf1:NL × Int→Option NL)(x:NL × Int):Option NL :=
 match x with
  | (x1,x2) =>
   (kh x1 x2).bind fun n1 =>
    bif (n1.kind == 1) then
     (Jo F n1.elems p1).bind fun z4 =>
     (kH (iT x1 x2) x2).bind fun u1 =>
     some (jo (iT x1 x2) x2 (DNode.mk n1.kind z4 n1.kids n1.seps n1.tids))
    else
     (mE F n1 p1).bind fun r10 =>
     (idx n1.kids r10).bind fun e5 =>
     (rf1 ((iT x1 x2),e5)).bind fun z12 =>
     (idx n1.kids r10).bind fun e6 =>
     (kh z12 e6).bind fun n4 =>
     (jl F n4).bind fun r11 =>
     (idx n1.tids r10).bind fun e7 =>
     (JL F n1 n4 r10 r11 z12).bind fun z=>match z with
      | (z13,z14,z15,z16) =>
       (kH z16 x2).bind fun u6 =>
       some (jo z16 x2 (DNode.mk n1.kind n1.elems z13 z14 z15))
def HE (F:Nat)(p1:DSpot)(N:NL)(root:Int):Option (NL × Int) :=
 (ql (σ:=(List (Int ⊕ DNode)) × Int) (ρ:=(List (Int ⊕ DNode))) (B5 F p1) F (N,root)).bind fun q2 =>
  (
   (kh q2 root).bind fun n15 =>
    bif ((n15.kids.length:Int) == 1) then
     (kH (iT q2 root) root).bind fun u7 =>
     (idx n15.kids 0).bind fun e22 =>
     some (e22,(jo (iT q2 root) root (DNode.mk 0 [] [] [] [])))
    else
     some (root,(jo (iT q2 root) root n15)):Option (Int × (List (Int ⊕ DNode)))).bind fun z=>match z with
   | (z41,z42) =>
    some (z42,z41)
variable {F:Nat} [Big F]
def xW (sp:DSpot)(e:DElem):Bool:=!(uU e == sp)
theorem Jp (l:List DElem)(sp:DSpot)(hl:l.length≤1000):Jo F l sp=some (l.filter (xW sp)):=by
 unfold Jo
 rw [Gg l (fun x=>uU x == sp) (by omega) (fun n x hx=>?_) (by simp)]
 · rw [obs]
   have hq:(fun x:DElem=>uU x == sp)=fun x=>!(xW sp x):=by funext x;simp [xW]
   cases hf:l.findIdx? (fun x=>uU x == sp) with
   | none =>
    dsimp only
    rw [obs,show ((-1:Int) == -1)=true from rfl,cond_true,B2.2 fun x hx=>?_]
    rw [E4] at hf
    simpa [xW] using hf x hx
   | some n =>
    dsimp only
    rw [obs,show ((n:Int) == -1)=false by rw [beq_eq_false_iff_ne];omega,cond_false]
    rw [hq] at hf
    obtain⟨hn,h0⟩:=D2 hf
    rw [w64 (n:=(n:Int)+1) (by omega) (by omega)]
    obtain⟨A,m,e1,e2,e3,e4⟩:=Hx (F:=F) (f:=fun x=>match x with
     | (x4,x5,x6) =>
      bif decide (x6<(x4.length:Int)) then
       (
        (idx x4 x6).bind fun e2 =>
         (
          (jf e2).bind fun r9 =>
           some (r9 == sp):Option (Bool)).bind fun z11 =>
         bif (!z11) then
          (idx x4 x5).bind fun e3 =>
          some ((x4.set x5.toNat e2),IntKind.i64.wrap (x5+1))
         else
          some (x4,x5):Option ((List DElem) × Int)).bind fun z=>match z with
        | (z9,z10) =>
         some (.inl (z9,z10,IntKind.i64.wrap (x6+1)))
       else
        some (.inr (x4,x5))) l (xW sp) n hn (by omega) h0 (fun A i j x hA hij hx=>by
     have hjl:=(ggs.1 hx).1
     dsimp only
     rw [decide_eq_true (by omega),cond_true,uX,uX,hx,obs,vf,obs,obs,gge (show i<A.length by omega),obs,w64 (by omega) (by omega),w64 (by omega) (by omega),i_]
     unfold xW
     cases uU x == sp <;> rfl) (fun A i hA=>by
     dsimp only
     rw [decide_eq_false (by omega)];rfl)
    refine Eq.trans (congrArg (fun z=>f_ z _) e1) ?_
    rw [obs]
    dsimp only
    rw [Bx (by omega) (by omega) (by omega),obs,i_,wd (by rw [jR _ _ _ (by simp;omega)];omega),obs,HU _ _ _ (by omega),e4]
 · have hnl:=(ggs.1 hx).1
   rw [decide_eq_true (by omega),cond_true,uX,hx,obs,vf,obs,obs,w64 (by omega) (by omega)]
   cases uU x == sp <;> rfl
theorem E9 {l:List DElem}(hl:5≤l.length)(hl' : l.length≤100)(ks:List Int)(xs:List DSpot)(ts:List Int):∃ x,l[4]? = some x∧zf 1 l ks xs ts=some ([],[],[],l.drop 4,l.take 4,ks,xs,ts,(uU x).key.pfs,(uU x).key.obj,(uU x).key.off,(uU x).made,1):=by
 have hg:l[4]? = some l[4]:=gge (by omega)
 refine⟨_,hg,?_⟩
 unfold zf
 have h1:ja l 4 (l.length:Int)=some (l.drop 4):=vF (k:=4) (by omega)
 have h2:ja l 0 4=some (l.take 4):=wd (k:=4) (by omega)
 have h3:idx (l.drop 4) 0=some l[4]:=by rw [show (0:Int)=((0:Nat):Int) from rfl,uX,p8];exact hg
 rw [show ((1:Int) == 1)=true from rfl,cond_true,h1,obs,vn (by simp;omega) (by simp;omega),obs,h2,obs,h3,obs,vf,obs]
theorem D5 {ks:List Int}{xs:List DSpot}{ts:List Int}(hk:5≤ks.length)(hk' : ks.length≤100)(hx:xs.length+1=ks.length)(ht:ts.length=ks.length)(l:List DElem):∃ x,xs[3]? = some x∧zf 2 l ks xs ts=some (ts.drop 4,xs.drop 4,ks.drop 4,[],l,ks.take 4,xs.take 3,ts.take 4,x.key.pfs,x.key.obj,x.key.off,x.made,2):=by
 have hg:xs[3]? = some xs[3]:=gge (by omega)
 refine⟨_,hg,?_⟩
 unfold zf
 have h1:ja ks 4 (ks.length:Int)=some (ks.drop 4):=vF (k:=4) (by omega)
 have h2:ja xs 4 (xs.length:Int)=some (xs.drop 4):=vF (k:=4) (by omega)
 have h3:ja ts 4 (ts.length:Int)=some (ts.drop 4):=vF (k:=4) (by omega)
 have h4:ja ks 0 4=some (ks.take 4):=wd (k:=4) (by omega)
 have h5:ja xs 0 3=some (xs.take 3):=wd (k:=3) (by omega)
 have h6:ja ts 0 4=some (ts.take 4):=wd (k:=4) (by omega)
 have h7:idx xs 3=some xs[3]:=by rw [show (3:Int)=((3:Nat):Int) from rfl,uX];exact hg
 rw [show ((2:Int) == 1)=false from rfl,cond_false,h1,obs,h2,obs,h3,obs,vn (by simp;omega) (by simp;omega),obs,vn (by simp;omega) (by simp;omega),obs,vn (by simp;omega) (by simp;omega),obs,h7,obs,h4,obs,h5,obs,h6,obs]
def put2 (N:NL)(k1 k2:Int)(a b:DNode):NL:=jo (jo (iT N k1) k1 a) k2 b
omit [Big F] in
theorem vU (N:NL)(k1 k2:Int)(a b:DNode):(put2 N k1 k2 a b).length=N.length:=by unfold put2;rw [uZ,uZ,uW]
theorem zA (N:NL){k1 k2:Int}(a b:DNode){j:Nat}(h1:j≠k1.toNat)(h2:j≠k2.toNat):(put2 N k1 k2 a b)[j]? = N[j]?:=by unfold put2;rw [vj _ h2,vj _ h1,vA _ h1]
theorem Bg {N:NL}{k1 k2:Int}(a b:DNode)(hne:k1.toNat≠k2.toNat)(h:k1.toNat<N.length):(put2 N k1 k2 a b)[k1.toNat]? = some (.inr a):=by unfold put2;rw [vj _ hne,vK _ (by rw [uW];exact h)]
theorem zC {N:NL}{k1 k2:Int}(a b:DNode)(h:k2.toNat<N.length):(put2 N k1 k2 a b)[k2.toNat]? = some (.inr b):=by unfold put2;rw [vK _ (by rw [uZ,uW];exact h)]
theorem wv.put2 {N:NL}(h:wv N){k1 k2:Int}{a b:DNode}(ha:vq a=0)(hb:vq b=0):wv (put2 N k1 k2 a b):=((h.out k1).put ha).put hb
theorem GE:vq zN=0:=by decide
theorem Gk {N:NL}{k1 k2:Int}(hne:k2.toNat≠k1.toNat):kh (iT N k1) k2=kh N k2:=by unfold kh;rw [vA N hne]
structure PairPost (N2 N3:NL) (h:Nat) (k1 k2:Int) (s:Span) (K:List Int) (X:List DSpot):Prop where
 len:N3.length=N2.length
 out : ∀ j:Nat,j≠k1.toNat→j≠k2.toNat→N3[j]? = N2[j]?
 chk:wv N3
 ch:Ch (AJ (fN N3) h) X s K (K.map fun k=>ve (nd (fN N3) k))
 ok : ∀ x∈X,vb (zE x)=0
 perm : ∃ Z,(ids (fN N2) h k1++ids (fN N2) h k2).Perm (Z++K.flatMap (ids (fN N3) h))∧∀ j∈Z,N3[j]? = some (.inr zN)
 elems:K.flatMap (uS (fN N3) h)=uS (fN N2) h k1++uS (fN N2) h k2
def DT (N2:NL)(h:Nat)(k1 k2:Int)(s:Span)(n5 n6:DNode)(x:DSpot):Prop :=
 ∃ z22,Fc n5 n6 x=some z22 ∧
  ((((n5.elems++n6.elems).length:Int)+((n5.kids++n6.kids).length:Int)≤8∧PairPost N2 (put2 N2 k1 k2 ⟨n5.kind,n5.elems++n6.elems,n5.kids++n6.kids,z22,n5.tids++n6.tids⟩ zN) h k1 k2 s [k1] []) ∨
   (8<((n5.elems++n6.elems).length:Int)+((n5.kids++n6.kids).length:Int)∧∃(y:DSpot) (r1:List Int) (r2:List DSpot) (r3:List Int) (r4 l1:List DElem) (l2:List Int) (l3:List DSpot) (l4:List Int) (kd:Int),
    zf n5.kind (n5.elems++n6.elems) (n5.kids++n6.kids) z22 (n5.tids++n6.tids)=some (r1,r2,r3,r4,l1,l2,l3,l4,y.key.pfs,y.key.obj,y.key.off,y.made,kd) ∧
    PairPost N2 (put2 N2 k1 k2 ⟨n5.kind,l1,l2,l3,l4⟩ ⟨kd,r4,r3,r2,r1⟩) h k1 k2 s [k1,k2] [y]))
omit [Big F] in
theorem Fd {n5 n6:DNode}(x:DSpot)(h5:vq n5=0)(h6:vq n6=0):Fc n5 n6 x=some (bif n5.kind == 2 then n5.seps++x::n6.seps else n5.seps):=by
 obtain⟨a1,a2⟩:=xG h5
 obtain⟨b1,b2⟩:=xG h6
 have sm : ∀ {n:DNode},vq n=0→n.seps.length≤8∧n.tids.length≤8:=fun {n} h=>by
  have:=xG h
  rcases vz.1 h with h | h | h
  · rw [h.2.2.2.1,h.2.2.2.2];simp
  · rw [h.2.seps,h.2.tids];simp
  · have:=h.2.seps;have:=h.2.tids;omega
 obtain⟨a3,a4⟩:=sm h5
 obtain⟨b3,b4⟩:=sm h6
 unfold Fc
 rw [vn (by omega) (by omega),obs,vn (l:=n5.kids) (by omega) (by omega),vn (l:=n5.tids) (by omega) (by omega)]
 cases n5.kind == 2 with
 | true =>
  rw [cond_true,cond_true,vn (by simp;omega) (by simp;omega),obs,vn (by simp;omega) (by simp;omega),obs,obs,obs,obs,H_];rfl
 | false=>rw [cond_false,cond_false,obs,obs,obs]
omit [Big F] in
theorem HH {N2:NL}(hc:wv N2){k1 k2:Int}{s:Span}{x:DSpot}(hx:inS s x=true)(hne:k1.toNat≠k2.toNat)(c1:vm (fN N2) 0 k1 3 (hiS s x))(c2:vm (fN N2) 0 k2 3 (loS s x))(hfew:(nd (fN N2) k1).elems.length+(nd (fN N2) k2).elems.length≤12) :
 DT N2 0 k1 k2 s (nd (fN N2) k1) (nd (fN N2) k2) x:=by
 have L1:=c1.leaf hc
 have L2:=c2.leaf hc
 have r1:=c1.range
 have r2:=c2.range
 have g1:=yC hc r1
 have g2:=yC hc r2
 rw [vd] at r1 r2
 have hz:=Fd x g1 g2
 obtain⟨_,hk1,hm1,hin1⟩:=c1
 obtain⟨_,hk2,hm2,hin2⟩:=c2
 have e1:uS (fN N2) 0 k1=(nd (fN N2) k1).elems:=rfl
 have e2:uS (fN N2) 0 k2=(nd (fN N2) k2).elems:=rfl
 generalize nd (fN N2) k1=n5 at *
 generalize nd (fN N2) k2=n6 at *
 rw [hk1,show ((1:Int) == 2)=false from rfl,cond_false,L1.seps] at hz
 have h8:=L1.len
 have h8':=L2.len
 obtain⟨l,hl⟩ : ∃ l,l=n5.elems++n6.elems:=⟨_,rfl⟩
 have so:l.Pairwise SpO:=by
  rw [hl]
  refine z_.2 ⟨L1.ord,L2.ord,fun a ha b hb=>?_⟩
  have q1:=(wE.1 (hin1 a ha)).2
  have q2:=(yd.1 (hin2 b hb)).1
  exact wO q1 q2
 have hin : ∀ y∈l,inS s (uU y)=true:=fun y hy=>by
  rw [hl] at hy
  rcases g_.1 hy with hy | hy
  · exact wP hx (hin1 y hy)
  · exact xB hx (hin2 y hy)
 have hok : ∀ y∈l,vb y=0:=fun y hy=>by
  rw [hl] at hy
  rcases g_.1 hy with hy | hy
  · exact L1.ok y hy
  · exact L2.ok y hy
 have hlen:l.length=n5.elems.length+n6.elems.length:=by rw [hl,t_]
 refine⟨_,hz,?_⟩
 rw [L1.kids,L2.kids,L1.tids,L2.tids,← hl,hk1]
 by_cases ht:l.length≤8
 · refine .inl ⟨by simp;omega,?_⟩
   have hck:=xP (n:=⟨1,l,[],[],[]⟩) rfl ⟨rfl,rfl,rfl,ht,hok,so⟩
   have hnd:=zg (Bg (N:=N2) (k1:=k1) (k2:=k2) ⟨1,l,[],[],[]⟩ zN hne (by omega))
   refine⟨vU _ _ _ _ _,fun j h1 h2=>zA N2 _ _ h1 h2,hc.put2 hck GE,⟨k1,_,rfl,rfl,⟨?_,by rw [K_,hnd],by rw [K_,hnd];show 4≤l.length;omega,by rw [K_,hnd];exact hin⟩,rfl⟩,by simp,⟨[k2.toNat],?_,fun j hj=>?_⟩,?_⟩
   · rw [vd,vU];exact r1
   · simp only [ids,x_,List.singleton_append]
     exact List.Perm.swap _ _ _
   · rw [P_.1 hj,K_];exact zC _ _ (by omega)
   · rw [x_,e1,e2,← hl]
     show (nd _ _).elems=_
     rw [K_,hnd]
 · refine .inr ⟨by have : 8 < l.length := by omega
                   simp;omega,?_⟩
   obtain⟨y,hy,hh⟩:=E9 (l:=l) (by omega) (by omega) ([]++[]) [] ([]++[])
   refine⟨uU y,_,_,_,_,_,_,_,_,_,hh,?_⟩
   have e48:l=l.take 4++l.drop 4:=(D_ 4 l).symm
   have hso:=so
   rw [e48] at hso
   obtain⟨o1,o2,o3⟩:=z_.1 hso
   have hl1:(l.take 4).length=4:=by rw [p_];omega
   have hl2:(l.drop 4).length=l.length-4:=by rw [G_]
   have hxd : ∃ r,l.drop 4=y::r:=by
    have h4:4<l.length:=by omega
    rw [gge h4] at hy
    obtain rfl:=u_.inj hy
    exact⟨_,l7 h4⟩
   obtain⟨rr,hrr⟩:=hxd
   have hyl:y∈l:=J_ (by rw [hrr];exact l_)
   have hck1:=xP (n:=⟨1,l.take 4,[],[],[]⟩) rfl ⟨rfl,rfl,rfl,by show (l.take 4).length≤8;omega,fun y hy=>hok y (m0 hy),o1⟩
   have hck2:=xP (n:=⟨1,l.drop 4,[],[],[]⟩) rfl ⟨rfl,rfl,rfl,by show (l.drop 4).length≤8;omega,fun y hy=>hok y (J_ hy),o2⟩
   have hnd1:=zg (Bg (N:=N2) (k1:=k1) (k2:=k2) ⟨1,l.take 4,[],[],[]⟩ ⟨1,l.drop 4,[],[],[]⟩ hne (by omega))
   have hnd2:=zg (zC (N:=N2) (k1:=k1) (k2:=k2) ⟨1,l.take 4,[],[],[]⟩ ⟨1,l.drop 4,[],[],[]⟩ (by omega))
   rw [K_]
   refine⟨vU _ _ _ _ _,fun j h1 h2=>zA N2 _ _ h1 h2,hc.put2 hck1 hck2,⟨k1,[k2],_,_,rfl,rfl,hin y hyl,⟨⟨?_,by rw [hnd1],by rw [hnd1];show 4≤(l.take 4).length;omega,?_⟩,rfl⟩,k2,_,rfl,rfl,⟨?_,by rw [hnd2],by rw [hnd2];show 4≤(l.drop 4).length;omega,?_⟩,rfl⟩,?_,⟨[],?_,by simp⟩,?_⟩
   · rw [vd,vU];exact r1
   · rw [hnd1]
     intro z hz
     exact wE.2 ⟨(vJ.1 (hin z (m0 hz))).1,o3 z hz y (by rw [hrr];exact l_)⟩
   · rw [vd,vU];exact r2
   · rw [hnd2]
     intro z hz
     refine yd.2 ⟨?_,(vJ.1 (hin z (J_ hz))).2⟩
     have hz' : z∈y::rr:=by rw [← hrr];exact hz
     rw [hrr] at o2
     rcases j_.1 hz' with rfl | hz'
     · rw [vc.refl];decide
     · have:cmpS (uU y) (uU z)<0:=(B_.1 o2).1 z hz'
       omega
   · intro z hz
     rw [P_.1 hz];exact Eu (hok y hyl)
   · simp [ids]
   · rw [d_,x_,e1,e2,← hl]
     show (nd _ _).elems++(nd _ _).elems=_
     rw [hnd1,hnd2];exact e48.symm
omit [Big F] in
theorem FD {N:NL}(hc:wv N){h:Nat}{X:List DSpot}{s:Span}{Ks Ts:List Int}{x:DSpot}(hx:inS s x=true)(c:Ch (AJ (fN N) h) X (loS s x) Ks Ts)(ho:X.Pairwise SpotO):∀ y∈X,SpotO x y:=by
 cases X with
 | nil=>intro y hy;cases hy
 | cons z X =>
  obtain⟨k,ks,t,ts,e1,e2,i1,i2,c'⟩:=c
  obtain⟨e,he⟩:=i2.1.some_elem hc
  have hs:=wE.1 ((i2.1.elems hc).2 e he).1
  have hz:cmpS x z<0:=Aj (hs.1 rfl) hs.2
  intro y hy
  rcases j_.1 hy with rfl | hy
  · exact hz
  · exact vc.lt_trans hz ((B_.1 ho).1 y hy)
omit [Big F] in
theorem Gr {N2:NL}(hc:wv N2)(hl:N2.length≤400){h:Nat}{k1 k2:Int}{s:Span}{x:DSpot}(hx:inS s x=true)(hxo:vb (zE x)=0)(c1:vm (fN N2) (h+1) k1 3 (hiS s x))(c2:vm (fN N2) (h+1) k2 3 (loS s x))(hn:(ids (fN N2) (h+1) k1++ids (fN N2) (h+1) k2).Nodup)
 (hfew:((nd (fN N2) k1).kids.length+(nd (fN N2) k2).kids.length)≤12) :
 DT N2 (h+1) k1 k2 s (nd (fN N2) k1) (nd (fN N2) k2) x:=by
 have L1:=c1.inner hc
 have L2:=c2.inner hc
 have r1:=c1.range
 have r2:=c2.range
 have hz:=Fd x (yC hc r1) (yC hc r2)
 rw [vd] at r1 r2
 obtain⟨_,hk1,hm1,ch1⟩:=c1
 obtain⟨_,hk2,hm2,ch2⟩:=c2
 have i1:ids (fN N2) (h+1) k1=k1.toNat::(nd (fN N2) k1).kids.flatMap (ids (fN N2) h):=rfl
 have i2:ids (fN N2) (h+1) k2=k2.toNat::(nd (fN N2) k2).kids.flatMap (ids (fN N2) h):=rfl
 have e1:uS (fN N2) (h+1) k1=(nd (fN N2) k1).kids.flatMap (uS (fN N2) h):=rfl
 have e2:uS (fN N2) (h+1) k2=(nd (fN N2) k2).kids.flatMap (uS (fN N2) h):=rfl
 generalize nd (fN N2) k1=n5 at *
 generalize nd (fN N2) k2=n6 at *
 rw [hk1,show ((2:Int) == 2)=true from rfl,cond_true] at hz
 have cc:=Ch.join hx ch1 ch2
 have hlens:=cc.lens
 have hord:(n5.seps++x::n6.seps).Pairwise SpotO:=by
  have q2:=FD hc hx ch2 L2.ord
  refine z_.2 ⟨L1.ord,B_.2 ⟨q2,L2.ord⟩,fun a ha b hb=>?_⟩
  have q1:cmpS a x<0:=(wE.1 (ch1.seps a ha)).2
  rcases j_.1 hb with rfl | hb
  · exact q1
  · exact vc.lt_trans q1 (q2 b hb)
 have hxs : ∀ y∈n5.seps++x::n6.seps,vb (zE y)=0:=fun y hy=>by
  rcases g_.1 hy with hy | hy
  · exact L1.ok y hy
  · rcases j_.1 hy with rfl | hy
    · exact hxo
    · exact L2.ok y hy
 have hin : ∀ y∈n5.seps++x::n6.seps,inS s y=true:=cc.seps
 have hK:(n5.kids++n6.kids).length=n5.kids.length+n6.kids.length:=t_
 have t1:=L1.two
 have t2:=L2.two
 have hfl:(n5.kids++n6.kids).flatMap (ids (fN N2) h)=n5.kids.flatMap (ids (fN N2) h)++n6.kids.flatMap (ids (fN N2) h):=a_
 have hfe:(n5.kids++n6.kids).flatMap (uS (fN N2) h)=n5.kids.flatMap (uS (fN N2) h)++n6.kids.flatMap (uS (fN N2) h):=a_
 rw [i1,i2] at hn
 have hn' : (k1.toNat::k2.toNat::(n5.kids++n6.kids).flatMap (ids (fN N2) h)).Nodup:=by
  refine(List.Perm.nodup_iff ?_).1 hn
  rw [hfl,t7]
  exact List.Perm.cons _ o6
 obtain⟨n1,n2⟩:=O_.1 hn'
 obtain⟨n3,n4⟩:=O_.1 n2
 have hne:k1.toNat≠k2.toNat:=fun e=>n1 (by rw [e];exact l_)
 refine⟨_,hz,?_⟩
 rw [L1.elems,L2.elems,hk1]
 generalize hKs:n5.kids++n6.kids=Ks at *
 generalize hXs:n5.seps++x::n6.seps=Xs at *
 generalize hTs:n5.tids++n6.tids=Ts at *
 have agree : ∀(a b:DNode),∀ q∈Ks.flatMap (ids (fN N2) h),(put2 N2 k1 k2 a b)[q]? = N2[q]?:=fun a b q hq=>zA N2 a b (fun e=>n1 (by rw [← e];exact E_ _ hq)) (fun e=>n3 (by rw [← e];exact hq))
 have hperm:(k1.toNat::n5.kids.flatMap (ids (fN N2) h)++k2.toNat::n6.kids.flatMap (ids (fN N2) h)).Perm (k2.toNat::k1.toNat::Ks.flatMap (ids (fN N2) h)):=by
  rw [hfl,t7]
  exact(List.Perm.cons _ o6).trans (List.Perm.swap _ _ _)
 by_cases ht:Ks.length≤8
 · refine .inl ⟨by simp;omega,?_⟩
   have hck:=vM (n:=⟨2,[],Ks,Xs,Ts⟩) rfl (xj hc hl cc (by omega) ht hord hxs)
   have hnd:=zg (Bg (N:=N2) (k1:=k1) (k2:=k2) ⟨2,[],Ks,Xs,Ts⟩ zN hne (by omega))
   obtain⟨a1,a2,a3⟩:=ww (N':=put2 N2 k1 k2 ⟨2,[],Ks,Xs,Ts⟩ zN) (by rw [vU];exact q_ _) cc fun j hj=>agree _ _ j hj
   rw [K_]
   refine⟨vU _ _ _ _ _,fun j h1 h2=>zA N2 _ _ h1 h2,hc.put2 hck GE,⟨k1,_,rfl,rfl,⟨?_,by rw [hnd],by rw [hnd];show 4≤Ks.length;omega,by rw [hnd];exact a1⟩,rfl⟩,by simp,⟨[k2.toNat],?_,fun j hj=>?_⟩,?_⟩
   · rw [vd,vU];exact r1
   · rw [x_,i1,i2,ids,hnd]
     show List.Perm _ (k2.toNat::k1.toNat::Ks.flatMap _)
     rw [a2]
     exact hperm
   · rw [P_.1 hj];exact zC _ _ (by omega)
   · rw [x_,e1,e2,uS,hnd,← hfe]
     exact a3
 · refine .inr ⟨by simp;omega,?_⟩
   obtain⟨y,hy,hh⟩:=D5 (ks:=Ks) (xs:=Xs) (ts:=Ts) (by omega) (by omega) hlens.1 hlens.2 []
   rw [K_]
   refine⟨y,_,_,_,_,_,_,_,_,_,hh,?_⟩
   have h3:3<Xs.length:=by omega
   have hspx:Xs[3]=y:=by rw [gge h3] at hy;exact u_.inj hy
   have eX:Xs=Xs.take 3++y::Xs.drop 4:=by rw [← hspx];exact yW Xs h3
   have eK:Ks=Ks.take 4++Ks.drop 4:=(D_ 4 Ks).symm
   have eT:Ts=Ts.take 4++Ts.drop 4:=(D_ 4 Ts).symm
   have l1:(Ks.take 4).length=4:=by rw [p_];omega
   have l2:(Xs.take 3).length=3:=by rw [p_];omega
   have l3:(Ts.take 4).length=4:=by rw [p_];omega
   have l4:(Ks.drop 4).length=Ks.length-4:=by rw [G_]
   have c':=cc
   rw [eX,eK,eT] at c'
   have ho':=hord
   rw [eX] at ho'
   obtain⟨s1,s2,s3⟩:=Ch.split (by omega) (by omega) ho' c'
   obtain⟨o1,o2,o3⟩:=z_.1 ho'
   have hck1:=vM (n:=⟨2,[],Ks.take 4,Xs.take 3,Ts.take 4⟩) rfl (xj hc hl s2 (by omega) (by omega) o1 fun x h=>hxs x (m0 h))
   have hck2:=vM (n:=⟨2,[],Ks.drop 4,Xs.drop 4,Ts.drop 4⟩) rfl (xj hc hl s3 (by omega) (by omega) (B_.1 o2).2 fun x h=>hxs x (J_ h))
   have hnd1:=zg (Bg (N:=N2) (k1:=k1) (k2:=k2) ⟨2,[],Ks.take 4,Xs.take 3,Ts.take 4⟩ ⟨2,[],Ks.drop 4,Xs.drop 4,Ts.drop 4⟩ hne (by omega))
   have hnd2:=zg (zC (N:=N2) (k1:=k1) (k2:=k2) ⟨2,[],Ks.take 4,Xs.take 3,Ts.take 4⟩ ⟨2,[],Ks.drop 4,Xs.drop 4,Ts.drop 4⟩ (by omega))
   have ag:=agree ⟨2,[],Ks.take 4,Xs.take 3,Ts.take 4⟩ ⟨2,[],Ks.drop 4,Xs.drop 4,Ts.drop 4⟩
   have hlen:=vU N2 k1 k2 ⟨2,[],Ks.take 4,Xs.take 3,Ts.take 4⟩ ⟨2,[],Ks.drop 4,Xs.drop 4,Ts.drop 4⟩
   have hckL:wv (put2 N2 k1 k2 ⟨2,[],Ks.take 4,Xs.take 3,Ts.take 4⟩ ⟨2,[],Ks.drop 4,Xs.drop 4,Ts.drop 4⟩):=hc.put2 hck1 hck2
   have hget : ∀ j:Nat,j≠k1.toNat→j≠k2.toNat→(put2 N2 k1 k2 ⟨2,[],Ks.take 4,Xs.take 3,Ts.take 4⟩ ⟨2,[],Ks.drop 4,Xs.drop 4,Ts.drop 4⟩)[j]? = N2[j]?:=fun j h1 h2=>zA N2 _ _ h1 h2
   generalize put2 N2 k1 k2 ⟨2,[],Ks.take 4,Xs.take 3,Ts.take 4⟩ ⟨2,[],Ks.drop 4,Xs.drop 4,Ts.drop 4⟩=N3 at *
   have sub1 : ∀ q∈(Ks.take 4).flatMap (ids (fN N2) h),q∈Ks.flatMap (ids (fN N2) h):=fun q hq=>by
    rw [eK,a_];exact M_ _ hq
   have sub2 : ∀ q∈(Ks.drop 4).flatMap (ids (fN N2) h),q∈Ks.flatMap (ids (fN N2) h):=fun q hq=>by
    rw [eK,a_];exact U_ _ hq
   obtain⟨a1,a2,a3⟩:=ww (by omega) s2 fun q hq=>ag q (sub1 q hq)
   obtain⟨b1,b2,b3⟩:=ww (by omega) s3 fun q hq=>ag q (sub2 q hq)
   refine⟨hlen,hget,hckL,⟨k1,[k2],_,_,rfl,rfl,s1,⟨⟨?_,by rw [hnd1],by rw [hnd1];show 4≤(Ks.take 4).length;omega,by rw [hnd1];exact a1⟩,rfl⟩,k2,_,rfl,rfl,⟨?_,by rw [hnd2],by rw [hnd2];show 4≤(Ks.drop 4).length;omega,by rw [hnd2];exact b1⟩,rfl⟩,?_,⟨[],?_,by simp⟩,?_⟩
   · rw [vd,hlen];exact r1
   · rw [vd,hlen];exact r2
   · intro z hz
     rw [P_.1 hz];exact hxs y (by rw [eX];simp)
   · rw [d_,x_,i1,i2,ids,ids,hnd1,hnd2,o7]
     show List.Perm _ (k1.toNat::(Ks.take 4).flatMap _++k2.toNat::(Ks.drop 4).flatMap _)
     rw [a2,b2]
     refine hperm.trans ((List.Perm.swap _ _ _).trans ?_)
     rw [t7]
     refine List.Perm.cons _ ?_
     conv=>lhs;rw [eK,a_]
     exact o6.symm
   · rw [d_,x_,e1,e2,uS,uS,hnd1,hnd2,← hfe]
     show (Ks.take 4).flatMap _++(Ks.drop 4).flatMap _=_
     rw [a3,b3,← a_,← eK]
def G6 (ns:List DNode)(h:Nat)(k:Int):Int→Int→Span→Prop:=fun a t s=>vm ns h a 3 s∧(a≠k→AJ ns h a t s)
structure EvenPost (N2 N3:NL) (h:Nat) (s:Span) (n:DNode) (K:List Int) (X:List DSpot) (T:List Int):Prop where
 len:N3.length=N2.length
 out : ∀ j:Nat,j ∉ n.kids.flatMap (ids (fN N2) h)→N3[j]? = N2[j]?
 chk:wv N3
 ch:Ch (AJ (fN N3) h) X s K T
 more:n.kids.length≤K.length+1
 few:K.length≤n.kids.length
 ord:X.Pairwise SpotO
 ok : ∀ x∈X,vb (zE x)=0
 perm : ∃ Z,(n.kids.flatMap (ids (fN N2) h)).Perm (Z++K.flatMap (ids (fN N3) h))∧∀ j∈Z,N3[j]? = some (.inr zN)
 elems:K.flatMap (uS (fN N3) h)=n.kids.flatMap (uS (fN N2) h)
omit [Big F] in
theorem Fj {α:Type}(l:List α){z:Nat}(h:z+1<l.length):∃ a b,l[z]? = some a∧l[z+1]? = some b∧l=l.take z++a::b::l.drop (z+2):=by
 refine⟨l[z],l[z+1],gge _,gge _,?_⟩
 have:=yW l (w:=z) (by omega)
 rw [l7 h] at this
 exact this
omit [Big F] in
theorem Im {N2 N3:NL}{h:Nat}{n:DNode}{s s' : Span}{k k1 k2:Int}{A B:List Int}{XA XB:List DSpot}{TA TB K:List Int}{X:List DSpot}{x:DSpot}
 (hkids:n.kids=A++k1::k2::B) (hseps:n.seps=XA++x::XB) (hk:k=k1∨k=k2) (hnd:(n.kids.flatMap (ids (fN N2) h)).Nodup) (ho:n.seps.Pairwise SpotO) (hxok : ∀ x∈n.seps,vb (zE x)=0)
 (loX : ∀ x∈XA,∀ y,inS s' y=true→cmpS x y≤0) (hiX : ∀ x∈XB,∀ y,inS s' y=true→cmpS y x<0)
 (wc : ∀ a,a∈A∨a∈B→∃ t s'',G6 (fN N2) h k a t s'')
 (turn : ∀ Q:Int→Int→Span→Prop,(∀ a t s',a∈A∨a∈B→G6 (fN N2) h k a t s'→Q a t s')→∀ M' XM' TM',Ch Q XM' s' M' TM'→Ch Q (XA++(XM'++XB)) s (A++(M'++B)) (TA++(TM'++TB)))
 (P:PairPost N2 N3 h k1 k2 s' K X) (hsh:(K=[k1]∧X=[])∨(K=[k1,k2]∧∃ y,X=[y])) :
 EvenPost N2 N3 h s n (A++(K++B)) (XA++(X++XB)) (TA++(K.map (fun k=>ve (nd (fN N3) k))++TB)):=by
 have hfl:n.kids.flatMap (ids (fN N2) h)=A.flatMap (ids (fN N2) h)++((ids (fN N2) h k1++ids (fN N2) h k2)++B.flatMap (ids (fN N2) h)):=by
  rw [hkids,a_,d_,d_,H_]
 rw [hfl] at hnd
 obtain⟨n1,n2,n3⟩:=I_.1 hnd
 obtain⟨n4,n5,n6⟩:=I_.1 n2
 have dis : ∀ a,a∈A∨a∈B→∀ j∈ids (fN N2) h a,j ∉ ids (fN N2) h k1∧j ∉ ids (fN N2) h k2:=fun a ha j hj=>by
  rcases ha with ha | ha
  · have hjA:j∈A.flatMap (ids (fN N2) h):=N_.2 ⟨a,ha,hj⟩
    exact⟨fun h=>n3 j hjA j (by simp [h]) rfl,fun h=>n3 j hjA j (by simp [h]) rfl⟩
  · have hjB:j∈B.flatMap (ids (fN N2) h):=N_.2 ⟨a,ha,hj⟩
    exact⟨fun h=>n6 j (by simp [h]) j hjB rfl,fun h=>n6 j (by simp [h]) j hjB rfl⟩
 have hak : ∀ a,a∈A∨a∈B→a≠k:=fun a ha e=>by
  obtain⟨d1,d2⟩:=dis a ha a.toNat (vm.head h a)
  rcases hk with rfl | rfl
  · exact d1 (by rw [← e];exact vm.head h a)
  · exact d2 (by rw [← e];exact vm.head h a)
 have agr : ∀ a,a∈A∨a∈B→∀ j∈ids (fN N2) h a,N3[j]? = N2[j]?:=fun a ha j hj=>by
  obtain⟨d1,d2⟩:=dis a ha j hj
  exact P.out j (fun e=>d1 (by rw [e];exact vm.head h k1)) (fun e=>d2 (by rw [e];exact vm.head h k2))
 have other : ∀ a,a∈A∨a∈B→∀ {m:Nat} {s:Span},vm (fN N2) h a m s→_:=fun a ha m s c=>vm.agree (N:=N2) (N':=N3) (by rw [P.len];exact q_ _) c (agr a ha)
 have flat : ∀(l:List Int),(∀ a∈l,a∈A∨a∈B)→l.flatMap (ids (fN N3) h)=l.flatMap (ids (fN N2) h)∧l.flatMap (uS (fN N3) h)=l.flatMap (uS (fN N2) h):=fun l hl=>by
  constructor
  · exact xy fun a ha=>by obtain ⟨t',s'',x1⟩:=wc a (hl a ha);exact(other a (hl a ha) x1.1).2.1
  · exact vI fun a ha=>by obtain ⟨t',s'',x1⟩:=wc a (hl a ha);exact(other a (hl a ha) x1.1).2.2.1
 have hch:=turn (AJ (fN N3) h) (fun a t s'' ha q=>by
  have c:=q.2 (hak a ha)
  exact⟨(other a ha c.1).1,by rw [(other a ha c.1).2.2.2];exact c.2⟩) K X _ P.ch
 have hKl:n.kids.length=A.length+2+B.length:=by rw [hkids];simp;omega
 rw [hseps] at ho
 obtain⟨p1,p2,p3⟩:=z_.1 ho
 obtain⟨p4,p5⟩:=B_.1 p2
 refine⟨P.len,fun j hj=>?_,P.chk,hch,?_,?_,?_,fun y hy=>?_,?_,?_⟩
 · rw [hfl] at hj
   simp only [g_,not_or] at hj
   exact P.out j (fun e=>hj.2.1.1 (by rw [e];exact vm.head h k1)) (fun e=>hj.2.1.2 (by rw [e];exact vm.head h k2))
 · rcases hsh with ⟨rfl,_⟩ | ⟨rfl,_⟩ <;> simp <;> omega
 · rcases hsh with ⟨rfl,_⟩ | ⟨rfl,_⟩ <;> simp <;> omega
 · rcases hsh with ⟨_,rfl⟩ | ⟨rfl,y,rfl⟩
   · exact z_.2 ⟨p1,p5,fun a ha b hb=>p3 a ha b (E_ _ hb)⟩
   · obtain⟨a1,al,t1,ts,e1,e2,i1,i2,c'⟩:=P.ch
     obtain⟨e,he⟩:=i2.1.some_elem P.chk
     have hs1:=((i2.1.elems P.chk).2 e he).1
     have hs2:=wE.1 hs1
     have hs3:=wP i1 hs1
     refine z_.2 ⟨p1,B_.2 ⟨fun b hb=>hiX b hb y i1,p5⟩,fun a ha b hb=>?_⟩
     rcases j_.1 hb with rfl | hb
     · exact Aj (loX a ha _ hs3) hs2.2
     · exact p3 a ha b (E_ _ hb)
 · rcases g_.1 hy with hy | hy
   · exact hxok y (by rw [hseps];exact M_ _ hy)
   · rcases g_.1 hy with hy | hy
     · exact P.ok y hy
     · exact hxok y (by rw [hseps];simp [hy])
 · obtain⟨Z,hZ,hz⟩:=P.perm
   refine⟨Z,?_,hz⟩
   rw [hfl,a_,a_,(flat A fun a ha=>.inl ha).1,(flat B fun a ha=>.inr ha).1]
   refine((hZ.append_right _).append_left _).trans ?_
   rw [H_]
   exact E6 _ _ _
 · rw [a_,a_,(flat A fun a ha=>.inl ha).2,(flat B fun a ha=>.inr ha).2,P.elems,hkids,a_,d_,d_,H_]
omit [Big F] in
theorem Jv {α:Type}(A:List α)(x y:α)(B:List α):idx (A++x::y::B) ((A.length:Int)+1)=some y:=by
 rw [show ((A.length:Int)+1)=((A.length+1:Nat):Int) by omega,uX,p7 (by omega)];simp
omit [Big F] in
theorem D0 {α:Type}{l:List α}{i j:Nat}(h1:i<j)(h2:j≤l.length):sY l (i:Int) (j:Int)=some (jX l i j):=by
 unfold sY
 rw [if_pos ⟨by omega,by omega,by omega⟩,i_,i_]
omit [Big F] in
theorem GH {α:Type}(A:List α)(x y:α)(B:List α):jX (A++x::y::B) (A.length+1) (A.length+2)=A++x::B:=by
 unfold jX
 rw [show A++x::y::B=(A++[x])++y::B by simp,X_ (by simp),show (A++[x])++y::B=(A++[x,y])++B by simp,Y_ (by simp)]
 simp
omit [Big F] in
theorem Jq {α:Type}(A:List α)(x:α)(B:List α):jX (A++x::B) A.length (A.length+1)=A++B:=by
 unfold jX
 rw [X_ rfl,show A++x::B=(A++[x])++B by simp,Y_ (by simp)]
omit [Big F] in
theorem JR {α:Type}(A:List α)(x y z:α)(B:List α):(A++x::y::B).set (A.length+1) z=A++x::z::B:=by
 rw [List.set_append_right _ _ (by omega)];simp
theorem Jt {N2:NL}(hc:wv N2)(hl:N2.length≤400){h:Nat}{n:DNode}{r10 r11:Int}{s:Span}{k:Int}{z:Nat}{tids' : List Int}
 (ht:n.tids.set r10.toNat r11=tids') (hz:z+1<n.kids.length) (h8:n.kids.length≤8) (hs:n.seps.length+1=n.kids.length) (htl:tids'.length=n.kids.length)
 (hk:n.kids[z]? = some k∨n.kids[z+1]? = some k) (hzz:(bif (r10 == (IntKind.i64.wrap ((n.kids.length:Int)-1))) then some (IntKind.i64.wrap (r10-1)) else some r10:Option Int)=some (z:Int))
 (ho:n.seps.Pairwise SpotO) (hxok : ∀ x∈n.seps,vb (zE x)=0) (wc:Ch (G6 (fN N2) h k) n.seps s n.kids tids') (hnd:(n.kids.flatMap (ids (fN N2) h)).Nodup)
 (hlow:(nd (fN N2) k).elems.length+(nd (fN N2) k).kids.length<4) :
 ∃ K X T N3,Cr F n r10 r11 N2=some (K,X,T,N3)∧EvenPost N2 N3 h s n K X T:=by
 obtain⟨k1,k2,hk1,hk2,eK⟩:=Fj n.kids hz
 obtain⟨t1,t2,ht1,ht2,eT⟩:=Fj tids' (z:=z) (by omega)
 obtain⟨x,eX⟩ : ∃ x,n.seps=n.seps.take z++x::n.seps.drop (z+1):=⟨_,yW n.seps (w:=z) (by omega)⟩
 have lA:(n.kids.take z).length=z:=by rw [p_];omega
 have lX:(n.seps.take z).length=z:=by rw [p_];omega
 have lT:(tids'.take z).length=z:=by rw [p_];omega
 have lB:(n.kids.drop (z+2)).length=n.kids.length-(z+2):=G_
 have lXB:(n.seps.drop (z+1)).length=n.seps.length-(z+1):=G_
 have lTB:(tids'.drop (z+2)).length=tids'.length-(z+2):=G_
 generalize n.kids.take z=A at *
 generalize n.kids.drop (z+2)=B at *
 generalize n.seps.take z=XA at *
 generalize n.seps.drop (z+1)=XB at *
 generalize tids'.take z=TA at *
 generalize tids'.drop (z+2)=TB at *
 have hkk:k=k1∨k=k2:=by
  rcases hk with h | h
  · rw [hk1] at h;exact .inl (u_.inj h).symm
  · rw [hk2] at h;exact .inr (u_.inj h).symm
 have wc':=wc
 rw [eK,eX,eT] at wc'
 have ho':=ho
 rw [eX] at ho'
 obtain⟨s',i1,i2,i3,i4,i5,i6⟩:=Ch.focus (XA:=XA) (XM:=[x]) (XB:=XB) (A:=A) (M:=[k1,k2]) (B:=B) (TA:=TA) (TM:=[t1,t2]) (TB:=TB) (by omega) (by omega) rfl rfl (by omega) (by omega) ho' wc'
 obtain⟨k1',ks',t1',ts',e1,e2,hx,p1,k2',t2',e3,e4,p2⟩:=i1
 obtain⟨rfl,rfl⟩ : k1=k1'∧[k2]=ks':=by simpa using e1
 obtain rfl:k2=k2':=by simpa using e3
 have hfl:n.kids.flatMap (ids (fN N2) h)=A.flatMap (ids (fN N2) h)++((ids (fN N2) h k1++ids (fN N2) h k2)++B.flatMap (ids (fN N2) h)):=by
  rw [eK,a_,d_,d_,H_]
 have hn12:(ids (fN N2) h k1++ids (fN N2) h k2).Nodup:=by
  rw [hfl] at hnd
  exact(I_.1 (I_.1 hnd).2.1).1
 have hne:k1.toNat≠k2.toNat:=fun e=>(I_.1 hn12).2.2 _ (vm.head h k1) _ (vm.head h k2) e
 have b1:=xG (yC hc p1.1.range)
 have b2:=xG (yC hc p2.1.range)
 have b3:(nd (fN N2) k1).elems.length+(nd (fN N2) k2).elems.length≤12∧(nd (fN N2) k1).kids.length+(nd (fN N2) k2).kids.length≤12:=by
  rcases hkk with rfl | rfl <;> omega
 have hpo:DT N2 h k1 k2 s' (nd (fN N2) k1) (nd (fN N2) k2) x:=by
  cases h with
  | zero=>exact HH hc hx hne p1.1 p2.1 b3.1
  | succ h=>exact Gr hc hl hx (hxok x (by rw [eX];simp)) p1.1 p2.1 hn12 b3.2
 obtain⟨z22,hz22,hpair⟩:=hpo
 have r1:=p1.1.range
 have r2:=p2.1.range
 rw [vd] at r1 r2
 have wcm : ∀ a,a∈A∨a∈B→∃ t s'',G6 (fN N2) h k a t s'':=fun a ha=>by
  obtain⟨t,s'',q,_⟩:=wc.mem a (by
   rw [eK]
   rcases ha with ha | ha
   · exact M_ _ ha
   · simp [ha])
  exact⟨t,s'',q⟩
 have fin:=fun {N3:NL} {K:List Int} {X:List DSpot} (P:PairPost N2 N3 h k1 k2 s' K X) hsh=>Im (TA:=TA) (TB:=TB) eK eX hkk hnd ho hxok i3 i4 wcm i6 P hsh
 have hi1:idx n.kids (z:Int)=some k1:=by rw [uX];exact hk1
 have hi2:idx n.kids ((z:Int)+1)=some k2:=by rw [show ((z:Int)+1)=((z+1:Nat):Int) by omega,uX];exact hk2
 have hi3:idx n.seps (z:Int)=some x:=by
  have:=wM XA x XB
  rwa [lX,← eX] at this
 have hd1:sY n.kids ((z:Int)+1) ((z:Int)+2)=some (A++k1::B):=by
  have:=D0 (l:=n.kids) (i:=z+1) (j:=z+2) (by omega) (by omega)
  rw [show ((z+1:Nat):Int)=(z:Int)+1 by omega,show ((z+2:Nat):Int)=(z:Int)+2 by omega] at this
  rw [this,eK]
  have:=GH A k1 k2 B
  rw [lA] at this;rw [this]
 have hd2:sY n.seps (z:Int) ((z:Int)+1)=some (XA++XB):=by
  have:=D0 (l:=n.seps) (i:=z) (j:=z+1) (by omega) (by omega)
  rw [show ((z+1:Nat):Int)=(z:Int)+1 by omega] at this
  rw [this,eX]
  have:=Jq XA x XB
  rw [lX] at this;rw [this]
 have hd3:sY tids' ((z:Int)+1) ((z:Int)+2)=some (TA++t1::TB):=by
  have:=D0 (l:=tids') (i:=z+1) (j:=z+2) (by omega) (by omega)
  rw [show ((z+1:Nat):Int)=(z:Int)+1 by omega,show ((z+2:Nat):Int)=(z:Int)+2 by omega] at this
  rw [this,eT]
  have:=GH TA t1 t2 TB
  rw [lT] at this;rw [this]
 obtain⟨_,_,_,_,j1⟩:=oL hd1
 obtain⟨_,_,_,_,j2⟩:=oL hd2
 obtain⟨_,_,_,_,j3⟩:=oL hd3
 have hset : ∀(l:List Int) (a b:Int),(TA++a::l).set z b=TA++b::l:=fun l a b=>by
  have:=yx TA a b l
  rwa [lT] at this
 unfold Cr
 rw [hzz,obs,hi1,obs,w64 (n:=(z:Int)+1) (by omega) (by omega),hi2,obs,p1.1.node.1,obs,Gk (Ne.symm hne),p2.1.node.1,obs,hi3,obs,hz22,obs]
 unfold IM
 rw [ht]
 generalize nd (fN N2) k1=n5 at *
 generalize nd (fN N2) k2=n6 at *
 rw [w64 (n:=((n5.elems++n6.elems).length:Int)+((n5.kids++n6.kids).length:Int)) (by omega) (by simp only [t_];omega),w64 (n:=(z:Int)+1) (by omega) (by omega)]
 rcases hpair with ⟨hle,P⟩ | ⟨hgt,y,q1,q2,q3,q4,l1,l2,l3,l4,kd,hh,P⟩
 · obtain⟨a1,u1,e5,e6,c1⟩:=P.ch
   obtain rfl:k1=a1:=by simpa using e5
   have hnode:=c1.1.node.1
   have hgr:=vX (F:=F) P.chk c1.1.range
   have hE:=fin P (.inl ⟨rfl,rfl⟩)
   refine⟨_,_,_,_,?_,hE⟩
   rw [decide_eq_false (by omega),cond_false,yz (by rw [uW];exact r1),obs,yz (by rw [uZ,uW];exact r2),obs,w64 (n:=(z:Int)+2) (by omega) (by omega),hd1,obs,hd2,obs,hd3,obs,obs]
   dsimp only
   rw [j1,j2,j3]
   refine Eq.trans (congrArg (fun q=>f_ q _) hnode) ?_
   rw [obs,hgr,obs]
   have hm:=wM TA t1 TB
   rw [lT] at hm
   rw [hm,obs,i_,hset]
   rfl
 · obtain⟨a1,al,u1,us,e5,e6,i7,c1,a2,u2,e7,e8,c2⟩:=P.ch
   obtain⟨rfl,rfl⟩ : k1=a1∧[k2]=al:=by simpa using e5
   obtain rfl:k2=a2:=by simpa using e7
   have hnode:=c1.1.node.1
   have hgr:=vX (F:=F) P.chk c1.1.range
   have hgr2:=vX (F:=F) P.chk c2.1.range
   have hnd2:=zg (zC (N:=N2) (k1:=k1) (k2:=k2) ⟨n5.kind,l1,l2,l3,l4⟩ ⟨kd,q4,q3,q2,q1⟩ (by omega))
   have hgr3:jl F ⟨kd,q4,q3,q2,q1⟩=some (ve (nd (fN (put2 N2 k1 k2 ⟨n5.kind,l1,l2,l3,l4⟩ ⟨kd,q4,q3,q2,q1⟩)) k2)):=by
    rw [← hgr2,hnd2]
   have hE:=fin P (.inr ⟨rfl,y,rfl⟩)
   refine⟨_,_,_,_,?_,hE⟩
   rw [decide_eq_true (by omega),cond_true,hh,obs]
   dsimp only
   rw [yz (by rw [uW];exact r1),obs,yz (by rw [uZ,uW];exact r2),obs,hi3,obs,hgr3,obs]
   have hm:=Jv TA t1 t2 TB
   rw [lT,← eT] at hm
   rw [hm,obs,obs]
   dsimp only
   refine Eq.trans (congrArg (fun q=>f_ q _) hnode) ?_
   rw [obs,hgr,obs]
   have hst:=JR TA t1 t2 (ve (nd (fN (put2 N2 k1 k2 ⟨n5.kind,l1,l2,l3,l4⟩ ⟨kd,q4,q3,q2,q1⟩)) k2)) TB
   rw [lT,← eT] at hst
   have hm2:=wM TA t1 (ve (nd (fN (put2 N2 k1 k2 ⟨n5.kind,l1,l2,l3,l4⟩ ⟨kd,q4,q3,q2,q1⟩)) k2)::TB)
   rw [lT] at hm2
   have hsx:n.seps.set z y=XA++y::XB:=by
    have:=yx XA x y XB
    rw [lX,← eX] at this;exact this
   rw [show ((z:Int)+1).toNat=z+1 by omega,hst,hm2,obs,i_,hset,Et,hsx,eK]
   rfl
structure RemPost (sp:DSpot) (N N' : NL) (h:Nat) (i:Int) (s:Span) (m:Nat):Prop where
 len:N'.length=N.length
 out : ∀ j:Nat,j ∉ ids (fN N) h i→N'[j]? = N[j]?
 chk:wv N'
 sub:vm (fN N') h i (m-1) s
 perm : ∃ Z,(ids (fN N) h i).Perm (Z++ids (fN N') h i)∧∀ j∈Z,N'[j]? = some (.inr zN)
 elems:uS (fN N') h i=(uS (fN N) h i).filter (xW sp)
structure RemMid (sp:DSpot) (N N3:NL) (h:Nat) (i:Int) (s:Span) (n:DNode) (K:List Int) (X:List DSpot) (T:List Int):Prop where
 len:N3.length=N.length
 hole:N3[i.toNat]? = (iT N i)[i.toNat]?
 out : ∀ j:Nat,j ∉ ids (fN N) (h+1) i→N3[j]? = N[j]?
 chk:wv N3
 ch:Ch (AJ (fN N3) h) X s K T
 more:n.kids.length≤K.length+1
 few:K.length≤n.kids.length
 ord:X.Pairwise SpotO
 ok : ∀ x∈X,vb (zE x)=0
 perm : ∃ Z,(n.kids.flatMap (ids (fN N) h)).Perm (Z++K.flatMap (ids (fN N3) h))∧∀ j∈Z,N3[j]? = some (.inr zN)
 elems:K.flatMap (uS (fN N3) h)=(n.kids.flatMap (uS (fN N) h)).filter (xW sp)
def H3 (F:Nat)(sp:DSpot)(h:Nat):Prop:=∀(mf:Nat) (N:NL) (i:Int) (m:Nat) (s:Span),h<mf→wv N→N.length≤400→(h=0∨3≤m)→vm (fN N) h i m s→(ids (fN N) h i).Nodup→inS s sp=true →
 ∃ N',ql (B5 F sp) mf (N,i)=some N'∧RemPost sp N N' h i s m
omit [Big F] in
theorem Bc {sp:DSpot}{l:List DElem}(h : ∀ x∈l,uU x≠sp):l.filter (xW sp)=l:=B2.2 fun x hx=>by unfold xW;simpa using h x hx
theorem I0 (sp:DSpot):H3 F sp 0:=by
 intro mf N i m s hm hc hl _ c hn hs
 obtain⟨mf,rfl⟩ : ∃ q,mf=q+1:=⟨mf-1,by omega⟩
 have L:=c.leaf hc
 have hr:=c.range
 rw [vd] at hr
 obtain⟨hnode,hat⟩:=c.node
 obtain⟨_,hk1,hmk,hin⟩:=c
 have hel:uS (fN N) 0 i=(nd (fN N) i).elems:=rfl
 generalize nd (fN N) i=n at *
 have hlen:n.elems.length≤(n.elems.filter (xW sp)).length+1:=by
  have key : ∀ l:List DElem,l.Pairwise SpO→l.length≤(l.filter (xW sp)).length+1:=by
   intro l
   induction l with
   | nil=>intro _;simp
   | cons a l ih =>
    intro ho
    rw [B_] at ho
    by_cases h:uU a=sp
    · have : l.filter (xW sp) = l := Bc fun x hx e => by
       have:=ho.1 x hx
       unfold SpO at this
       rw [h,e,vc.refl] at this
       omega
      rw [B3]
      split <;> rw [this] <;> simp
    · have:=ih ho.2
      rw [B3,if_pos (by unfold xW;simpa using h)]
      simpa using this
  exact key _ L.ord
 obtain⟨n',hn'⟩ : ∃ n' : DNode,n' = ⟨1,n.elems.filter (xW sp),[],[],[]⟩:=⟨_,rfl⟩
 have hck:vq n' = 0:=by
  rw [hn']
  exact xP rfl ⟨rfl,rfl,rfl,by have:=t9 (xW sp) n.elems;have:=L.len;show (n.elems.filter (xW sp)).length≤8;omega,fun x hx=>L.ok x ((Q_.1 hx).1),L.ord.filter _⟩
 have hnd:nd (fN (jo (iT N i) i n')) i=n':=Bz (by rw [uW];exact hr)
 refine⟨jo (iT N i) i n',?_,⟨by rw [uZ,uW],fun j hj=>?_,(hc.out i).put hck,⟨?_,by rw [hnd,hn'],?_,?_⟩,⟨[],?_,by simp⟩,?_⟩⟩
 · show B5 F sp (ql (B5 F sp) mf) (N,i)=_
   unfold B5
   dsimp only
   rw [hnode,obs,hk1,show ((1:Int) == 1)=true from rfl,cond_true,Jp _ _ (by have:=L.len;omega),obs,yz (by rw [uW];exact hr),obs,L.kids,L.seps,L.tids,hn']
 · have hji:j≠i.toNat:=by simpa [ids] using hj
   rw [vj _ hji,vA _ hji]
 · rw [vd,uZ,uW];exact hr
 · rw [hnd,hn'];show m-1≤(n.elems.filter (xW sp)).length;omega
 · rw [hnd,hn']
   intro x hx
   exact hin x ((Q_.1 hx).1)
 · simp [ids]
 · rw [hel]
   show (nd _ i).elems=_
   rw [hnd,hn']
omit [Big F] in
theorem vm.count {ns:List DNode}(hns : ∀ n∈ns,vq n=0){h:Nat}{i:Int}{m m' : Nat}{s:Span}(c:vm ns h i m s)(hm:m'≤(nd ns i).elems.length+(nd ns i).kids.length):vm ns h i m' s:=by
 cases h with
 | zero =>
  have L:=c.leaf hns
  rw [L.kids] at hm
  exact⟨c.1,c.2.1,by simpa using hm,c.2.2.2⟩
 | succ h =>
  have L:=c.inner hns
  rw [L.elems] at hm
  exact⟨c.1,c.2.1,by simpa using hm,c.2.2.2⟩
theorem GV {sp:DSpot}{h:Nat}(ih:H3 F sp h){mf:Nat}{N:NL}{i:Int}{m:Nat}{s:Span}(hm:h<mf)(hc:wv N)(hl:N.length≤400)(c:vm (fN N) (h+1) i m s)(hn:(ids (fN N) (h+1) i).Nodup)(hs:inS s sp=true) :
 ∃ N3 K X T,ql (B5 F sp) (mf+1) (N,i)=some (jo N3 i ⟨2,[],K,X,T⟩)∧RemMid sp N N3 h i s (nd (fN N) i) K X T:=by
 have L:=c.inner hc
 have hr:=c.range
 rw [vd] at hr
 obtain⟨hnode,hat⟩:=c.node
 have hus:=c.used
 obtain⟨_,hk2,hmk,hch⟩:=c
 obtain⟨A,k,B,XA,XB,TA,t,TB,s',f⟩:=F6 L.seps L.tids L.ord hch hs
 have hids:ids (fN N) (h+1) i=i.toNat::(nd (fN N) i).kids.flatMap (ids (fN N) h):=rfl
 generalize hnn:nd (fN N) i=n at *
 have hflN:n.kids.flatMap (ids (fN N) h)=A.flatMap (ids (fN N) h)++(ids (fN N) h k++B.flatMap (ids (fN N) h)):=by rw [f.kids,a_,d_]
 have hn0:=hn
 rw [hids] at hn0
 rw [ids,hnn,f.kids] at hn
 obtain⟨d1,d2,d3⟩:=zw hn
 have hN1 : ∀ j∈ids (fN N) h k,(iT N i)[j]? = N[j]?:=fun j hj=>vA N (fun e=>d1 (e▸hj))
 obtain⟨q1,q2,q3,q4⟩:=vm.agree (N':=iT N i) (by rw [uW];exact q_ _) f.here.1 hN1
 obtain⟨N2,hrun,P2⟩:=ih mf (iT N i) k 4 s' hm (hc.out i) (by rw [uW];exact hl) (.inr (by omega)) q1 (by rw [q2];exact d2) f.in_
 have hlen2:N2.length=N.length:=by rw [P2.len,uW]
 obtain⟨Z2,hZ2,hz2⟩:=P2.perm
 rw [q2] at hZ2
 have hout2 : ∀ j:Nat,j≠i.toNat→j ∉ ids (fN N) h k→N2[j]? = N[j]?:=fun j h1 h2=>by rw [P2.out j (by rw [q2];exact h2),vA N h1]
 have other : ∀ a,a∈A∨a∈B→∀ {m:Nat} {s:Span},vm (fN N) h a m s→_:=fun a ha m s c=>vm.agree (N:=N) (N':=N2) (by rw [hlen2];exact q_ _) c fun j hj=>by
  obtain⟨x1,x2⟩:=d3 a ha
  exact hout2 j (fun e=>x1 (e▸hj)) (x2 j hj)
 have hkids : ∀ a,a∈A∨a∈B→∃ t' s'',vm (fN N) h a 4 s''∧(∀ x∈uS (fN N) h a,uU x≠sp):=fun a ha=>by
  rcases ha with ha | ha
  · obtain⟨t',s'',x1,x2⟩:=f.lo a ha
    exact⟨t',s'',x1.1,fun x hx e=>by have:=x2 _ ((x1.1.elems hc).2 x hx).1;rw [e,vc.refl] at this;omega⟩
  · obtain⟨t',s'',x1,x2⟩:=f.hi a ha
    exact⟨t',s'',x1.1,fun x hx e=>by have:=x2 _ ((x1.1.elems hc).2 x hx).1;rw [e,vc.refl] at this;omega⟩
 have flat : ∀(l:List Int),(∀ a∈l,a∈A∨a∈B)→l.flatMap (ids (fN N2) h)=l.flatMap (ids (fN N) h) ∧
  l.flatMap (uS (fN N2) h)=(l.flatMap (uS (fN N) h)).filter (xW sp):=fun l hl=>by
  constructor
  · exact xy fun a ha=>by obtain ⟨t',s'',x1,_⟩:=hkids a (hl a ha);exact(other a (hl a ha) x1).2.1
  · rw [List.filter_flatMap]
    exact vI fun a ha=>by obtain ⟨t',s'',x1,x2⟩:=hkids a (hl a ha);rw [(other a (hl a ha) x1).2.2.1];exact(Bc x2).symm
 have hfl2:n.kids.flatMap (ids (fN N2) h)=A.flatMap (ids (fN N) h)++(ids (fN N2) h k++B.flatMap (ids (fN N) h)):=by
  rw [f.kids,a_,d_,(flat A fun a ha=>.inl ha).1,(flat B fun a ha=>.inr ha).1]
 have hperm:(n.kids.flatMap (ids (fN N) h)).Perm (Z2++n.kids.flatMap (ids (fN N2) h)):=by
  rw [hflN,hfl2]
  refine((hZ2.append_right _).append_left _).trans ?_
  rw [H_]
  exact E6 _ _ _
 obtain⟨n1,n2⟩:=O_.1 hn0
 have hnp:=hperm.nodup_iff.1 n2
 obtain⟨m1,m2,m3⟩:=I_.1 hnp
 have hsub : ∀ j∈n.kids.flatMap (ids (fN N2) h),j∈n.kids.flatMap (ids (fN N) h):=fun j hj=>hperm.mem_iff.2 (U_ _ hj)
 have hi2:i.toNat ∉ n.kids.flatMap (ids (fN N2) h):=fun hj=>n1 (hsub _ hj)
 have hw:xV n.seps sp=A.length:=f.way
 have hta:=f.ta
 have hxa:=f.xa
 have htb:=f.tb
 have hxb:=f.xb
 have hkl:n.kids.length=A.length+B.length+1:=by rw [f.kids];simp;omega
 have h8:=L.eight
 have h2:=L.two
 have hsl:=L.seps
 have htl:=L.tids
 obtain⟨g,hg⟩ : ∃ g,g=ve (nd (fN N2) k):=⟨_,rfl⟩
 have htids:n.tids.set A.length g=TA++g::TB:=by rw [f.tids,← hta,yx]
 have hgr:=vX (F:=F) P2.chk P2.sub.range
 have hE : ∃ K X T N3,JL F n (nd (fN N2) k) (A.length:Int) g N2=some (K,X,T,N3)∧EvenPost N2 N3 h s n K X T:=by
  obtain⟨b1,b2⟩:=xG (yC P2.chk P2.sub.range)
  unfold JL
  rw [w64 (by omega) (by omega),i_,htids]
  by_cases hlow:(nd (fN N2) k).elems.length+(nd (fN N2) k).kids.length<4
  · have wc:=f.turn (G6 (fN N2) h k) (fun a t' s'' ha x=>⟨((other a ha x.1).1).weak (by omega),fun _=>⟨(other a ha x.1).1,by rw [(other a ha x.1).2.2.2];exact x.2⟩⟩) [k] [] [g] ⟨k,_,rfl,rfl,⟨P2.sub,fun hne=>absurd rfl hne⟩⟩
    have wc' : Ch (G6 (fN N2) h k) n.seps s n.kids (TA++g::TB):=by rw [f.seps,f.kids];simpa using wc
    have hev : ∀ z:Nat,z+1<n.kids.length→(n.kids[z]? = some k∨n.kids[z+1]? = some k)→(bif ((A.length:Int) == (IntKind.i64.wrap ((n.kids.length:Int)-1))) then some (IntKind.i64.wrap ((A.length:Int)-1)) else some (A.length:Int):Option Int)=some (z:Int) →
     ∃ K X T N3,Cr F n (A.length:Int) g N2=some (K,X,T,N3)∧EvenPost N2 N3 h s n K X T:=fun z z1 z2 z3 =>
     Jt P2.chk (by omega) (by rw [i_];exact htids) z1 h8 hsl (by simp;omega) z2 z3 L.ord L.ok wc' m2 hlow
    have hAk:n.kids[A.length]? = some k:=by rw [f.kids,p7 (q_ _)];simp
    obtain⟨K,X,T,N3,e1,e2⟩ : ∃ K X T N3,Cr F n (A.length:Int) g N2=some (K,X,T,N3)∧EvenPost N2 N3 h s n K X T:=by
     by_cases hB:B.length=0
     · refine hev (A.length-1) (by omega) (.inr (by rw [show A.length-1+1=A.length by omega];exact hAk)) ?_
       rw [w64 (by omega) (by omega),show ((A.length:Int) == (n.kids.length:Int)-1)=true by rw [beq_iff_eq];omega,cond_true,w64 (by omega) (by omega)]
       congr 1;omega
     · refine hev A.length (by omega) (.inl hAk) ?_
       rw [w64 (by omega) (by omega),show ((A.length:Int) == (n.kids.length:Int)-1)=false by rw [beq_eq_false_iff_ne];omega,cond_false]
    refine⟨K,X,T,N3,?_,e2⟩
    rw [decide_eq_true (by omega),cond_true,e1,obs]
  · have hsub4:vm (fN N2) h k 4 s':=P2.sub.count P2.chk (by omega)
    have cc:=f.turn (AJ (fN N2) h) (fun a t' s'' ha x=>⟨(other a ha x.1).1,by rw [(other a ha x.1).2.2.2];exact x.2⟩) [k] [] [g] ⟨k,_,rfl,rfl,⟨hsub4,hg.symm⟩⟩
    refine⟨n.kids,n.seps,TA++g::TB,N2,?_,⟨rfl,fun _ _=>rfl,P2.chk,by rw [f.seps,f.kids];simpa using cc,by omega,q_ _,L.ord,L.ok,⟨[],by simp,by simp⟩,rfl⟩⟩
    rw [decide_eq_false (by omega),cond_false]
 obtain⟨K,X,T,N3,hM,E⟩:=hE
 have hlen3:N3.length=N.length:=by rw [E.len,hlen2]
 refine⟨N3,K,X,T,?_,⟨hlen3,?_,fun j hj=>?_,E.chk,E.ch,E.more,E.few,E.ord,E.ok,?_,?_⟩⟩
 · show B5 F sp (ql (B5 F sp) mf) (N,i)=_
   generalize ql (B5 F sp) mf=rf at hrun
   have hix:idx n.kids (A.length:Int)=some k:=by rw [f.kids];exact wM _ _ _
   have hit:idx n.tids (A.length:Int)=some t:=by rw [f.tids,← hta];exact wM _ _ _
   unfold B5
   dsimp only
   rw [hnode,obs,hk2,show ((2:Int) == 1)=false from rfl,cond_false,xR n _ (wt (vM hk2 L)),obs,hw,hix,obs,hrun,obs,obs,P2.sub.node.1,obs,hgr,obs,hit,obs,← hg,hM,obs]
   dsimp only
   rw [yz (by rw [hlen3];exact hr),obs,L.elems]
 · rw [E.out _ hi2,P2.out _ (by rw [q2];exact d1)]
 · rw [hids,j_,not_or] at hj
   rw [E.out j (fun hh=>hj.2 (hsub j hh)),hout2 j hj.1 (fun hh=>hj.2 (by rw [hflN];simp [hh]))]
 · obtain⟨Z3,hZ3,hz3⟩:=E.perm
   refine⟨Z2++Z3,?_,fun j hj=>?_⟩
   · rw [H_]
     exact hperm.trans (hZ3.append_left _)
   · rcases g_.1 hj with hj | hj
     · rw [E.out j (fun hh=>m3 j hj j hh rfl)];exact hz2 j hj
     · exact hz3 j hj
 · rw [E.elems,f.kids,a_,d_,a_,d_,m4,m4,(flat A fun a ha=>.inl ha).2,(flat B fun a ha=>.inr ha).2,P2.elems,q3]
theorem GW {sp:DSpot}{N N3:NL}{h:Nat}{i:Int}{s:Span}{m:Nat}{K:List Int}{X:List DSpot}{T:List Int}(hl:N.length≤400)(c:vm (fN N) (h+1) i m s)(hc:wv N)(hn:(ids (fN N) (h+1) i).Nodup)(M:RemMid sp N N3 h i s (nd (fN N) i) K X T)(h2:2≤K.length) :
 RemPost sp N (jo N3 i ⟨2,[],K,X,T⟩) (h+1) i s m:=by
 have L:=c.inner hc
 have hr:=c.range
 rw [vd] at hr
 have hmk:=c.2.2.1
 have hids:ids (fN N) (h+1) i=i.toNat::(nd (fN N) i).kids.flatMap (ids (fN N) h):=rfl
 have hels:uS (fN N) (h+1) i=(nd (fN N) i).kids.flatMap (uS (fN N) h):=rfl
 obtain⟨Z,hZ,hz⟩:=M.perm
 have hmore:=M.more
 have hfew:=M.few
 rw [hids] at hn
 obtain⟨n1,n2⟩:=O_.1 hn
 have hik:i.toNat ∉ K.flatMap (ids (fN N3) h):=fun hh=>n1 (hZ.mem_iff.2 (U_ _ hh))
 have hck:=vM (n:=⟨2,[],K,X,T⟩) rfl (xj M.chk (by rw [M.len];exact hl) M.ch h2 (by have:=L.eight;omega) M.ord M.ok)
 have hnd:nd (fN (jo N3 i ⟨2,[],K,X,T⟩)) i=⟨2,[],K,X,T⟩:=Bz (by rw [M.len];exact hr)
 obtain⟨a1,a2,a3⟩:=ww (N':=jo N3 i ⟨2,[],K,X,T⟩) (by rw [uZ];exact q_ _) M.ch fun j hj=>vj N3 (show j≠i.toNat from fun h=>hik (by rw [← h];exact hj))
 refine⟨by rw [uZ,M.len],fun j hj=>?_,M.chk.put hck,⟨?_,by rw [hnd],by rw [hnd];show m-1≤K.length;omega,by rw [hnd];exact a1⟩,⟨Z,?_,fun j hj=>?_⟩,?_⟩
 · have:=M.out j hj
   rw [hids,j_,not_or] at hj
   rw [vj N3 hj.1,this]
 · rw [vd,uZ,M.len];exact hr
 · rw [hids,ids,hnd]
   show List.Perm _ (Z++i.toNat::K.flatMap _)
   rw [a2]
   exact(List.Perm.cons _ hZ).trans o6.symm
 · rw [vj N3 (show j≠i.toNat from fun e=>n1 (hZ.mem_iff.2 (M_ _ (by rw [← e];exact hj))))]
   exact hz j hj
 · rw [hels,uS,hnd,← M.elems]
   exact a3
theorem FA (sp:DSpot):∀ h,H3 F sp h:=by
 intro h
 induction h with
 | zero=>exact I0 sp
 | succ h ih =>
  intro mf N i m s hm hc hl h3 c hn hs
  obtain⟨mf,rfl⟩ : ∃ q,mf=q+1:=⟨mf-1,by omega⟩
  obtain⟨N3,K,X,T,h1,M⟩:=GV (mf:=mf) ih (by omega) hc hl c hn hs
  have h4:m≤(nd (fN N) i).kids.length:=c.2.2.1
  have h5:=M.more
  exact⟨_,h1,GW hl c hc hn M (by omega)⟩
end
section
variable {F:Nat}
theorem DV {α:Type}(x:Option α):(x.bind fun z=>some z)=x:=by cases x <;> rfl
theorem De (root:Int)(N:NL)(i:Int)(e:DElem):jL F root N i e=ql (zk F e) F (N,i):=DV _
theorem Hu (root:Int)(N:NL)(i:Int)(e:DElem):kv F root N i e=ql (Ar F e) F (N,i):=by
 refine Eq.trans ?_ (DV (ql (Ar F e) F (N,i)))
 refine congrArg (fun g=>(ql g F (N,i)).bind fun z=>some z) (funext fun rf=>funext fun x=>?_)
 rfl
theorem J1 (root:Int)(N:NL)(e:DElem):kT F root N e=FN F e N root:=by
 unfold kT FN
 rw [Hu]
 rfl
theorem Ax (N:NL)(i:Int):(iT N i).length=N.length:=m9
theorem JK {N:NL}{a b:Int}{x y:DNode}(h:a.toNat≠b.toNat):jo (jo (iT (iT N a) b) a x) b y=jo (jo (iT N a) a x) b y:=by
 unfold jo
 rw [show iT (iT N a) b=(iT N a).set b.toNat (.inl ((((iT N a)[b.toNat]?).map rX).getD 0)) from rfl,List.set_comm _ _ (Ne.symm h),C1]
theorem GL {N M:NL}{i:Int}(h:N.length=M.length):kH N i=kH M i:=by unfold kH;rw [h]
theorem Kj {N:NL}{a b:Int}{n:DNode}(h:kh (iT N a) b=some n):a.toNat≠b.toNat:=fun e=>by
 obtain⟨_,h2⟩:=nh h
 rw [← e] at h2
 have hl:a.toNat<N.length:=by
  have:=(ggs.1 h2).1
  rwa [Ax] at this
 unfold iT at h2
 rw [List.getElem?_set_self hl] at h2
 cases h2
theorem Jz (n m:DNode)(s:DSpot):mb n.kind n.elems n.kids n.seps n.tids m.kind m.elems m.kids m.seps m.tids s=Fc n m s:=rfl
theorem Js (root:Int)(n:DNode)(r10 r11:Int)(N:NL):kw F root N n.kind n.elems n.kids n.seps (n.tids.set r10.toNat r11) r10=(Cr F n r10 r11 N).bind fun z=>some (z.2.2.2,z.1,z.2.1,z.2.2.1):=by
 unfold kw Cr
 rw [F_]
 refine congrArg (f_ _) (funext fun z=>?_)
 rw [F_]
 refine congrArg (f_ _) (funext fun a=>?_)
 rw [F_]
 refine congrArg (f_ _) (funext fun b=>?_)
 rw [F_]
 cases h1:kh N a with
 | none=>rfl
 | some n1 =>
 rw [obs,obs,F_]
 cases h2:kh (iT N a) b with
 | none=>rfl
 | some n2 =>
 have hne:=Kj h2
 rw [obs,obs,F_]
 refine congrArg (f_ _) (funext fun x=>?_)
 rw [F_,Jz]
 refine congrArg (f_ _) (funext fun X=>?_)
 rw [F_]
 have hh : ∀ q,kH (iT (iT N a) b) q=kH (iT N a) q:=fun q=>GL (Ax _ _)
 have hp : ∀ q y,kH (jo (iT (iT N a) b) a y) q=kH (jo (iT N a) a y) q:=fun q y=>GL (by rw [uZ,uZ,Ax])
 simp only [hh,hp,JK hne]
 refine Eq.trans (b:=(IM F n r10 r11 N z a b n1 n2 X).bind fun z'=>(kh z'.2.2.2 a).bind fun n7=>(jl F n7).bind fun r24=>(idx z'.2.2.1 z).bind fun _=>some (z'.2.2.2,z'.1,z'.2.1,z'.2.2.1.set z.toNat r24)) rfl ?_
 refine congrArg (f_ _) (funext fun q=>?_)
 obtain⟨q1,q2,q3,q4⟩:=q
 dsimp only
 rw [F_]
 refine congrArg (f_ _) (funext fun n7=>?_)
 rw [F_]
 refine congrArg (f_ _) (funext fun g=>?_)
 rw [F_]
 rfl
set_option maxHeartbeats 4000000 in
theorem HP (root:Int)(N:NL)(i:Int)(s:DSpot):km F root N i s=ql (B5 F s) F (N,i):=by
 refine Eq.trans ?_ (DV (ql (B5 F s) F (N,i)))
 refine congrArg (fun g=>(ql g F (N,i)).bind fun z=>some z) (funext fun rf=>funext fun x=>?_)
 obtain⟨x1,x2⟩:=x
 show f_ (kh x1 x2) _=f_ (kh x1 x2) _
 cases kh x1 x2 with
 | none=>rfl
 | some n =>
 rw [obs,obs]
 refine congr (congrArg (fun a b=>bif n.kind == 1 then a else b) ?_) ?_
 · exact congrArg (fun q=>f_ q _) (show _=Jo F n.elems s from rfl)
 · refine congrArg (f_ _) (funext fun w=>?_)
   refine congrArg (f_ _) (funext fun k=>?_)
   refine congrArg (f_ _) (funext fun N2=>?_)
   refine congrArg (f_ _) (funext fun k2=>?_)
   refine congrArg (f_ _) (funext fun n4=>?_)
   refine congrArg (f_ _) (funext fun g=>?_)
   refine congrArg (f_ _) (funext fun t=>?_)
   refine congrFun (congrArg f_ ?_) _
   unfold JL
   cases decide ((IntKind.i64.wrap ((n4.elems.length:Int)+(n4.kids.length:Int)))<4) with
   | false=>rfl
   | true =>
    rw [cond_true,cond_true,Js,F_]
    refine congrArg (f_ _) (funext fun q=>?_)
    obtain⟨q1,q2,q3,q4⟩:=q
    rfl
theorem J2 (root:Int)(N:NL)(s:DSpot):mw F root N s=HE F s N root:=by
 unfold mw HE
 rw [HP]
end
section
variable {F:Nat} [Big F]
theorem Ec {n:DNode}(h:vq n=0):oN n=some n:=by
 obtain⟨h1,h2⟩:=xG h
 have h3:n.seps.length≤8∧n.tids.length≤8:=by
  rcases vz.1 h with h | h | h
  · rw [h.2.2.2.1,h.2.2.2.2];simp
  · rw [h.2.seps,h.2.tids];simp
  · have:=h.2.seps;have:=h.2.tids;omega
 unfold oN
 rw [vn (by simp;omega) (by simp;omega),obs,vn (by simp;omega) (by simp;omega),obs,vn (by simp;omega) (by simp;omega),obs,vn (by simp;omega) (by simp;omega),obs]
 rfl
theorem B7 {N:NL}(h : ∀(j:Nat) (k:Int),N[j]?≠some (.inl k)):qt N=some (fN N):=by
 have e:N=(fN N).map y_:=List.ext_getElem? fun j=>by
  rw [g6,zm]
  cases hj:N[j]? with
  | none=>rfl
  | some x =>
   cases x with
   | inl k=>exact absurd hj (h j k)
   | inr n=>rfl
 conv=>lhs;rw [e]
 exact ur _
theorem ye {t:DTree}(hl:t.nodes.length≤400)(hc : ∀ n∈t.nodes,vq n=0):mI F t=some t:=by
 unfold mI
 rw [vE (fun k=>((t.nodes.take k).map (y_:DNode→Int ⊕ DNode),(k:Int))) t.nodes.length (by simp) (by omega) (fun k hk=>?_) (r:=t.nodes.map y_) ?_,obs,ur,obs]
 · dsimp only
   rw [decide_eq_false (by omega),cond_false,n9]
 · have hg:t.nodes[k]? = some t.nodes[k]:=gge hk
   have hr:rY 104 (((t.nodes.take k).map (y_:DNode→Int ⊕ DNode)).length+1)=some ():=by
    unfold rY;rw [o_,p_,if_pos ⟨by omega,by unfold maxLen;omega⟩]
   dsimp only
   rw [decide_eq_true (by omega),cond_true,uX,hg,obs,Ec (hc _ (t5 _)),obs,hr,obs,w64 (by omega) (by omega),R_,hg,S_]
   rfl
def nlT (t:DTree):NL:=t.nodes.map y_
theorem wb (t:DTree):fN (nlT t)=t.nodes:=J6 _
theorem BA {t:DTree}{j:Nat}{x:Int ⊕ DNode}(h:(nlT t)[j]? = some x):∃ n,t.nodes[j]? = some n∧x = .inr n:=by
 unfold nlT at h
 rw [g6] at h
 obtain⟨n,hn,rfl⟩:=B1.1 h
 exact⟨n,hn,rfl⟩
theorem Cu {t:DTree}{h:Nat}(g:Good t h):wv (nlT t):=fun n hn=>by rw [wb] at hn;exact g.chk n hn
theorem zp {t:DTree}{h:Nat}(g:Good t h):vm (fN (nlT t)) h t.root (mOf 0 h) topS:=by
 rw [wb];exact(Ce g.chk h t.root 0 topS (Z_ _)).1 g.ok
theorem EX {α:Type}{p:α→Bool}:∀ {N:List α} {K:List Nat},K.Nodup→(∀(j:Nat) (x:α),N[j]? = some x→p x=true→j∈K)→N.countP p≤K.length
 | [],K,_,_=>W_ _
 | a::N,K,hn,h=>by
  have hK : ∀(j:Nat) (x:α),N[j]? = some x→p x=true→j∈(K.filter (fun j=>j != 0)).map (· - 1):=fun j x hx hp =>
   T_.2 ⟨j+1,Q_.2 ⟨h (j+1) x (by simpa using hx) hp,by simp⟩,by simp⟩
  have hnd:((K.filter (fun j=>j != 0)).map (· - 1)).Nodup:=by
   unfold List.Nodup
   rw [p6]
   refine((hn.filter _).imp_of_mem fun {a b} ha hb hab e=>hab ?_)
   have h1:=(Q_.1 ha).2
   have h2:=(Q_.1 hb).2
   simp only [bne_iff_ne,ne_eq] at h1 h2
   omega
  have ih:=EX hnd hK
  rw [o_] at ih
  rw [o5]
  by_cases hp:p a=true
  · have h0:0∈K:=h 0 a rfl hp
    have hlt:(K.filter (fun j=>j != 0)).length<K.length:=List.length_filter_lt_length_iff_exists.2 ⟨0,h0,by simp⟩
    rw [if_pos hp];omega
  · have:=t9 (fun j=>j != 0) K
    rw [if_neg hp];omega
theorem Hm {t:DTree}{h:Nat}(g:Good t h):used (nlT t)≤(ids t.nodes h t.root).length:=by
 refine EX g.nodup fun j x hx hp=>?_
 obtain⟨n,hn,rfl⟩:=BA hx
 have hlt:=(ggs.1 hn).1
 exact g.all j hlt (by rw [Bb hn];exact xI.1 hp)
theorem Ju {ns:List DNode}(hns : ∀ n∈ns,vq n=0):∀ {h:Nat} {i:Int} {s:Span},vm ns h i 4 s→3*(ids ns h i).length+1≤(uS ns h i).length:=by
 intro h
 induction h with
 | zero =>
  intro i s c
  have:=c.2.2.1
  simp only [ids,uS,v_];omega
 | succ h ih =>
  intro i s c
  rw [ids,uS,l9,v4,v4]
  have key : ∀ l:List Int,(∀ k∈l,3*(ids ns h k).length+1≤(uS ns h k).length)→3*(l.map fun a=>(ids ns h a).length).sum+l.length≤(l.map fun a=>(uS ns h a).length).sum:=by
   intro l
   induction l with
   | nil=>intro _;simp
   | cons a l ihl =>
    intro hk
    have:=ihl fun k h=>hk k (E_ _ h)
    have:=hk a l_
    simp only [v5,List.sum_cons,l9];omega
  have:=key (nd ns i).kids fun k hk=>by obtain ⟨t,s',x,_⟩:=c.2.2.2.mem k hk;exact ih x.1
  have:=c.2.2.1
  omega
theorem Iw {t:DTree}{h:Nat}(g:Good t h)(hl:(uS t.nodes h t.root).length≤400):(ids t.nodes h t.root).length≤134∧h<134:=by
 have hh:=Ao g.chk h t.root 0 topS g.ok
 have c:=zp g
 rw [wb] at c
 have:(ids t.nodes h t.root).length≤134:=by
  cases h with
  | zero=>simp [ids]
  | succ h =>
   have key : ∀ l:List Int,(∀ k∈l,3*(ids t.nodes h k).length+1≤(uS t.nodes h k).length)→3*(l.map fun a=>(ids t.nodes h a).length).sum+l.length≤(l.map fun a=>(uS t.nodes h a).length).sum:=by
    intro l
    induction l with
    | nil=>intro _;simp
    | cons a l ihl =>
     intro hk
     have:=ihl fun k h=>hk k (E_ _ h)
     have:=hk a l_
     simp only [v5,List.sum_cons,l9];omega
   have h1:=key (nd t.nodes t.root).kids fun k hk=>by obtain ⟨t',s',x,_⟩:=c.2.2.2.mem k hk;exact Ju g.chk x.1
   have h2:2≤(nd t.nodes t.root).kids.length:=by have:=c.2.2.1;unfold mOf at this;simpa using this
   rw [uS,v4] at hl
   rw [ids,l9,v4]
   omega
 omega
theorem Cb {N:NL}{h:Nat}{root:Int}(hc:wv N)(hl:N.length≤400)(c:vm (fN N) h root (mOf 0 h) topS)(hn:(ids (fN N) h root).Nodup)(hall : ∀(j:Nat) (x:Int ⊕ DNode),N[j]? = some x→rX x≠0→j∈ids (fN N) h root):Good ⟨root,fN N⟩ h:=by
 refine⟨by show (fN N).length≤400;rw [vd];exact hl,hc,(Ce hc h root 0 topS (Z_ _)).2 c,hn,fun i hi hk=>?_⟩
 have hi' : i<(fN N).length:=hi
 rw [vd] at hi'
 have hg:N[i]? = some N[i]:=gge hi'
 refine hall i _ hg fun h0=>hk ?_
 have:nd (fN N) (i:Int)=fN1 N[i]:=by unfold nd;rw [i_,zm,hg];rfl
 rw [this]
 cases hx:N[i] with
 | inl k=>rfl
 | inr n=>rw [hx] at h0;exact h0
theorem Ke (d:Int)(h:Nat):mOf d h≤4:=by
 unfold mOf
 split
 · exact q_ _
 · split <;> omega
theorem Fp {t:DTree}{h:Nat}(g:Good t h){N' : NL}{K:List Nat}{c:Nat}(f:Fr2 (nlT t) N' (ids (fN (nlT t)) h t.root) K c)(hK : ∀ j∈K,∃ n:DNode,N'[j]? = some (.inr n)∧n.kind≠0):∀(j:Nat) (k:Int),N'[j]?≠some (.inl k):=fun j k hj=>by
 have hold : ∀(j:Nat) (x:Int ⊕ DNode),(nlT t)[j]? = some x→rX x≠0→j∈ids (fN (nlT t)) h t.root:=fun j x hx hk=>by
  obtain⟨n,hn,rfl⟩:=BA hx
  rw [wb]
  exact g.all j (ggs.1 hn).1 (by rw [Bb hn];exact hk)
 by_cases hk:k=0
 · subst hk
   obtain⟨n,_,h⟩:=BA (f.zero j hj)
   cases h
 · rcases f.all j _ hj hk with h | ⟨h,y,hy,hyk⟩
   · obtain⟨n,hn,_⟩:=hK j h
     rw [hn] at hj;cases hj
   · exact h (hold j y hy hyk)
theorem GG {t:DTree}{h:Nat}(g:Good t h){N' : NL}{K:List Nat}{c:Nat}(f:Fr2 (nlT t) N' (ids (fN (nlT t)) h t.root) K c):∀(j:Nat) (x:Int ⊕ DNode),N'[j]? = some x→rX x≠0→j∈K:=fun j x hx hk=>by
 rcases f.all j x hx hk with h | ⟨h,y,hy,hyk⟩
 · exact h
 · obtain⟨n,hn,rfl⟩:=BA hy
   exact absurd (by rw [wb];exact g.all j (ggs.1 hn).1 (by rw [Bb hn];exact hyk)) h
theorem G7 {t:DTree}{h:Nat}{e:DElem}(g:Good t h)(he:vb e=0)(hne : ∀ x∈uS t.nodes h t.root,uU x≠uU e)(hl:(uS t.nodes h t.root).length≤400) :
 ∃(root:Int) (N:NL),FN F e (nlT t) t.root=some (root,N)∧qt N=some (fN N)∧∃ h',Good ⟨root,fN N⟩ h'∧uS (fN N) h' root=Ga (uS t.nodes h t.root) e:=by
 obtain⟨f1,f2⟩:=Iw g hl
 have hu:=Hm g
 have hF:=(inferInstance:Big F).le
 have c:=zp g
 have hsort:=(wB g.chk h t.root 0 topS g.ok).1
 have hlen:(nlT t).length≤400:=by unfold nlT;rw [o_];exact g.len
 obtain⟨N',sp,r,b,hrun,hpost⟩:=Iz (F:=F) he h F (nlT t) t.root (mOf 0 h) topS (by omega) (Cu g) hlen (by omega) c (by rw [wb];exact g.nodup) rfl (by rw [wb];exact hne)
 have sorted : ∀ {ns:List DNode} {h' : Nat} {root:Int},Good ⟨root,ns⟩ h'→(∀ x,x∈uS ns h' root↔x=e∨x∈uS t.nodes h t.root)→uS ns h' root=Ga (uS t.nodes h t.root) e:=fun {ns h' root} gg hm=>by
  refine Es (wB gg.chk h' root 0 topS gg.ok).1 (BR hsort e) fun x=>?_
  rw [hm x,Fm]
  constructor
  · rintro(h | h)
    · exact .inl h
    · exact .inr ⟨h,hne x h⟩
  · rintro(h | h)
    · exact .inl h
    · exact .inr h.1
 unfold FN
 rw [hrun,obs]
 dsimp only
 rcases hpost with ⟨rfl,P⟩ | ⟨rfl,hsp,P⟩
 · obtain⟨k,t',e1,e2,x⟩:=P.ch
   obtain rfl:t.root=k:=by simpa using e1
   have hK : [t.root].flatMap (ids (fN N') h)=ids (fN N') h t.root:=x_ ..
   have fr:=P.fr
   rw [hK] at fr
   have hcap:N'.length≤400:=by have:=fr.cap;have:=fr.use;omega
   have gg:=Cb fr.chk hcap x.1 fr.nodup (GG g fr)
   refine⟨t.root,N',rfl,B7 (Fp g fr x.1.used),h,gg,sorted gg fun y=>?_⟩
   have:=P.elems y
   rw [x_,wb] at this
   exact this
 · obtain⟨k,ks',t',ts',e1,e2,i1,x,k2,t2,e3,e4,y⟩:=P.ch
   obtain⟨rfl,rfl⟩ : t.root=k∧[r]=ks':=by simpa using e1
   obtain rfl:r=k2:=by simpa using e3
   have hK : [t.root,r].flatMap (ids (fN N') h)=ids (fN N') h t.root++ids (fN N') h r:=by simp
   have fr:=P.fr
   rw [hK] at fr
   have hcap:N'.length≤400:=by have:=fr.cap;have:=fr.use;omega
   have hKu : ∀ q∈ids (fN N') h t.root++ids (fN N') h r,∃ n:DNode,N'[q]? = some (.inr n)∧n.kind≠0:=fun q hq=>by
    rcases g_.1 hq with hq | hq
    · exact x.1.used q hq
    · exact y.1.used q hq
   obtain⟨N2,j,hT,tk⟩:=FJ (F:=F) (N:=N') ⟨2,[],[t.root,r],[sp],[ve (nd (fN N') t.root),ve (nd (fN N') r)]⟩ (by omega)
   have cc:Ch (AJ (fN N') h) [sp] topS [t.root,r] [ve (nd (fN N') t.root),ve (nd (fN N') r)]:=⟨t.root,[r],_,_,rfl,rfl,i1,⟨x.1,rfl⟩,r,_,rfl,rfl,⟨y.1,rfl⟩⟩
   have hck:=vM (n:=⟨2,[],[t.root,r],[sp],[ve (nd (fN N') t.root),ve (nd (fN N') r)]⟩) rfl (xj fr.chk hcap cc (by simp) (by simp) (List.pairwise_singleton _ _) (by simpa using hsp))
   have fr2:=fr.take tk (BH _ _ _ _) hck fun q hq=>by obtain ⟨n,hn,hk⟩:=hKu q hq;exact⟨_,hn,hk⟩
   have hlen2:N'.length≤N2.length:=by rcases tk.len with h | ⟨h,_⟩ <;> omega
   have hjK : ∀ q∈ids (fN N') h t.root++ids (fN N') h r,N2[q]? = N'[q]?:=fun q hq=>tk.same q fun e=>by
    subst e
    obtain⟨n,hn,hk⟩:=hKu q hq
    exact absurd (tk.free _ hn) hk
   obtain⟨a1,a2,a3⟩:=ww hlen2 cc fun q hq=>hjK q (by rw [hK] at hq;exact hq)
   have hnd:nd (fN N2) (j:Int)=⟨2,[],[t.root,r],[sp],[ve (nd (fN N') t.root),ve (nd (fN N') r)]⟩:=zg (by rw [i_];exact tk.at_)
   have hjl:j<N2.length:=(ggs.1 tk.at_).1
   have hids:ids (fN N2) (h+1) (j:Int)=j::(ids (fN N') h t.root++ids (fN N') h r):=by
    rw [ids,hnd,i_]
    show j::[t.root,r].flatMap _=_
    rw [a2,hK]
   have sub:vm (fN N2) (h+1) (j:Int) (mOf 0 (h+1)) topS:=⟨by rw [vd];omega,by rw [hnd],by rw [hnd];unfold mOf;simp,by rw [hnd];exact a1⟩
   rw [← hids] at fr2
   have hcap2:N2.length≤400:=by have:=fr2.cap;have:=fr2.use;omega
   have gg:=Cb fr2.chk hcap2 sub fr2.nodup (GG g fr2)
   refine⟨(j:Int),N2,?_,B7 (Fp g fr2 sub.used),h+1,gg,sorted gg fun z=>?_⟩
   · rw [v6,cond_false,x.1.node.1,obs,y.1.node.1,obs,vX fr.chk x.1.range,obs,vX fr.chk y.1.range,obs,Et,hT,obs]
   · have:=P.elems z
     rw [wb] at this
     rw [← this,uS,hnd]
     show z∈[t.root,r].flatMap _↔_
     rw [a3]
theorem Co {t:DTree}{h:Nat}{e:DElem}(g:Good t h)(he:vb e=0) :
 ∃ N:NL,ql (zk F e) F (nlT t,t.root)=some N∧qt N=some (fN N)∧Good ⟨t.root,fN N⟩ h∧uS (fN N) h t.root=(uS t.nodes h t.root).map (wT e):=by
 have hF:=(inferInstance:Big F).le
 have hh:=xz g
 obtain⟨N,hrun,P⟩:=Ie (F:=F) he h F (nlT t) t.root (mOf 0 h) topS (by omega) (Cu g) (zp g) (by rw [wb];exact g.nodup) rfl
 have hn:(ids (fN N) h t.root).Nodup:=by rw [P.ids,wb];exact g.nodup
 have hin : ∀(j:Nat) (x:Int ⊕ DNode),N[j]? = some x→(∃ n,x = .inr n)∧(rX x≠0→j∈ids (fN N) h t.root):=fun j x hx=>by
  by_cases hj:j∈ids (fN N) h t.root
  · obtain⟨n,hn,_⟩:=P.sub.used j hj
    rw [hn] at hx
    exact⟨⟨n,(u_.inj hx).symm⟩,fun _=>hj⟩
  · rw [P.out j (by rw [← P.ids];exact hj)] at hx
    obtain⟨n,hn,rfl⟩:=BA hx
    exact⟨⟨n,rfl⟩,fun hk=>by
     rw [P.ids,wb]
     exact g.all j (ggs.1 hn).1 (by rw [Bb hn];exact hk)⟩
 refine⟨N,hrun,B7 fun j k hj=>?_,Cb P.chk ?_ P.sub hn fun j x hx=>(hin j x hx).2,?_⟩
 · obtain⟨⟨n,hn⟩,_⟩:=hin j _ hj
   cases hn
 · rw [P.len];unfold nlT;rw [o_];exact g.len
 · rw [P.elems,wb]
theorem Hh {α β:Type}(f:α→List β){l:List α}{k:Nat}(hk:k<l.length):(l.take (k+1)).flatMap f=(l.take k).flatMap f++f l[k]∧((l.take k).flatMap f).length+(f l[k]).length≤(l.flatMap f).length:=by
 have h1:(l.take (k+1)).flatMap f=(l.take k).flatMap f++f l[k]:=by
  rw [R_,gge hk,a_];simp
 refine⟨h1,?_⟩
 have h2:l.flatMap f=(l.take (k+1)).flatMap f++(l.drop (k+1)).flatMap f:=by rw [← a_,D_]
 rw [h2,h1,t_,t_];omega
theorem Dm {t:DTree}{h:Nat}(g:Good t h):(uS t.nodes h t.root).Pairwise SpO:=(wB g.chk h t.root 0 topS g.ok).1
theorem zK {t:DTree}{h:Nat}(g:Good t h):∀ n∈t.nodes,Small n:=fun n hn=>wt (g.chk n hn)
def zT:DTree:=⟨0,[]⟩
def newT:DTree:=⟨0,[⟨1,[],[],[],[]⟩]⟩
theorem zU:Good newT 0:=by
 have hc:vq ⟨1,[],[],[],[]⟩=0:=vz.2 (.inr (.inl ⟨rfl,⟨rfl,rfl,rfl,W_ _,fun e he=>(by cases he),List.Pairwise.nil⟩⟩))
 refine⟨by simp [newT],fun n hn=>?_,⟨⟨by decide,by simp [newT]⟩,rfl,fun h=>absurd h (by decide),fun x hx=>(by cases hx)⟩,by simp [newT,ids],fun i hi _=>?_⟩
 · obtain rfl:n=⟨1,[],[],[],[]⟩:=by simpa [newT] using hn
   exact hc
 · simp [newT,ids] at hi ⊢;exact hi
end
section
variable {F:Nat} [Big F]
theorem zH {t:DTree}{h h' : Nat}{root' : Int}{N' : NL}(g:Good t h)(len:N'.length=(nlT t).length)(out : ∀ j:Nat,j ∉ ids t.nodes h t.root→N'[j]? = (nlT t)[j]?)(chk:wv N')(sub:vm (fN N') h' root' (mOf 0 h') topS)
 (perm : ∃ Z,(ids t.nodes h t.root).Perm (Z++ids (fN N') h' root')∧∀ j∈Z,N'[j]? = some (.inr zN)):qt N' = some (fN N')∧Good ⟨root',fN N'⟩ h':=by
 obtain⟨Z,hZ,hz⟩:=perm
 have key : ∀(j:Nat) (x:Int ⊕ DNode),N'[j]? = some x→(∃ n,x = .inr n)∧(rX x≠0→j∈ids (fN N') h' root'):=fun j x hx=>by
  by_cases hj:j∈ids t.nodes h t.root
  · rcases g_.1 (hZ.mem_iff.1 hj) with hj | hj
    · rw [hz j hj] at hx
      obtain rfl:=u_.inj hx
      exact⟨⟨_,rfl⟩,fun hk=>absurd rfl hk⟩
    · obtain⟨n,hn,_⟩:=sub.used j hj
      rw [hn] at hx
      exact⟨⟨n,(u_.inj hx).symm⟩,fun _=>hj⟩
  · rw [out j hj] at hx
    obtain⟨n,hn,rfl⟩:=BA hx
    exact⟨⟨n,rfl⟩,fun hk=>absurd (g.all j (ggs.1 hn).1 (by rw [Bb hn];exact hk)) hj⟩
 refine⟨B7 fun j k hj=>?_,Cb chk ?_ sub ?_ fun j x hx=>(key j x hx).2⟩
 · obtain⟨⟨n,hn⟩,_⟩:=key j _ hj
   cases hn
 · rw [len];unfold nlT;rw [o_];exact g.len
 · exact(I_.1 (hZ.nodup_iff.1 g.nodup)).2.1
theorem Fy {N:NL}{i:Int}{n:DNode}(h:N[i.toNat]? = some (.inr n)):jo (iT N i) i n=N:=by
 refine List.ext_getElem? fun j=>?_
 by_cases hj:j=i.toNat
 · subst hj
   rw [vK _ (by rw [uW];exact(ggs.1 h).1),h]
 · rw [vj _ hj,vA _ hj]
theorem HF {t:DTree}{h:Nat}{sp:DSpot}(g:Good t h) :
 ∃(root:Int) (N:NL),HE F sp (nlT t) t.root=some (N,root)∧qt N=some (fN N)∧∃ h',Good ⟨root,fN N⟩ h'∧uS (fN N) h' root=(uS t.nodes h t.root).filter (xW sp):=by
 have hF:=(inferInstance:Big F).le
 have hfu:=xz g
 have hc:=Cu g
 have c:=zp g
 have hlen:(nlT t).length≤400:=by unfold nlT;rw [o_];exact g.len
 have hnd:(ids (fN (nlT t)) h t.root).Nodup:=by rw [wb];exact g.nodup
 have hr:=c.range
 rw [vd] at hr
 unfold HE
 cases h with
 | zero =>
  obtain⟨N',hrun,P⟩:=FA (F:=F) sp 0 F (nlT t) t.root 0 topS (by omega) hc hlen (.inl rfl) c hnd rfl
  have c' : vm (fN N') 0 t.root 0 topS:=P.sub
  have L:=c'.leaf P.chk
  obtain⟨q1,q2⟩:=c'.node
  obtain⟨r1,r2⟩:=zH g P.len (fun j hj=>P.out j (by rw [wb];exact hj)) P.chk c' (by obtain ⟨Z,hZ,hz⟩:=P.perm;rw [wb] at hZ;exact⟨Z,hZ,hz⟩)
  refine⟨t.root,N',?_,r1,0,r2,by rw [P.elems,wb]⟩
  rw [hrun,obs,q1,obs,L.kids,show (((([]:List Int).length:Int)) == 1)=false from rfl,cond_false,obs,Fy q2]
 | succ h =>
  obtain⟨f,hf⟩ : ∃ f,F=f+1:=⟨F-1,by omega⟩
  obtain⟨N3,K,X,T,hrun,M⟩:=GV (F:=F) (FA sp h) (mf:=f) (by omega) hc hlen c hnd rfl
  rw [← hf] at hrun
  have hids:ids t.nodes (h+1) t.root=t.root.toNat::(nd t.nodes t.root).kids.flatMap (ids t.nodes h):=rfl
  have hels:uS t.nodes (h+1) t.root=(nd t.nodes t.root).kids.flatMap (uS t.nodes h):=rfl
  have hMe:=M.elems
  obtain⟨Z,hZ,hz⟩:=M.perm
  rw [wb] at hMe hZ
  have hn1:=g.nodup
  rw [hids] at hn1
  obtain⟨n1,n2⟩:=O_.1 hn1
  have hl3:=M.len
  have h2:2≤(nd t.nodes t.root).kids.length:=by have:=c.2.2.1;rw [wb] at this;unfold mOf at this;simpa using this
  have hmore:=M.more
  rw [wb] at hmore
  have hget:(jo N3 t.root ⟨2,[],K,X,T⟩)[t.root.toNat]? = some (.inr ⟨2,[],K,X,T⟩):=vK _ (by rw [hl3];omega)
  have hnode:kh (jo N3 t.root ⟨2,[],K,X,T⟩) t.root=some ⟨2,[],K,X,T⟩:=by
   unfold kh
   rw [if_neg (by omega),hget];rfl
  rw [hrun,obs,hnode,obs]
  dsimp only
  by_cases h1:K.length=1
  · obtain⟨k,rfl⟩:=E0.1 h1
    obtain⟨X0,hX0⟩ : ∃ X0,X0=X:=⟨_,rfl⟩
    have hXl:=M.ch.lens.1
    obtain rfl:X=[]:=List.eq_nil_of_length_eq_zero (by simpa using hXl)
    obtain⟨k',t',e1,e2,q⟩:=M.ch
    obtain rfl:k=k':=by simpa using e1
    have hkn : ∀ j∈ids (fN N3) h k,j≠t.root.toNat:=fun j hj e=>n1 (hZ.mem_iff.2 (U_ _ (by rw [x_,← e];exact hj)))
    have hN:jo (iT (jo N3 t.root ⟨2,[],[k],[],T⟩) t.root) t.root zN=jo N3 t.root zN:=by
     unfold jo iT
     rw [C1,C1]
    obtain⟨a1,a2,a3,a4⟩:=vm.agree (N':=jo N3 t.root zN) (by rw [uZ];exact q_ _) q.1 fun j hj=>vj N3 (hkn j hj)
    rw [x_] at hMe hZ
    obtain⟨r1,r2⟩:=zH (root':=k) g (by rw [uZ];exact hl3) (fun j hj=>by
     have:=M.out j (by rw [wb];exact hj)
     rw [hids,j_,not_or] at hj
     rw [vj N3 hj.1,this]) (M.chk.put GE) (a1.weak (Ke 0 h)) ⟨t.root.toNat::Z,by rw [hids,a2];exact List.Perm.cons _ hZ,fun j hj=>by
     rcases j_.1 hj with rfl | hj
     · exact vK _ (by rw [hl3];omega)
     · rw [vj N3 (show j≠t.root.toNat from fun e=>n1 (hZ.mem_iff.2 (M_ _ (by rw [← e];exact hj))))]
       exact hz j hj⟩
    refine⟨k,jo N3 t.root zN,?_,r1,h,r2,by rw [a3,hMe,hels]⟩
    rw [show ((([k]:List Int).length:Int) == 1)=true from rfl,cond_true,yz (by rw [uW,uZ,hl3];exact hr),obs,show idx [k] 0=some k from rfl,obs,obs]
    dsimp only
    exact congrArg (fun q=>some (q,k)) hN
  · have P:=GW hlen c hc hnd M (by omega)
    have h2K:2≤K.length:=by omega
    have hck:=vM (n:=⟨2,[],K,X,T⟩) rfl (xj M.chk (by rw [hl3];exact hlen) M.ch h2K (by have:=M.few;rw [wb] at this;have:=(c.inner hc).eight;rw [wb] at this;omega) M.ord M.ok)
    have hnd2:=zg hget
    have c' : vm (fN (jo N3 t.root ⟨2,[],K,X,T⟩)) (h+1) t.root (mOf 0 (h+1)) topS :=
     ⟨P.sub.1,P.sub.2.1,by rw [hnd2];unfold mOf;simpa using h2K,P.sub.2.2.2⟩
    obtain⟨r1,r2⟩:=zH g P.len (fun j hj=>P.out j (by rw [wb];exact hj)) P.chk c' (by obtain ⟨Z,hZ,hz⟩:=P.perm;rw [wb] at hZ;exact⟨Z,hZ,hz⟩)
    refine⟨t.root,_,?_,r1,h+1,r2,by rw [P.elems,wb]⟩
    rw [show ((K.length:Int) == 1)=false by rw [beq_eq_false_iff_ne];omega,cond_false,obs,Fy hget]
theorem Km {l:List DElem}{r:Nat}{x:DElem}(ho:l.Pairwise SpO)(hx:l[r]? = some x):l.filter (xW (uU x))=l.take r++l.drop (r+1):=by
 obtain⟨hr,he⟩:=ggs.1 hx
 have e:=yW l hr
 rw [he] at e
 have hnx:xW (uU x) x=false:=by unfold xW;simp
 have ho':=ho
 rw [e] at ho'
 obtain⟨o1,o2,o3⟩:=z_.1 ho'
 conv=>lhs;rw [e]
 rw [m4,B3,if_neg (by rw [hnx];decide),Bc,Bc]
 · intro y hy hs
   have h1:cmpS (uU x) (uU y)<0:=(B_.1 o2).1 y hy
   rw [hs,vc.refl] at h1;omega
 · intro y hy hs
   have h1:cmpS (uU y) (uU x)<0:=o3 y hy x l_
   rw [hs,vc.refl] at h1;omega
end
end Go.Proofs.YtaoocidchclpnaaGreat
namespace Go.Proofs.YtaoocidchclpnaaGreat
set_option linter.unusedVariables false
set_option linter.unusedSimpArgs false
section walks
variable {τ α β:Type} {F:Nat}
def vV (t:τ→α→τ × Nat):List α→τ→τ × Nat
 | [],a=>(a,0)
 | e::l,a=>if (t a e).2=0 then vV t l (t a e).1 else t a e
theorem xU (t:τ→α→τ × Nat):∀(l m:List α) (a:τ),vV t (l++m) a=if (vV t l a).2=0 then vV t m (vV t l a).1 else vV t l a
 | [],m,a=>by simp [vV]
 | e::l,m,a=>by
  rw [t7,vV,vV]
  by_cases h:(t a e).2=0
  · rw [if_pos h,if_pos h,xU t l m]
  · rw [if_neg h,if_neg h,if_neg h]
theorem zG (t:τ→α→τ × Nat)(p:α→Bool):∀(l:List α) (a:τ),vV (fun st e=>if p e then t st e else (st,0)) l a=vV t (l.filter p) a
 | [],a=>rfl
 | e::l,a=>by
  rw [vV]
  by_cases h:p e=true
  · rw [if_pos h,E7 h,vV]
    by_cases h0:(t a e).2=0
    · rw [if_pos h0,if_pos h0,zG t p l]
    · rw [if_neg h0,if_neg h0]
  · rw [if_neg h,if_pos rfl,G0 h,zG t p l]
theorem yZ (t:τ→α→τ × Nat)(g:β→List α):∀(l:List β) (a:τ),vV (fun st k=>vV t (g k) st) l a=vV t (l.flatMap g) a
 | [],a=>rfl
 | b::l,a=>by
  rw [vV,d_,xU,yZ t g l]
theorem CL (t:τ→α→τ × Nat)(len:τ→Nat)(ht : ∀ a e,len (t a e).1≤len a+1):∀(l:List α) (a:τ),len (vV t l a).1≤len a+l.length
 | [],a=>q_ _
 | e::l,a=>by
  rw [vV,l9]
  have h1:=ht a e
  by_cases h:(t a e).2=0
  · rw [if_pos h]
    have:=CL t len ht l (t a e).1
    omega
  · rw [if_neg h];omega
theorem Dx {S R:Type}[Big F]{f:S→Option (S ⊕ R)}(t:τ→α→τ × Nat)(l:List α)(enc:τ→Int→S)(o0:τ→R)(o1:τ→Nat→R)(a:τ)(hn:l.length≤9223372036854775807){s:S}(h0:s=enc a 0)
 (hs : ∀(k:Nat) (e:α) (st:τ),l[k]? = some e→vV t (l.take k) a=(st,0)→f (enc st (k:Int))=some (lw (t st e).2 (.inl (enc (t st e).1 ((k:Int)+1))) (fun n=>.inr (o1 (t st e).1 n))))
 (he : ∀ st,vV t l a=(st,0)→f (enc st (l.length:Int))=some (.inr (o0 st))) :
 iter f F s=some (lw (vV t l a).2 (o0 (vV t l a).1) (fun n=>o1 (vV t l a).1 n)):=by
 subst h0
 have key : ∀(m k N:Nat) (st:τ),k+m=l.length→m<N→vV t (l.take k) a=(st,0)→iter f N (enc st (k:Int))=some (lw (vV t l a).2 (o0 (vV t l a).1) (fun n=>o1 (vV t l a).1 n)):=by
  intro m
  induction m with
  | zero =>
   intro k N st hk hN hr
   obtain⟨N,rfl⟩ : ∃ M,N=M+1:=⟨N-1,by omega⟩
   rw [g8 (by omega)] at hr
   rw [iter,show k=l.length by omega,he st hr,hr];rfl
  | succ m ih =>
   intro k N st hk hN hr
   obtain⟨N,rfl⟩ : ∃ M,N=M+1:=⟨N-1,by omega⟩
   have hkl:k<l.length:=by omega
   have hg:=gge hkl
   have hsplit:vV t l a=vV t (l[k]::l.drop (k+1)) st:=by
    have h1:=xU t (l.take k) (l.drop k) a
    rw [D_,hr,if_pos rfl,l7 hkl] at h1
    exact h1
   rw [iter,hs k l[k] st hg hr]
   rw [vV] at hsplit
   cases hz:(t st l[k]).2 with
   | zero =>
    rw [jP]
    refine ih (k+1) N _ (by omega) (by omega) ?_
    rw [R_,hg,xU,hr,if_pos rfl]
    show vV t [l[k]] st=_
    rw [vV,if_pos hz];rfl
   | succ n =>
    rw [if_neg (by omega)] at hsplit
    rw [j5,hsplit,hz,j5]
 exact key l.length 0 F a (by omega) (yB hn) rfl
end walks
def geB (s:DSpot)(e:DElem):Bool:=decide (0≤cmpS (uU e) s)
def wI (ns:List DNode)(s:DSpot):Nat→Int→List DElem
 | 0,_=>[]
 | m+1,i=>(nd ns i).elems.filter (geB s)++(if (nd ns i).kind=1 then [] else ((nd ns i).kids.drop (xV (nd ns i).seps s)).flatMap (wI ns s m))
theorem Hj (ns:List DNode)(s:DSpot):∀(m:Nat) (i:Int),(wI ns s m i).Sublist (vv ns m i):=by
 intro m
 induction m with
 | zero=>intro i;exact List.Sublist.refl _
 | succ m ih =>
  intro i
  rw [wI,vv]
  refine List.Sublist.append List.filter_sublist ?_
  split
  · exact List.nil_sublist _
  · have h1 : ∀ l : List Int, (l.flatMap (wI ns s m)).Sublist (l.flatMap (vv ns m)) := by
     intro l
     induction l with
     | nil=>exact List.Sublist.refl _
     | cons a l ihl=>rw [d_,d_];exact(ih a).append ihl
    refine(h1 _).trans ?_
    have h2 : ∀(l:List Int) (k:Nat),((l.drop k).flatMap (vv ns m)).Sublist (l.flatMap (vv ns m)):=by
     intro l k
     conv=>rhs;rw [← D_ k l,a_]
     exact List.sublist_append_right _ _
    exact h2 _ _
theorem ze {α β:Type}(p:β→Bool)(f:α→List β):∀ l:List α,(l.flatMap f).filter p=l.flatMap fun a=>(f a).filter p
 | []=>rfl
 | a::l=>by rw [d_,d_,m4,ze p f l]
theorem Iu {ns:List DNode}(hns : ∀ n∈ns,vq n=0)(s:DSpot):∀(h m:Nat) (i d:Int) (sp:Span),okN ns h i d sp→h<m→wI ns s m i=(uS ns h i).filter (geB s):=by
 intro h
 induction h with
 | zero =>
  intro m i d sp hok hm
  obtain⟨m,rfl⟩ : ∃ q,m=q+1:=⟨m-1,by omega⟩
  rw [wI,uS,if_pos hok.2.1,K_]
 | succ h ih =>
  intro m i d sp hok hm
  obtain⟨m,rfl⟩ : ∃ q,m=q+1:=⟨m-1,by omega⟩
  have hI:=(xl hns hok.1 hok.2.1).2
  rw [wI,uS,if_neg hok.2.1.2,hI.elems,List.filter_nil,o7,ze]
  have hk : ∀ k∈(nd ns i).kids,wI ns s m k=(uS ns h k).filter (geB s):=fun k hk=>by
   obtain⟨q,hq⟩:=V_.1 hk
   exact ih m k _ _ (hok.2.2.2 (k,q) (zc hq)).1 (by omega)
  have hcong : ∀ l:List Int,(∀ k∈l,k∈(nd ns i).kids)→l.flatMap (wI ns s m)=l.flatMap fun k=>(uS ns h k).filter (geB s):=by
   intro l
   induction l with
   | nil=>intro _;rfl
   | cons a l ihl=>intro hl;rw [d_,d_,hk a (hl a l_),ihl fun k hk=>hl k (E_ _ hk)]
  rw [hcong _ fun k hk=>J_ hk]
  have hnil:((nd ns i).kids.take (xV (nd ns i).seps s)).flatMap (fun k=>(uS ns h k).filter (geB s))=[]:=by
   rw [List.flatMap_eq_nil_iff]
   intro k hk
   rw [List.mem_take_iff_getElem] at hk
   obtain⟨q,hq,rfl⟩:=hk
   rw [List.filter_eq_nil_iff]
   intro e he
   have hqk:(nd ns i).kids[q]? = some (nd ns i).kids[q]:=gge (by omega)
   have h1:=(hok.2.2.2 (_,q) (zc hqk)).1
   have h2:=((wB hns h _ _ _ h1).2 e he).1
   have hw:=Cj (nd ns i).seps s
   have hx:(nd ns i).seps[q]? = some (nd ns i).seps[q]:=gge (by omega)
   have h3:=CA hx h2
   have h4:=(EB (nd ns i).seps s).1 q _ (by omega) hx
   have h5:=wO h3 h4
   unfold geB
   rw [decide_eq_true_eq]
   omega
  conv=>rhs;rw [← D_ (xV (nd ns i).seps s) (nd ns i).kids,a_,hnil,o7]
def JH {τ:Type}(ns:List DNode)(s:DSpot)(len:τ→Nat)(m:Nat)(x:τ × Int):Prop:=DB ns m x.2∧len x.1+(wI ns s m x.2).length≤100000
theorem HK {τ:Type}{t:DTree}{h:Nat}(hg:Good t h)(s:DSpot)(len:τ→Nat)(a:τ)(ha:len a=0){F:Nat}[Big F]:JH t.nodes s len F (a,t.root):=by
 have hF:=(inferInstance:Big F).le
 have h4:=xz hg
 refine⟨⟨h,0,topS,by omega,hg.ok⟩,?_⟩
 dsimp only
 have h1:=(Hj t.nodes s F t.root).length_le
 rw [Bq hg.chk h F t.root 0 topS hg.ok (by omega)] at h1
 have:=Ak hg
 omega
theorem Hl {t:DTree}{h:Nat}(hg:Good t h)(s:DSpot){F:Nat}[Big F]:wI t.nodes s F t.root=(uS t.nodes h t.root).filter (geB s):=by
 have hF:=(inferInstance:Big F).le
 have h4:=xz hg
 exact Iu hg.chk s h F t.root 0 topS hg.ok (by omega)
theorem IV {τ:Type}{ns:List DNode}(hns : ∀ n∈ns,vq n=0){s:DSpot}{len:τ→Nat}{m:Nat}{a b:τ}{i:Int}(h:JH ns s len (m+1) (a,i))(h1:(nd ns i).kind≠1){t:τ→DElem→τ × Nat}(ht : ∀ a e,len (t a e).1≤len a+1)
 (hb:vV t ((nd ns i).elems.filter (geB s)) a=(b,0)) {k:Nat} {e:Int} (hk:((nd ns i).kids.drop (xV (nd ns i).seps s))[k]? = some e) {st:τ}
 (hr:vV (fun st k=>vV t (wI ns s m k) st) (((nd ns i).kids.drop (xV (nd ns i).seps s)).take k) b=(st,0)):JH ns s len m (st,e):=by
 have hkids:=(h.1.kids hns).2
 refine⟨hkids e (J_ (C_ hk)),?_⟩
 rw [yZ] at hr
 have q1:=CL t len ht ((nd ns i).elems.filter (geB s)) a
 rw [hb] at q1
 have q2:=CL t len ht ((((nd ns i).kids.drop (xV (nd ns i).seps s)).take k).flatMap (wI ns s m)) b
 rw [hr] at q2
 have h2:=h.2
 dsimp only at q1 q2 h2 ⊢
 rw [wI,if_neg h1,t_] at h2
 obtain⟨hkl,rfl⟩:=ggs.1 hk
 have h3:(((nd ns i).kids.drop (xV (nd ns i).seps s)).flatMap (wI ns s m)).length=((((nd ns i).kids.drop (xV (nd ns i).seps s)).take k).flatMap (wI ns s m)).length+(((((nd ns i).kids.drop (xV (nd ns i).seps s)).drop k)).flatMap (wI ns s m)).length:=by
  rw [← t_,← a_,D_]
 rw [l7 hkl,d_,t_] at h3
 omega
theorem Ko {ns:List DNode}{i:Int}(hI:Inner (nd ns i))(s:DSpot):xV (nd ns i).seps s≤(nd ns i).kids.length:=by
 have:=Cj (nd ns i).seps s
 have:=hI.seps
 omega
end Go.Proofs.YtaoocidchclpnaaGreat
namespace Go.Proofs.YtaoocidchclpnaaGreat
set_option linter.unusedSimpArgs false
set_option linter.unusedVariables false
section
theorem Dk {t:DTree}{h:Nat}(hg:Good t h){F:Nat}[Big F]:vv t.nodes F t.root=uS t.nodes h t.root:=by
 have hF:=(inferInstance:Big F).le
 have h4:=xz hg
 exact Bq hg.chk h F t.root 0 topS hg.ok (by omega)
end
section
variable {F:Nat} [Big F]
theorem B4 {t:DTree}(hs : ∀ n∈t.nodes,Small n){h:Nat}(hg:Good t h):lr F t=some (zZ (uS t.nodes h t.root)):=by
 unfold lr
 rw [yG hs hg,obs]
 dsimp only
 rw [show ((0:Int) != 0)=false from rfl,cond_false,Bj];rfl
theorem Kd {l:List DElem}(hp:l.Pairwise SpO){i j:Nat}{a b:DElem}(hij:i≤j)(ha:l[i]? = some a)(hb:l[j]? = some b):cmpK a.key b.key≤0:=by
 by_cases e:i=j
 · subst e
   rw [ha] at hb
   obtain rfl:=u_.inj hb
   rw [vk.refl];exact Z_ _
 · have:=wi hp (show i<j by omega) ha hb
   unfold SpO at this
   rcases xJ.1 this with h | ⟨h,_⟩
   · exact Int.le_of_lt h
   · unfold uU at h
     dsimp only at h
     rw [h,vk.refl];exact Z_ _
theorem H6 {l:List DElem}(ho : ∀ e∈l,vb e=0)(k:DKey)(u:Int):(l.filter (geB ⟨k,0⟩)).find? (fun e=>e.key == k&&zi e u)=atR l k u:=by
 unfold atR
 rw [List.find?_filter]
 have : ∀ m:List DElem,(∀ e∈m,e∈l)→m.find? (fun a=>decide (geB ⟨k,0⟩ a=true∧(a.key == k&&zi a u)=true))=m.find? fun e=>e.key == k&&zi e u:=by
  intro m
  induction m with
  | nil=>intro _;rfl
  | cons e m ih =>
   intro hm
   rw [C2,C2,ih fun x hx=>hm x (E_ _ hx)]
   by_cases hk:e.key=k
   · obtain⟨_,h1,_⟩:=wK (ho e (hm e l_))
     have hge:geB ⟨k,0⟩ e=true:=by
      refine decide_eq_true ?_
      have h2:=vc.neg (uU e) ⟨k,0⟩
      have:cmpS ⟨k,0⟩ (uU e)<0:=xJ.2 (.inr ⟨hk.symm,by show (0:Int)<e.made;omega⟩)
      omega
     have hd:decide (geB ⟨k,0⟩ e=true∧(e.key == k&&zi e u)=true)=(e.key == k&&zi e u):=by cases hq:(e.key == k&&zi e u) <;> simp [hge]
     rw [hd]
   · have:(e.key == k)=false:=by simpa using hk
     rw [this];simp
 first
 | exact this l fun e he=>he
 | (simp only [Bool.decide_and,Bool.decide_eq_true] at this;exact this l fun e he=>he)
theorem Hk {l:List DElem}{k:DKey}:∀ e∈l.filter (geB ⟨k,0⟩),0≤cmpK e.key k:=fun e he=>by
 have h1:=(Q_.1 he).2
 unfold geB at h1
 have h1:=of_decide_eq_true h1
 by_cases h:cmpK e.key k<0
 · have:cmpS (uU e) ⟨k,0⟩<0:=xJ.2 (.inl h)
   omega
 · omega
end
section
variable {F:Nat} [Big F]
abbrev FlatN:=Bool × Int × Int × Int × Int × Int × ByteArray
def flatN (e:DElem):FlatN:=(true,e.key.pfs,e.key.obj,e.key.off,e.made,e.gone,e.val)
def yq (k:DKey)(st:FlatN)(e:DElem):FlatN × Nat:=if e.key≠k then (st,1) else if e.gone=0 then (flatN e,2) else (st,0)
theorem FH {k:DKey}{st:FlatN}{e:DElem}(h:e.key≠k):yq k st e=(st,1):=if_pos h
theorem GA {k:DKey}{st:FlatN}{e:DElem}(h:e.key=k)(hl:e.gone=0):yq k st e=(flatN e,2):=by
 unfold yq;rw [if_neg (fun h'=>h' h),if_pos hl]
theorem Gz {k:DKey}{st:FlatN}{e:DElem}(h:e.key=k)(hl : ¬ e.gone=0):yq k st e=(st,0):=by
 unfold yq;rw [if_neg (fun h'=>h' h),if_neg hl]
theorem JN (k:DKey)(u:Int):∀(l:List DElem),l.Pairwise SpO→(∀ e∈l,0≤cmpK e.key k)→(∀ e∈l,vQ e≤u)→∀ a:FlatN,(∃ e,l.find? (fun e=>e.key == k&&zi e u)=some e∧vV (yq k) l a=(flatN e,2))∨(l.find? (fun e=>e.key == k&&zi e u)=none∧∃ c,c≤1∧vV (yq k) l a=(a,c)):=by
 intro l
 induction l with
 | nil=>intro _ _ _ a;exact .inr ⟨rfl,0,by omega,rfl⟩
 | cons e l ih =>
  intro hp hk hu a
  have hlv:=DF (hu e l_)
  rw [vV]
  by_cases he:e.key=k
  · have hb:(e.key == k)=true:=by simpa using he
    rw [C2,hb,hlv]
    by_cases hl:e.gone=0
    · left
      rw [GA he hl,if_neg (by simp),show (e.gone == 0)=true by simpa using hl]
      exact⟨e,rfl,rfl⟩
    · rw [Gz he hl,if_pos rfl,show (e.gone == 0)=false by simpa using hl]
      exact ih (B_.1 hp).2 (fun x hx=>hk x (E_ _ hx)) (fun x hx=>hu x (E_ _ hx)) a
  · right
    rw [FH he,if_neg (by simp)]
    refine⟨?_,1,q_ _,rfl⟩
    rw [List.find?_eq_none]
    intro x hx hq
    have hxk:x.key=k:=by
     have:=(Bool.and_eq_true_iff.1 hq).1
     simpa using this
    have h1:=hk e l_
    obtain⟨j,hj⟩:=V_.1 hx
    have h2:=Kd hp (i:=0) (j:=j) (W_ _) rfl hj
    rw [hxk] at h2
    exact he ((vk.zero _ _).1 (by omega))
def Ee (o:Option DElem):DElem × Bool:=match o with
 | some e=>(e,true)
 | none=>(Jk,false)
theorem xo {t:DTree}{h:Nat}(hg:Good t h)(hr:Run (uS t.nodes h t.root))(k:DKey):nL F t k=some (Ee (wo (uS t.nodes h t.root) k)):=by
 have hs:=zK hg
 have hlen : ∀(a:FlatN) (e:DElem),(fun _:FlatN=>0) (yq k a e).1≤(fun _:FlatN=>0) a+1:=fun _ _=>W_ _
 unfold nL
 rw [zn (σ:=Bool × Int × Int × Int × Int × Int × ByteArray × Int) (fun m x=>match x with | (x0,x1,x2,x3,x4,x5,x6,x7)=>JH t.nodes ⟨k,0⟩ (fun _:FlatN=>0) m ((x0,x1,x2,x3,x4,x5,x6),x7))
  (fun m x=>match x with | (x0,x1,x2,x3,x4,x5,x6,x7)=>let r:=vV (yq k) (wI t.nodes ⟨k,0⟩ m x7) (x0,x1,x2,x3,x4,x5,x6);(r.2,r.1)) ?h0 ?hstep F _ (HK hg ⟨k,0⟩ (fun _=>0) _ rfl)]
 case h0 =>
  rintro⟨x0,x1,x2,x3,x4,x5,x6,x7⟩ ⟨⟨h,d,s,hm,_⟩,_⟩
  omega
 case hstep =>
  rintro m self ih ⟨x0,x1,x2,x3,x4,x5,x6,x7⟩ hpre
  dsimp only at hpre
  obtain⟨⟨h0,h1⟩,hkids⟩:=hpre.1.kids hg.chk
  dsimp only at h0 h1 hkids ⊢
  have hmem:=wS h0 h1
  obtain⟨h8,h8'⟩:=xG (hg.chk _ hmem)
  rw [Av h0 h1,obs]
  rw [Dx (fun st e=>if geB ⟨k,0⟩ e then yq k st e else (st,0)) (nd t.nodes x7).elems (fun (st:FlatN) j=>(st.1,st.2.1,st.2.2.1,st.2.2.2.1,st.2.2.2.2.1,st.2.2.2.2.2.1,st.2.2.2.2.2.2,j)) Sum.inl (fun st n=>y_ (n+1,st)) (x0,x1,x2,x3,x4,x5,x6) (by omega) rfl ?hs ?he]
  case hs =>
   rintro j e ⟨y0,y1,y2,y3,y4,y5,y6⟩ hj hr
   have hkl:=(ggs.1 hj).1
   dsimp only
   rw [decide_eq_true (by omega),cond_true,uX,hj,obs,vf,obs,vx,obs,w64 (by omega) (by omega)]
   unfold geB
   by_cases hge:0≤cmpS (uU e) ⟨k,0⟩
   · rw [decide_eq_true hge,cond_true,if_pos rfl]
     unfold yq
     by_cases hn:e.key=k
     · rw [if_neg (show ¬ e.key≠k by simpa using hn),show (!(e.key == k))=false by simpa using hn,cond_false]
       by_cases hz:e.gone=0
       · rw [if_pos hz,show (e.gone == 0)=true by simpa using hz];rfl
       · rw [if_neg hz,show (e.gone == 0)=false by simpa using hz];rfl
     · rw [if_pos hn,show (!(e.key == k))=true by simpa using hn];rfl
   · rw [decide_eq_false hge,cond_false,if_neg (by simp)];rfl
  case he =>
   rintro⟨y0,y1,y2,y3,y4,y5,y6⟩ hr
   dsimp only
   rw [decide_eq_false (by omega)];rfl
  rw [obs,zG,wI]
  cases hb:vV (yq k) ((nd t.nodes x7).elems.filter (geB ⟨k,0⟩)) (x0,x1,x2,x3,x4,x5,x6) with
  | mk b c =>
   rw [xU,hb]
   cases c with
   | succ c=>rfl
   | zero =>
    obtain⟨b0,b1,b2,b3,b4,b5,b6⟩:=b
    dsimp only [lw]
    rw [if_pos rfl]
    by_cases hkd:(nd t.nodes x7).kind=1
    · rw [if_pos hkd,show ((nd t.nodes x7).kind == 1)=true by simpa using hkd];rfl
    · rw [if_neg hkd,show ((nd t.nodes x7).kind == 1)=false by simpa using hkd,cond_false]
      have hw:xV (nd t.nodes x7).seps ⟨k,0⟩≤(nd t.nodes x7).kids.length:=by
       rcases vz.1 (hg.chk _ hmem) with q | q | q
       · rw [q.2.2.2.1];exact W_ _
       · exact absurd q.1 hkd
       · exact Ko q.2 ⟨k,0⟩
      rw [xR _ ⟨k,0⟩ (hs _ hmem),obs,vF hw,obs]
      rw [Dx (fun st j=>vV (yq k) (wI t.nodes ⟨k,0⟩ m j) st) ((nd t.nodes x7).kids.drop (xV (nd t.nodes x7).seps ⟨k,0⟩)) (fun (st:FlatN) j=>(st.1,st.2.1,st.2.2.1,st.2.2.2.1,st.2.2.2.2.1,st.2.2.2.2.2.1,st.2.2.2.2.2.2,j)) Sum.inl (fun st n=>y_ (n+1,st)) (b0,b1,b2,b3,b4,b5,b6) (by rw [G_];omega) rfl ?hs2 ?he2]
      case hs2 =>
       rintro j e ⟨y0,y1,y2,y3,y4,y5,y6⟩ hk2 hr
       have hkl:=(ggs.1 hk2).1
       rw [G_] at hkl
       dsimp only
       rw [decide_eq_true (by rw [G_];omega),cond_true,uX,hk2,obs,ih (y0,y1,y2,y3,y4,y5,y6,e) (IV hg.chk hpre hkd hlen hb hk2 hr),obs,w64 (by omega) (by omega)]
       dsimp only
       cases hc:vV (yq k) (wI t.nodes ⟨k,0⟩ m e) (y0,y1,y2,y3,y4,y5,y6) with
       | mk y c=>cases c <;> rfl
      case he2 =>
       rintro⟨y0,y1,y2,y3,y4,y5,y6⟩ hr
       dsimp only
       rw [decide_eq_false (by omega)];rfl
      rw [obs,yZ]
      cases hc:vV (yq k) (((nd t.nodes x7).kids.drop (xV (nd t.nodes x7).seps ⟨k,0⟩)).flatMap (wI t.nodes ⟨k,0⟩ m)) (b0,b1,b2,b3,b4,b5,b6) with
      | mk y c=>cases c <;> rfl
 rw [obs]
 dsimp only
 rw [Hl hg ⟨k,0⟩]
 obtain⟨hsort,hall⟩:=wB hg.chk h t.root 0 topS hg.ok
 have hlast:=hr.last_le
 have hat:=H6 (fun e he=>(hall e he).2) k 2147483647 (l:=uS t.nodes h t.root)
 rw [JE hr hlast] at hat
 rcases JN k 2147483647 _ (hsort.filter _) Hk (fun e he=>by have:=yJ (Q_.1 he).1;omega) (false,0,0,0,0,0,L_ #[]) with ⟨e,h1,h2⟩ | ⟨h1,c,hc,h2⟩
 · rw [h2,← hat,h1];rfl
 · rw [h2,← hat,h1]
   have:c=0∨c=1:=by omega
   rcases this with rfl | rfl <;> rfl
theorem Hn {ns:List DNode}(hns : ∀ n∈ns,vq n=0):∀ {h:Nat} {i:Int} {m:Nat} {s:Span},vm ns h i m s→ve (nd ns i)=wm (uS ns h i):=by
 intro h
 induction h with
 | zero =>
  intro i m s c
  have L:=c.leaf hns
  obtain⟨g1,g2,g3⟩:=Al (nd ns i)
  have g0:=(zq (hns _ (wS c.range.1 c.range.2))).1
  have hnn:=AU (nd ns i).elems
  rw [uS]
  refine Int.le_antisymm ?_ (yI.2 ⟨g0,g1⟩)
  rcases g3 with g3 | ⟨e,he,g3⟩ | ⟨t,ht,_⟩
  · omega
  · rw [← g3];exact yJ he
  · rw [L.tids] at ht;cases ht
 | succ h ih =>
  intro i m s c
  have L:=c.inner hns
  obtain⟨g1,g2,g3⟩:=Al (nd ns i)
  have g0:=(zq (hns _ (wS c.range.1 c.range.2))).1
  have hch:=c.2.2.2
  rw [uS]
  have hnn:=AU ((nd ns i).kids.flatMap (uS ns h))
  refine Int.le_antisymm ?_ (yI.2 ⟨g0,fun e he=>?_⟩)
  · rcases g3 with g3 | ⟨e,he,_⟩ | ⟨t,ht,g3⟩
    · omega
    · rw [L.elems] at he;cases he
    · obtain⟨k,s',hk,x⟩:=hch.tmem t ht
      rw [← g3,← x.2,ih x.1]
      exact yI.2 ⟨hnn,fun e he=>yJ (N_.2 ⟨k,hk,he⟩)⟩
  · obtain⟨k,hk,he⟩:=N_.1 he
    obtain⟨q,hq⟩:=V_.1 hk
    obtain⟨t,s',ht,x,_⟩:=hch.at_ q k hq
    have h1:=g2 t (C_ ht)
    have h2:=yJ he
    rw [← ih x.1,x.2] at h2
    omega
theorem wN {t:DTree}{h:Nat}(hg:Good t h)(u:Int):mU F t u=some (decide (u<1∨2147483647<u∨u<wm (uS t.nodes h t.root))):=by
 have c:=zp hg
 rw [wb] at c
 have hgr:=Hn hg.chk c
 obtain⟨h0,h1⟩:=c.range
 unfold mU
 by_cases h2:u<1
 · rw [decide_eq_true h2,cond_true,obs,decide_eq_true (.inl h2)]
 · rw [decide_eq_false h2,cond_false]
   by_cases h3:2147483647<u
   · rw [decide_eq_true h3,cond_true,obs,decide_eq_true (.inr (.inl h3))]
   · rw [decide_eq_false h3,cond_false,Av h0 h1,obs,wg _ (wt (hg.chk _ (wS h0 h1))),obs,obs,hgr]
     congr 1
     rw [Bool.eq_iff_iff,decide_eq_true_eq,decide_eq_true_eq]
     omega
theorem xY {t:DTree}{h:Nat}(hg:Good t h):oh F t=some (decide (400≤(uS t.nodes h t.root).length)):=by
 have hlen : ∀(a:Nat) (e:DElem),(fun a:Nat=>a) ((fun (a:Nat) (_:DElem)=>(a+1,0)) a e).1≤(fun a:Nat=>a) a+1:=fun _ _=>q_ _
 unfold oh
 rw [zn (σ:=Int × Int) (fun m x=>DB t.nodes m x.2∧0≤x.1∧x.1+((vv t.nodes m x.2).length:Int)≤100000) (fun m x=>x.1+((vv t.nodes m x.2).length:Int)) ?h0 ?hstep F _ ?hpre]
 case h0 =>
  rintro⟨x1,x2⟩ ⟨⟨h,d,s,hm,_⟩,_⟩
  omega
 case hpre =>
  have hF:=(inferInstance:Big F).le
  have h4:=xz hg
  refine⟨⟨h,0,topS,by omega,hg.ok⟩,Z_ _,?_⟩
  dsimp only
  rw [Dk hg]
  have:=Ak hg
  omega
 case hstep =>
  rintro m self ih ⟨x1,x2⟩ ⟨hok,hc0,hc1⟩
  obtain⟨⟨h0,h1⟩,hkids⟩:=hok.kids hg.chk
  dsimp only at h0 h1 hkids hc0 hc1 ⊢
  obtain⟨h8,h8'⟩:=xG (hg.chk _ (wS h0 h1))
  rw [vv,t_] at hc1
  rw [Av h0 h1,obs]
  rw [vE (fun k=>(x1+(k:Int),(k:Int))) (nd t.nodes x2).elems.length (r:=x1+((nd t.nodes x2).elems.length:Int)) (by simp) (by omega) ?s1 ?e1]
  case s1 =>
   intro k hk
   dsimp only
   rw [decide_eq_true (by omega),cond_true,uX,gge hk,obs,w64 (by omega) (by omega),w64 (by omega) (by omega)]
   congr 3;omega
  case e1 =>
   dsimp only
   rw [decide_eq_false (by omega),cond_false]
  rw [obs]
  have hlen:((nd t.nodes x2).kids.flatMap (vv t.nodes m)).length≤100000:=by omega
  rw [vE (fun k=>(x1+((nd t.nodes x2).elems.length:Int)+((((nd t.nodes x2).kids.take k).flatMap (vv t.nodes m)).length:Int),(k:Int))) (nd t.nodes x2).kids.length (r:=x1+((nd t.nodes x2).elems.length:Int)+(((nd t.nodes x2).kids.flatMap (vv t.nodes m)).length:Int)) (by simp) (by omega) ?s2 ?e2]
  case s2 =>
   intro k hk
   have hgk:(nd t.nodes x2).kids[k]? = some (nd t.nodes x2).kids[k]:=gge hk
   obtain⟨q1,q2⟩:=Hh (vv t.nodes m) hk
   dsimp only
   rw [decide_eq_true (by omega),cond_true,uX,hgk,obs,ih _ ⟨hkids _ (t5 _),by dsimp only;omega,by dsimp only;omega⟩,obs,w64 (by omega) (by omega)]
   dsimp only
   rw [q1,t_]
   congr 3;omega
  case e2 =>
   dsimp only
   rw [decide_eq_false (by omega),cond_false,n9]
  rw [obs,vv,t_]
  congr 1;omega
 rw [obs,obs]
 dsimp only
 rw [Dk hg]
 congr 1
 rw [Bool.eq_iff_iff,decide_eq_true_eq,decide_eq_true_eq]
 omega
theorem GZ {A B:List DElem}{e y:DElem}(hs:uU y=uU e)(ho:(A++e::B).Pairwise SpO):(A++e::B).map (wT y)=A++y::B:=by
 obtain⟨o1,o2,o3⟩:=z_.1 ho
 rw [S_,v5,AE,AE]
 · unfold wT;rw [if_pos hs.symm]
 · intro x hx h
   have h1:cmpS (uU e) (uU x)<0:=(B_.1 o2).1 x hx
   rw [h,hs,vc.refl] at h1;omega
 · intro x hx h
   have h1:cmpS (uU x) (uU e)<0:=o3 x hx e l_
   rw [h,hs,vc.refl] at h1;omega
theorem JM {A B:List DElem}{e:DElem}(ho:(A++e::B).Pairwise SpO):(A++e::B).filter (xW (uU e))=A++B:=by
 have hg:(A++e::B)[A.length]? = some e:=by rw [p7 (q_ _)];simp
 rw [Km ho hg,X_ rfl,show A++e::B=(A++[e])++B by simp,Y_ (by simp)]
section
variable {l:List DElem} {k:DKey} {t:Int} {v:ByteArray}
theorem BB (h:Run l){e:DElem}(hn:wo l k=some e):∃ a,l=(lo l k++a)++e::hi l k∧clo (hist l k) t=a++(if e.made=t then [] else [{ e with gone:=t }]):=by
 obtain⟨a,ha,hc⟩:=DZ (t:=t) h.ord hn
 refine⟨a,?_,hc⟩
 conv=>lhs;rw [zI k h.ord,ha]
 simp
theorem JJ (h:Run l){e:DElem}(hn:wo l k=some e)(hm:e.made=t):l.map (wT (wn k v t))=putR l k v t:=by
 obtain⟨a,h1,h2⟩:=BB (t:=t) h hn
 have hk:=((xE h.ord).1 hn).2.1
 have ho:=zJ h.ord
 rw [h1] at ho
 have hsp:uU (wn k v t)=uU e:=by unfold uU wn;rw [hk,hm]
 conv=>lhs;rw [h1]
 rw [GZ hsp ho]
 unfold putR upd
 rw [h2,if_pos hm]
 simp
theorem Ca (h:Run l){e:DElem}(hn:wo l k=some e)(hm:e.made≠t):l.map (wT { e with gone:=t })=cutR l k t:=by
 obtain⟨a,h1,h2⟩:=BB (t:=t) h hn
 have ho:=zJ h.ord
 rw [h1] at ho
 conv=>lhs;rw [h1]
 rw [GZ (e:=e) (y:={ e with gone:=t }) rfl ho]
 unfold cutR upd
 rw [h2,if_neg hm]
 simp
theorem Jn (h:Run l){e:DElem}(hn:wo l k=some e)(hm:e.made=t):l.filter (xW (uU e))=cutR l k t:=by
 obtain⟨a,h1,h2⟩:=BB (t:=t) h hn
 have ho:=zJ h.ord
 rw [h1] at ho
 conv=>lhs;rw [h1]
 rw [JM ho]
 unfold cutR upd
 rw [h2,if_pos hm]
 simp
theorem DL (h:Run l)(ht:wm l≤t)(hc:vb (wn k v t)=0):∀ x∈cutR l k t,uU x≠uU (wn k v t):=by
 obtain⟨_,h0,h1,_⟩:=zS hc
 obtain⟨c1,c2,c3⟩:=h.clo ht h0 h1 k
 intro x hx hs
 unfold cutR at hx
 have hk:x.key=k:=congrArg DSpot.key hs
 have hmd:x.made=t:=congrArg DSpot.made hs
 rcases (zR h.ord).1 hx with hx | ⟨_,hx⟩
 · have:=(c3 x hx).2;omega
 · exact hx hk
theorem Fv (h:Run l)(hn:wo l k=none):(putR l k v t).length=l.length+1:=by rw [yY h,hn]
theorem Fw (h:Run l){e:DElem}(hn:wo l k=some e)(hm:e.made=t):(putR l k v t).length=l.length:=by rw [yY h,hn];exact if_pos hm
theorem Fx (h:Run l){e:DElem}(hn:wo l k=some e)(hm : ¬ e.made=t):(putR l k v t).length=l.length+1:=by rw [yY h,hn];exact if_neg hm
theorem JI (h:Run l)(ht:wm l≤t)(hc:vb (wn k v t)=0)(hn:(putR l k v t).length≤400):Ga (cutR l k t) (wn k v t)=putR l k v t:=by
 obtain⟨_,h0,h1,_⟩:=zS hc
 have hcut:=h.cutR ht h0 h1 k
 have hput:=h.putR ht hc hn
 refine Es (BR (zJ hcut.ord) _) (zJ hput.ord) fun x=>?_
 rw [Fm]
 have hf:=DL h ht hc
 unfold putR
 rw [zR h.ord,g_,P_]
 constructor
 · rintro(rfl | ⟨hx,_⟩)
   · exact .inl (.inr rfl)
   · unfold cutR at hx
     rcases (zR h.ord).1 hx with hx | hx
     · exact .inl (.inl hx)
     · exact .inr hx
 · rintro((hx | rfl) | hx)
   · have hm:x∈cutR l k t:=by unfold cutR;exact(zR h.ord).2 (.inl hx)
     exact .inr ⟨hm,hf x hm⟩
   · exact .inl rfl
   · have hm:x∈cutR l k t:=by unfold cutR;exact(zR h.ord).2 (.inr hx)
     exact .inr ⟨hm,hf x hm⟩
end
theorem Kh {N:NL}(h:qt N=some (fN N))(root:Int):nlT ⟨root,fN N⟩=N:=(lj h).symm
theorem xT {t:DTree}{h:Nat}(hg:Good t h):lr F t=some (zZ (uS t.nodes h t.root)):=B4 (zK hg) hg
omit [Big F] in
theorem Bp (t:DTree)(k:DKey)(v:ByteArray)(u:Int):oV F t k v u=(lr F t).bind fun r1=>bif (r1 != 0) then some ((DTree.mk 0 []),r1) else (j7 (DElem.mk k u 0 v)).bind fun r2=>bif (r2 != 0) then some ((DTree.mk 0 []),r2) else
 (mU F t u).bind fun r3=>bif r3 then some ((DTree.mk 0 []),9) else (nL F t k).bind fun r4=>(mI F t).bind fun r5 =>
 bif (r4.2&&(r4.1.made == u)) then (ql (σ:=NL × Int) (ρ:=NL) (zk F (DElem.mk k u 0 v)) F (nlT r5,r5.root)).bind fun q1=>(qt q1).bind fun l1=>some ((DTree.mk r5.root l1),0)
 else (oh F t).bind fun r16=>bif r16 then some ((DTree.mk 0 []),8) else
  (bif r4.2 then (ql (σ:=NL × Int) (ρ:=NL) (zk F (DElem.mk r4.1.key r4.1.made u r4.1.val)) F (nlT r5,r5.root)).bind fun q2=>some q2 else some (nlT r5):Option NL).bind fun z5 =>
  (FN F (DElem.mk k u 0 v) z5 r5.root).bind fun z=>match z with | (z10,z11)=>(qt z11).bind fun l2=>some ((DTree.mk z10 l2),0)
 := by
 unfold oV
 simp only [De,J1]
 rfl
theorem EF {t:DTree}{h:Nat}(hg:Good t h)(k:DKey)(v:ByteArray)(u:Int)(hz:yn (uS t.nodes h t.root) k v u≠0):oV F t k v u=some (zT,yn (uS t.nodes h t.root) k v u):=by
 rw [Bp,xT hg,obs]
 unfold yn at hz ⊢
 by_cases h1:zZ (uS t.nodes h t.root)=0
 rotate_left
 · rw [vD h1,cond_true,if_pos h1];rfl
 have hrun:=wV.1 h1
 rw [if_neg (by simpa using h1)] at hz ⊢
 rw [vp h1,cond_false,vH,obs]
 by_cases h2:vb (wn k v u)=0
 rotate_left
 · rw [show DElem.mk k u 0 v=wn k v u from rfl,vD h2,cond_true,if_pos h2];rfl
 rw [if_neg (by simpa using h2)] at hz ⊢
 obtain⟨_,u0,u1,_⟩:=zS h2
 rw [show DElem.mk k u 0 v=wn k v u from rfl,vp h2,cond_false,wN hg,obs]
 by_cases h3:u<wm (uS t.nodes h t.root)
 · rw [decide_eq_true (.inr (.inr h3)),cond_true,if_pos h3];rfl
 rw [if_neg h3] at hz ⊢
 rw [decide_eq_false (by omega),cond_false,xo hg hrun,obs,ye hg.len hg.chk,obs]
 have hl:=hrun.len
 by_cases h4:400<(putR (uS t.nodes h t.root) k v u).length
 rotate_left
 · exact absurd (if_neg h4) hz
 rw [if_pos h4]
 have hnm:((Ee (wo (uS t.nodes h t.root) k)).2&&((Ee (wo (uS t.nodes h t.root) k)).1.made == u))=false:=by
  cases hn:wo (uS t.nodes h t.root) k with
  | none=>rfl
  | some e =>
   show (true&&(e.made == u))=false
   rw [C4,beq_eq_false_iff_ne]
   intro hm
   have hpl:=Fw (v:=v) hrun hn hm
   omega
 have h5:400≤(uS t.nodes h t.root).length:=by
  cases hn:wo (uS t.nodes h t.root) k with
  | none=>have hpl:=Fv (v:=v) (t:=u) hrun hn;omega
  | some e =>
   by_cases hm:e.made=u
   · have hpl:=Fw (v:=v) hrun hn hm;omega
   · have hpl:=Fx (v:=v) hrun hn hm;omega
 rw [hnm,cond_false,xY hg,obs,decide_eq_true h5,cond_true];rfl
theorem CY {t:DTree}{h:Nat}(hg:Good t h)(k:DKey)(v:ByteArray)(u:Int)(hz:yn (uS t.nodes h t.root) k v u=0) :
 ∃ t' h',oV F t k v u=some (t',0)∧Good t' h'∧uS t'.nodes h' t'.root=putR (uS t.nodes h t.root) k v u:=by
 obtain⟨hrun,hc,hlast,hput⟩:=DK.1 hz
 obtain⟨_,u0,u1,_⟩:=zS hc
 have hl:=hrun.len
 have hcut:=hrun.cutR hlast u0 u1 k
 have pre : ∀ r,((bif ((Ee (wo (uS t.nodes h t.root) k)).2&&((Ee (wo (uS t.nodes h t.root) k)).1.made == u)) then (ql (σ:=NL × Int) (ρ:=NL) (zk F (wn k v u)) F (nlT t,t.root)).bind fun q1=>(qt q1).bind fun l1=>some ((DTree.mk t.root l1),(0:Int))
  else (oh F t).bind fun r16=>bif r16 then some ((DTree.mk 0 []),8) else
   (bif (Ee (wo (uS t.nodes h t.root) k)).2 then (ql (σ:=NL × Int) (ρ:=NL) (zk F (DElem.mk (Ee (wo (uS t.nodes h t.root) k)).1.key (Ee (wo (uS t.nodes h t.root) k)).1.made u (Ee (wo (uS t.nodes h t.root) k)).1.val)) F (nlT t,t.root)).bind fun q2=>some q2 else some (nlT t):Option NL).bind fun z5 =>
   (FN F (wn k v u) z5 t.root).bind fun z=>match z with | (z10,z11)=>(qt z11).bind fun l2=>some ((DTree.mk z10 l2),0))=r)→oV F t k v u=r:=fun r hh=>by
  rw [Bp,xT hg,obs,vp (wV.2 hrun),cond_false,show DElem.mk k u 0 v=wn k v u from rfl,vH,obs,vp hc,cond_false,wN hg,obs,decide_eq_false (by omega),cond_false,xo hg hrun,obs,ye hg.len hg.chk,obs]
  exact hh
 have add : ∀(t1:DTree),Good t1 h→t1.root=t.root→uS t1.nodes h t1.root=cutR (uS t.nodes h t.root) k u→∃ t' h',((FN F (wn k v u) (nlT t1) t.root).bind fun z=>match z with | (z10,z11)=>(qt z11).bind fun l2=>some ((DTree.mk z10 l2),(0:Int)))=some (t',0)∧Good t' h'∧uS t'.nodes h' t'.root=putR (uS t.nodes h t.root) k v u:=fun t1 g1 hr1 he1=>by
  obtain⟨root,N,a1,a2,h',a3,a4⟩:=G7 (F:=F) (e:=wn k v u) g1 hc (by rw [he1];exact DL hrun hlast hc) (by rw [he1];exact hcut.len)
  rw [hr1] at a1
  refine⟨⟨root,fN N⟩,h',?_,a3,?_⟩
  · rw [a1,obs]
    dsimp only
    rw [a2,obs]
  · rw [a4,he1];exact JI hrun hlast hc hput
 cases hn:wo (uS t.nodes h t.root) k with
 | none =>
  have hpl:=Fv (v:=v) (t:=u) hrun hn
  rw [hn] at pre
  obtain⟨t',h',a1,a2,a3⟩:=add t hg rfl (Ij hrun hn).symm
  refine⟨t',h',pre _ ?_,a2,a3⟩
  show (bif false then _ else _)=_
  rw [cond_false,xY hg,obs,decide_eq_false (by omega),cond_false]
  show ((bif false then _ else some (nlT t):Option NL).bind _)=_
  rw [cond_false,obs]
  exact a1
 | some e =>
  rw [hn] at pre
  have hem:=(xE hrun.ord).1 hn
  by_cases hm:e.made=u
  · obtain⟨N,c1,c2,c3,c4⟩:=Co (F:=F) (e:=wn k v u) hg hc
    refine⟨⟨t.root,fN N⟩,h,pre _ ?_,c3,by rw [c4];exact JJ hrun hn hm⟩
    show (bif (true&&(e.made == u)) then _ else _)=_
    rw [C4,show (e.made == u)=true by rw [beq_iff_eq];exact hm,cond_true,c1,obs,c2,obs]
  · have hce : vb { e with gone := u } = 0 := by
     have h1:=hcut.ok { e with gone:=u }
     refine h1 ?_
     rw [← Ca hrun hn hm]
     exact T_.2 ⟨e,hem.1,if_pos rfl⟩
    obtain⟨N,c1,c2,c3,c4⟩:=Co (F:=F) (e:={ e with gone:=u }) hg hce
    obtain⟨t',h',a1,a2,a3⟩:=add ⟨t.root,fN N⟩ c3 rfl (by rw [← Ca hrun hn hm];exact c4)
    rw [Kh c2] at a1
    refine⟨t',h',pre _ ?_,a2,a3⟩
    have hpl:=Fx (v:=v) hrun hn hm
    show (bif (true&&(e.made == u)) then _ else _)=_
    rw [C4,show (e.made == u)=false by rw [beq_eq_false_iff_ne];exact hm,cond_false,xY hg,obs,decide_eq_false (by omega),cond_false]
    show ((bif true then (ql (σ:=NL × Int) (ρ:=NL) (zk F { e with gone:=u }) F (nlT t,t.root)).bind _ else _:Option NL).bind _)=_
    rw [cond_true,c1,obs,obs]
    exact a1
omit [Big F] in
theorem Bo (t:DTree)(k:DKey)(u:Int):oU F t k u=(lr F t).bind fun r1=>bif (r1 != 0) then some ((DTree.mk 0 []),r1) else (nF k).bind fun r2=>bif (r2 != 0) then some ((DTree.mk 0 []),r2) else
 (mU F t u).bind fun r3=>bif r3 then some ((DTree.mk 0 []),9) else (nL F t k).bind fun r4=>bif (!r4.2) then some ((DTree.mk 0 []),4) else
 bif (r4.1.made == u) then (mI F t).bind fun r5=>(jf r4.1).bind fun r7=>(HE F r7 (nlT r5) r5.root).bind fun z=>match z with | (z1,z2)=>(qt z1).bind fun l1=>some ((DTree.mk z2 l1),0)
 else (mI F t).bind fun r43=>(ql (σ:=NL × Int) (ρ:=NL) (zk F (DElem.mk r4.1.key r4.1.made u r4.1.val)) F (nlT r43,r43.root)).bind fun q11=>(qt q11).bind fun l2=>some ((DTree.mk r43.root l2),0)
 := by
 unfold oU
 simp only [De,J2]
 rfl
theorem EE {t:DTree}{h:Nat}(hg:Good t h)(k:DKey)(u:Int)(hz:F0 (uS t.nodes h t.root) k u≠0):oU F t k u=some (zT,F0 (uS t.nodes h t.root) k u):=by
 rw [Bo,xT hg,obs]
 unfold F0 at hz ⊢
 by_cases h1:zZ (uS t.nodes h t.root)=0
 rotate_left
 · rw [vD h1,cond_true,if_pos h1];rfl
 have hrun:=wV.1 h1
 rw [if_neg (by simpa using h1)] at hz ⊢
 rw [vp h1,cond_false,yU,obs]
 by_cases h2:AN k=0
 rotate_left
 · rw [vD h2,cond_true,if_pos h2];rfl
 rw [if_neg (by simpa using h2)] at hz ⊢
 rw [vp h2,cond_false,wN hg,obs]
 by_cases h3:u<1∨2147483647<u∨u<wm (uS t.nodes h t.root)
 · rw [decide_eq_true h3,cond_true,if_pos h3];rfl
 rw [if_neg h3] at hz ⊢
 rw [decide_eq_false h3,cond_false,xo hg hrun,obs]
 cases hn:wo (uS t.nodes h t.root) k with
 | none=>rfl
 | some e=>rw [hn] at hz;exact absurd rfl hz
theorem CX {t:DTree}{h:Nat}(hg:Good t h)(k:DKey)(u:Int)(hz:F0 (uS t.nodes h t.root) k u=0) :
 ∃ t' h',oU F t k u=some (t',0)∧Good t' h'∧uS t'.nodes h' t'.root=cutR (uS t.nodes h t.root) k u:=by
 obtain⟨hrun,hk,u0,u1,hlast,hnow⟩:=Dj.1 hz
 obtain⟨e,hn⟩:=Option.isSome_iff_exists.1 hnow
 have hem:=(xE hrun.ord).1 hn
 have hcut:=hrun.cutR hlast u0 u1 k
 rw [Bo,xT hg,obs,vp (wV.2 hrun),cond_false,yU,obs,vp hk,cond_false,wN hg,obs,decide_eq_false (by omega),cond_false,xo hg hrun,obs,hn]
 show ∃ t' h',(bif (!true) then _ else bif (e.made == u) then _ else _)=_∧_
 rw [v6,cond_false]
 by_cases hm:e.made=u
 · obtain⟨root,N,o1,o2,h',o3,o4⟩:=HF (F:=F) (sp:=uU e) hg
   refine⟨⟨root,fN N⟩,h',?_,o3,by rw [o4];exact Jn hrun hn hm⟩
   rw [show (e.made == u)=true by rw [beq_iff_eq];exact hm,cond_true,ye hg.len hg.chk,obs,vf,obs]
   show (HE F (uU e) (nlT t) t.root).bind _=_
   rw [o1,obs]
   dsimp only
   rw [o2,obs]
 · have hce : vb { e with gone := u } = 0 := by
    refine hcut.ok { e with gone:=u } ?_
    rw [← Ca hrun hn hm]
    exact T_.2 ⟨e,hem.1,if_pos rfl⟩
   obtain⟨N,c1,c2,c3,c4⟩:=Co (F:=F) (e:={ e with gone:=u }) hg hce
   refine⟨⟨t.root,fN N⟩,h,?_,c3,by rw [c4];exact Ca hrun hn hm⟩
   rw [show (e.made == u)=false by rw [beq_eq_false_iff_ne];exact hm,cond_false,ye hg.len hg.chk,obs]
   show (ql (σ:=NL × Int) (ρ:=NL) (zk F { e with gone:=u }) F (nlT t,t.root)).bind _=_
   rw [c1,obs,c2,obs]
end
section
variable {F:Nat} [Big F]
def zF (t:DTree):List UInt8:=vg t.root.toNat 2++vg t.nodes.length 2
def vL (t:DTree):ByteArray:=ofL (zF t)
theorem wG (t:DTree):(zF t).length=4:=by unfold zF;rw [t_,uV,uV]
theorem Dt {t:DTree}{h:Nat}(g:Good t h):0≤t.root∧t.root<(t.nodes.length:Int):=by
 have:=g.ok
 cases h with
 | zero=>exact this.1
 | succ h=>exact this.1
theorem GX {t:DTree}{h:Nat}(g:Good t h):((ko F t.root 2).bind fun r1=>(ko F (t.nodes.length:Int) 2).bind fun r2=>(mv r1 r2).bind fun s1=>some s1:Option ByteArray)=some (vL t):=by
 have hr:=Dt g
 have e:t.root=((t.root.toNat:Nat):Int):=by omega
 have h1:ko F t.root 2=some (ofL (vg t.root.toNat 2)):=by
  have:=xw (F:=F) t.root.toNat 2 (by decide)
  rw [← e] at this
  exact this
 have h2:ko F (t.nodes.length:Int) 2=some (ofL (vg t.nodes.length 2)):=xw (F:=F) t.nodes.length 2 (by decide)
 rw [h1,uT,h2,uT,wq (by rw [uV,uV];decide),uT]
 rfl
structure Fine (t:DTree) (l:List DElem):Prop where
 good : ∃ h,Good t h∧uS t.nodes h t.root=l
 run:Run l
 few:t.nodes.length≤100
theorem Fine.all {t:DTree}{l:List DElem}(f:Fine t l):me F t=some (l,0):=by
 obtain⟨h,g,rfl⟩:=f.good
 exact yG (zK g) g
theorem Fine.chk {t:DTree}{l:List DElem}(f:Fine t l):∀ n∈t.nodes,vq n=0:=by
 obtain⟨h,g,rfl⟩:=f.good
 exact g.chk
theorem Fine.check {t:DTree}{l:List DElem}(f:Fine t l):lr F t=some 0:=by
 obtain⟨h,g,rfl⟩:=f.good
 rw [xT g,wV.2 f.run]
structure Kept (R:List ByteArray) (q:Nat) (t:DTree):Prop where
 done:Done ⟨R,[]⟩ q (vL t)
 page : ∀(i:Nat) (n:DNode),t.nodes[i]? = some n→pg R (1+i)=ofL (v9 n)
 small : ∀ j,1≤j→j<101→(pg R j).size≤2900
theorem Ay {n:DNode}(h:vq n=0):(ofL (v9 n)).size≤2900:=by
 have:=AM h
 rw [CF,zz];omega
theorem BP (l:List DNode):∀ a:List DNode,l.foldl (fun a n=>a++[n]) a=a++l:=by
 induction l with
 | nil=>intro a;simp
 | cons x l ih=>intro a;rw [List.foldl_cons,ih];simp
theorem BE {P0:List ByteArray}{W0:List DWrite}{R:List ByteArray}{q:Nat}{t:DTree}{l:List DElem}(hr:lL F ⟨P0,W0⟩=some (⟨R,[]⟩,0))(K:Kept R q t)(f:Fine t l) :
 mc F P0 W0=some (R,[],t.root,t.nodes):=by
 obtain⟨h,g,hl⟩:=f.good
 have hg:=Dt g
 have hn:=f.few
 have hR:R.length=201:=K.done.ok.len
 unfold mc
 rw [hr,uT]
 dsimp only
 rw [show ((0:Int) != 0)=false from rfl,uY,CN K.done.ok,uT]
 dsimp only
 have hsz:(vL t).size=4:=wG t
 have s1:jN (vL t) 2 ((vL t).size:Int)=some (ofL (slc (zF t) 2 4)):=by
  rw [hsz];exact yp (l:=zF t) (a:=2) (b:=4) (by decide) (by rw [wG];decide)
 have s2:jN (vL t) 0 2=some (ofL (slc (zF t) 0 2)):=yp (l:=zF t) (a:=0) (b:=2) (by decide) (by rw [wG];decide)
 have e1:slc (zF t) 2 4=vg t.nodes.length 2:=by
  unfold slc zF
  rw [g8 (by rw [t_,uV,uV];decide)]
  exact Y_ (uV _ _)
 have e2:slc (zF t) 0 2=vg t.root.toNat 2:=by
  unfold slc zF
  rw [List.drop_zero]
  exact X_ (uV _ _)
 rw [s1,s2,e1,e2,hsz,show (((4:Nat):Int) != 4)=false from rfl,uY,uT,wU _ (by rw [uV];decide),uT,uT,wU _ (by rw [uV];decide),uT,wA,wA,
  Nat.mod_eq_of_lt (show t.nodes.length<256 ^ 2 by omega),Nat.mod_eq_of_lt (show t.root.toNat<256 ^ 2 by omega),decide_eq_false (show ¬ (100:Int)<(t.nodes.length:Int) by omega),uY]
 rw [wr (F:=F) t.nodes (fun a n=>a++[n]) [] (r:=.inl t.nodes) (by omega) rfl (fun k n hk=>?_) (by dsimp only;rw [decide_eq_false (by omega),uY,BP];rfl),uT]
 · dsimp only
   rw [show (((t.root.toNat:Nat):Int))=t.root by omega]
   rw [show lr F (DTree.mk t.root t.nodes)=some 0 from f.check,uT]
   rfl
 · have hk1:=(ggs.1 hk).1
   dsimp only
   have hp:pg R (1+k)=ofL (v9 n):=K.page k n hk
   have hc:=f.chk n (C_ hk)
   have hb:=AM hc
   have hlen:((t.nodes.take k).foldl (fun a n=>a++[n]) []).length=k:=by
    rw [BP,o7,p_];omega
   rw [decide_eq_true (by omega),vh,vo (by omega) (by omega),Aq (by omega) (by omega),uT,show (1+(k:Int)).toNat=1+k by omega,hp,Ef _ (by rw [zz];omega),uT,HN hc]
   dsimp only
   rw [show ((0:Int) != 0)=false from rfl,uY,xi (by rw [hlen,v_];omega) (by rw [hlen,v_];omega),uT,vo (by omega) (by omega)]
def yh (R:List ByteArray)(ns:List DNode):List DWrite:=(ns.zipIdx.filter fun p=>decide (pg R (1+p.2)≠ofL (v9 p.1))).map fun p=>⟨((1+p.2:Nat):Int),ofL (v9 p.1)⟩
theorem Ba {R:List ByteArray}{ns:List DNode}{w:DWrite}:w∈yh R ns↔∃ k n,ns[k]? = some n∧pg R (1+k)≠ofL (v9 n)∧w=⟨((1+k:Nat):Int),ofL (v9 n)⟩:=by
 unfold yh
 rw [T_]
 constructor
 · rintro⟨⟨n,k⟩,hm,rfl⟩
   obtain⟨h1,h2⟩:=Q_.1 hm
   exact⟨k,n,K0.1 h1,of_decide_eq_true h2,rfl⟩
 · rintro⟨k,n,h1,h2,rfl⟩
   exact⟨(n,k),Q_.2 ⟨K0.2 h1,decide_eq_true h2⟩,rfl⟩
theorem ES {R:List ByteArray}{t:DTree}{l:List DElem}(f:Fine t l):FitOk (vL t) (yh R t.nodes):=by
 have hn:=f.few
 refine⟨by have:(vL t).size=4:=wG t;omega,?_,fun w hw=>?_,fun w hw=>?_,?_⟩
 · unfold yh
   rw [o_]
   exact o8 (t9 _ _) (by rw [g9];exact hn)
 · obtain⟨k,n,h1,_,rfl⟩:=Ba.1 hw
   have:=(ggs.1 h1).1
   dsimp only;omega
 · obtain⟨k,n,h1,_,rfl⟩:=Ba.1 hw
   exact Ay (f.chk n (C_ h1))
 · unfold yh
   rw [p6]
   refine List.Pairwise.filter _ ?_
   have:(t.nodes.zipIdx.map Prod.snd).Pairwise (·≠·):=by rw [List.zipIdx_map_snd];exact List.nodup_range'
   refine(p6.1 this).imp fun {a b} h=>?_
   dsimp only
   omega
theorem Dp (R:List ByteArray)(l:List (DNode × Nat)):∀ a:List DWrite,l.foldl (fun a p=>if pg R (1+p.2)=ofL (v9 p.1) then a else a++[⟨((1+p.2:Nat):Int),ofL (v9 p.1)⟩]) a=a++(l.filter fun p=>decide (pg R (1+p.2)≠ofL (v9 p.1))).map fun p=>⟨((1+p.2:Nat):Int),ofL (v9 p.1)⟩:=by
 induction l with
 | nil=>intro a;simp
 | cons p l ih =>
  intro a
  rw [List.foldl_cons,ih]
  by_cases h:pg R (1+p.2)=ofL (v9 p.1)
  · rw [if_pos h,G0 (by rw [decide_eq_true_iff];exact fun c=>c h)]
  · rw [if_neg h,E7 (by rw [decide_eq_true_iff];exact h),v5,H_];rfl
theorem Jm (R:List ByteArray)(l:List (DNode × Nat)):(l.foldl (fun a p=>if pg R (1+p.2)=ofL (v9 p.1) then a else a++[⟨((1+p.2:Nat):Int),ofL (v9 p.1)⟩]) ([]:List DWrite)).length≤l.length:=by
 rw [Dp,o7,o_]
 exact t9 _ _
theorem Kept.ground {R:List ByteArray}{q:Nat}{t0 t:DTree}{l:List DElem}(K:Kept R q t0)(f:Fine t l)(hq:q<2147483647):StepsOk ⟨R,[]⟩ (vL t) (yh R t.nodes) q (vL t0):=by
 have ft:=ES (R:=R) f
 refine⟨K.done.ok,ft,fun w hw=>?_,hq⟩
 have:=ft.page w hw
 rw [za]
 exact K.small _ (by omega) (by omega)
theorem Kept.next {R:List ByteArray}{q:Nat}{t0 t:DTree}{l:List DElem}(K:Kept R q t0)(f:Fine t l)(hq:q<2147483647):Kept (P4 q R (vL t) (yh R t.nodes)) (q+1) t:=by
 have g:Ground q R (vL t) (yh R t.nodes):=(K.ground f hq).ground
 have hn:=f.few
 refine⟨Kt g K.done.quiet,fun i n hi=>?_,fun j h1 h2=>?_⟩
 · have hi1:=(ggs.1 hi).1
   by_cases e:pg R (1+i)=ofL (v9 n)
   · rw [DJ g (1+i) (by omega) (by omega) (fun w hw=>?_),e]
     obtain⟨k,m,a1,a2,rfl⟩:=Ba.1 hw
     dsimp only
     intro c
     obtain rfl:k=i:=by omega
     rw [hi] at a1
     obtain rfl:=u_.inj a1
     exact a2 e
   · exact IP g (w:=⟨((1+i:Nat):Int),ofL (v9 n)⟩) (Ba.2 ⟨i,n,hi,e,rfl⟩)
 · by_cases hw : ∃ w∈yh R t.nodes,w.page=(j:Int)
   · obtain⟨w,hw,hp⟩:=hw
     have:=IP g hw
     rw [hp,i_] at this
     rw [this]
     exact g.fit.text w hw
   · rw [DJ g j h1 h2 (fun w hw' c=>hw ⟨w,hw',c⟩)]
     exact K.small j h1 h2
theorem F5 {R:List ByteArray}{q:Nat}{t0 t:DTree}{l:List DElem}(K:Kept R q t0)(f:Fine t l)(hq:q<2147483647) :
 kx F R [] t.root t.nodes=some (P4 q R (vL t) (yh R t.nodes),[],xn q R (vL t) (yh R t.nodes),0):=by
 obtain⟨h,g,hl⟩:=f.good
 have hn:=f.few
 have hR:R.length=201:=K.done.ok.len
 have G:Ground q R (vL t) (yh R t.nodes):=(K.ground f hq).ground
 have hL:=yF q R (vL t) (yh R t.nodes)
 have hcl:=G.fit.len
 have h4:=G.len4
 unfold kx
 rw [GX g,uT]
 have hz:t.nodes.zipIdx.length=t.nodes.length:=g9
 rw [wr (F:=F) t.nodes.zipIdx (fun a p=>if pg R (1+p.2)=ofL (v9 p.1) then a else a++[⟨((1+p.2:Nat):Int),ofL (v9 p.1)⟩]) [] (r:=yh R t.nodes) (by omega) rfl (fun k p hk=>?_) (by dsimp only;rw [decide_eq_false (by omega),uY,Dp];rfl),uT,uT]
 · rw [show og F ⟨R,[]⟩ (vL t) (yh R t.nodes)=some (xn q R (vL t) (yh R t.nodes),0) from GB (K.ground f hq),uT]
   dsimp only
   rw [show ((0:Int) != 0)=false from rfl,uY,vo (by omega) (by omega),Iy G _ rfl,uT]
   dsimp only
   rw [xi (by rw [v7];omega) (by rw [v7];omega),uT,xi (by decide) (by decide),uT,uT]
   rfl
 · obtain⟨n,i⟩:=p
   have hk2:(t.nodes.zipIdx)[k]? = some (n,i):=hk
   rw [C6] at hk2
   obtain⟨m,hm,e⟩:=B1.1 hk2
   obtain⟨rfl,hi⟩:=Prod.mk.inj e
   obtain rfl:k=i:=by omega
   have hk1:=(ggs.1 hm).1
   have hc:=f.chk m (C_ hm)
   have hcx:=Jm R (t.nodes.zipIdx.take k)
   rw [p_] at hcx
   dsimp only
   generalize (t.nodes.zipIdx.take k).foldl _ []=a at hcx ⊢
   rw [decide_eq_true (by omega),vh,wa,hm,uT,Ad m (wt hc),if_pos hc,uT]
   dsimp only
   rw [vo (by omega) (by omega),Aq (by omega) (by omega),uT,show (1+(k:Int)).toNat=1+k by omega]
   by_cases e:pg R (1+k)=ofL (v9 m)
   · rw [if_pos e,e,(tQ _ _).2 rfl,v6,uY,uT,vo (by omega) (by omega)]
   · have hs : seq (pg R (1 + k)) (ofL (v9 m)) = false := by
      cases hh:seq (pg R (1+k)) (ofL (v9 m)) with
      | false=>rfl
      | true=>exact absurd ((tQ _ _).1 hh) e
     rw [if_neg e,hs,Bool.not_false,vh,xi (by rw [v_];omega) (by rw [v_];omega),uT,uT,vo (by omega) (by omega)]
     rfl
theorem FX {R:List ByteArray}{q:Nat}{t0 t:DTree}{l0 l:List DElem}(K:Kept R q t0)(f0:Fine t0 l0)(f:Fine t l)(hq:q<2147483647){e:DDisk}(he:e∈xn q R (vL t) (yh R t.nodes))(bs:List Bool)(hb:bs.length≤9223372036854775807) :
 ∃ D,nU F e bs=some (D,0)∧∃ R' t',mc F D.pages D.writes=some (R',[],t'.root,t'.nodes)∧((t' = t0∧Kept R' q t0)∨(t' = t∧Kept R' (q+1) t)):=by
 have g:Ground q R (vL t) (yh R t.nodes):=(K.ground f hq).ground
 have Kn:=K.next f hq
 unfold xn at he
 have two:GoodD e∧(Mid q R (apply (vT e.writes bs) e.pages)∨apply (vT e.writes bs) e.pages=P4 q R (vL t) (yh R t.nodes)):=by
  rcases g_.1 he with h1 | h1
  · exact FY g K.done.quiet h1 bs
  · obtain rfl:=P_.1 h1
    exact⟨(I4 g).good,.inr rfl⟩
 obtain⟨hg,hm⟩:=two
 refine⟨_,BX hg bs hb,?_⟩
 dsimp only
 rcases hm with m | h4
 · have hsq:=JC K.done m
   have hd:=HO hsq
   have K' : Kept (yo q (apply (vT e.writes bs) e.pages) 100) q t0:=by
    refine⟨hd,fun i n hi=>?_,fun j h1 h2=>?_⟩
    · have hi1:=(ggs.1 hi).1
      have:=f0.few
      rw [DG m (1+i) (by omega) (by omega)]
      exact K.page i n hi
    · rw [DG m j h1 h2];exact K.small j h1 h2
   exact⟨_,t0,BE (Bi hsq) K' f0,.inl ⟨rfl,K'⟩⟩
 · rw [h4]
   exact⟨_,t,BE (Bh Kn.done) Kn f,.inr ⟨rfl,Kn⟩⟩
theorem HG {t:DTree}{h:Nat}(g:Good t h)(hr:Run (uS t.nodes h t.root)):nT F t=some (yf (uS t.nodes h t.root),0):=by
 unfold nT
 rw [yG (zK g) g,uT]
 dsimp only
 have hl:=hr.len
 rw [show ((0:Int) != 0)=false from rfl,uY,EP,uT]
 unfold ofR
 rw [if_neg (by omega),Dh.2 ⟨hr.ok,Dm g⟩]
theorem BL (P:List ByteArray)(W:List DWrite){t t1:DTree}{l:List DElem}(f:Fine t l){h:Nat}(g:Good t1 h)(hr:Run (uS t1.nodes h t1.root)) :
 ∃ t' l' c,jU F P W t.root t.nodes t1.root t1.nodes 0=some (t'.root,t'.nodes,c)∧Fine t' l':=by
 unfold jU
 rw [show ((0:Int) != 0)=false from rfl,uY]
 by_cases hn:(100:Int)<(t1.nodes.length:Int)
 · obtain⟨h',b1,b2,-⟩:=EO hr.len hr.ok (Dm g)
   rw [decide_eq_true hn,vh,show nT F (DTree.mk t1.root t1.nodes)=some (yf (uS t1.nodes h t1.root),0) from HG g hr,uT]
   dsimp only
   generalize uS t1.nodes h t1.root=m at b1 b2 hr
   by_cases hm:(100:Int)<((yf m).nodes.length:Int)
   · rw [decide_eq_true hm,vh,uT]
     exact⟨t,l,8,rfl,f⟩
   · rw [decide_eq_false hm,uY,uT]
     exact⟨yf m,m,0,rfl,⟨⟨h',b1,b2⟩,hr,by omega⟩⟩
 · rw [decide_eq_false hn,uY,uT]
   exact⟨t1,_,0,rfl,⟨⟨h,g,rfl⟩,hr,by omega⟩⟩
omit [Big F] in
theorem Cl (P:List ByteArray)(W:List DWrite){t t1:DTree}{c:Int}(hc:c≠0):jU F P W t.root t.nodes t1.root t1.nodes c=some (t.root,t.nodes,c):=by
 unfold jU
 rw [vD hc,vh]
theorem HS (P:List ByteArray)(W:List DWrite){t:DTree}{l:List DElem}(f:Fine t l)(k:DKey)(v:ByteArray)(u:Int) :
 ∃ t' l' c,kK F P W t.root t.nodes k v u=some (t'.root,t'.nodes,c)∧Fine t' l':=by
 obtain⟨h,g,rfl⟩:=f.good
 unfold kK
 by_cases hz:yn (uS t.nodes h t.root) k v u=0
 · obtain⟨t1,h1,a1,a2,a3⟩:=CY (F:=F) g k v u hz
   obtain⟨hr,hc,hl,hn⟩:=DK.1 hz
   obtain⟨t',l',c,b1,b2⟩:=BL (F:=F) P W f a2 (by rw [a3];exact hr.putR hl hc hn)
   rw [show oV F (DTree.mk t.root t.nodes) k v u=some (t1,0) from a1,uT]
   dsimp only
   rw [b1,uT]
   exact⟨t',l',c,rfl,b2⟩
 · rw [show oV F (DTree.mk t.root t.nodes) k v u=_ from EF g k v u hz,uT]
   dsimp only
   rw [Cl (t1:=zT) P W hz,uT]
   exact⟨t,_,_,rfl,f⟩
theorem HQ (P:List ByteArray)(W:List DWrite){t:DTree}{l:List DElem}(f:Fine t l)(k:DKey)(u:Int) :
 ∃ t' l' c,kJ F P W t.root t.nodes k u=some (t'.root,t'.nodes,c)∧Fine t' l':=by
 obtain⟨h,g,rfl⟩:=f.good
 unfold kJ
 by_cases hz:F0 (uS t.nodes h t.root) k u=0
 · obtain⟨t1,h1,a1,a2,a3⟩:=CX (F:=F) g k u hz
   obtain⟨hr,_,u0,u1,hl,_⟩:=Dj.1 hz
   obtain⟨t',l',c,b1,b2⟩:=BL (F:=F) P W f a2 (by rw [a3];exact hr.cutR hl u0 u1 k)
   rw [show oU F (DTree.mk t.root t.nodes) k u=some (t1,0) from a1,uT]
   dsimp only
   rw [b1,uT]
   exact⟨t',l',c,rfl,b2⟩
 · rw [show oU F (DTree.mk t.root t.nodes) k u=_ from EE g k u hz,uT]
   dsimp only
   rw [Cl (t1:=zT) P W hz,uT]
   exact⟨t,_,_,rfl,f⟩
theorem Fo:Fine newT []:=⟨⟨0,zU,rfl⟩,Run.nil,by decide⟩
def Fn:List ByteArray:=((t6 201 (ofL [])).set 0 (hN 0 (vL newT))).set 1 (ofL (v9 ⟨1,[],[],[],[]⟩))
theorem Kg:mR F=some (Fn,newT.root,newT.nodes):=by
 have hc:vq ⟨1,[],[],[],[]⟩=0:=zU.chk _ (P_.2 rfl)
 have h4:(vL newT).size=4:=wG newT
 unfold mR
 rw [show qV 16 (201:Int)=some () by decide,uT,show (qh:Option DTree)=some newT from rfl,uT,GX zU,uT,show nK F 0 (vL newT)=some (hN 0 (vL newT),0) from GN 0 (by decide) (vL newT) (by omega),uT,Ka,uT,show idx newT.nodes 0=some ⟨1,[],[],[],[]⟩ from rfl,uT,Ad _ (wt hc),if_pos hc,uT]
 dsimp only
 have e1:idx ((t6 ((201:Int).toNat) ((L_ #[]):ByteArray)).set ((0:Int).toNat) (hN 0 (vL newT))) 1=some (pg ((t6 ((201:Int).toNat) ((L_ #[]):ByteArray)).set ((0:Int).toNat) (hN 0 (vL newT))) 1):=Aq (by decide) (by rw [m9,v8];decide)
 rw [e1,uT]
 rfl
theorem Eh (j:Nat):pg Fn j=if j=1 then ofL (v9 ⟨1,[],[],[],[]⟩) else if j=0 then hN 0 (vL newT) else ofL []:=by
 unfold Fn
 rw [yX _ _ _ _ (by rw [m9,v8];decide),yX _ _ _ _ (by rw [v8];decide),Kv]
 by_cases h1:j=1
 · rw [if_pos h1.symm,if_pos h1]
 · rw [if_neg (fun c=>h1 c.symm),if_neg h1]
   by_cases h0:j=0
   · rw [if_pos h0.symm,if_pos h0]
   · rw [if_neg (fun c=>h0 c.symm),if_neg h0]
theorem IJ:Kept Fn 0 newT:=by
 have hc:vq ⟨1,[],[],[],[]⟩=0:=zU.chk _ (P_.2 rfl)
 have h4:(vL newT).size=4:=wG newT
 have hl:Fn.length=201:=by unfold Fn;rw [m9,m9,v8]
 have hx:=Kq 0 (vL newT) (by decide) (by omega)
 have hs : ∀ s∈Fn,s.size≤3500:=fun s hs=>by
  unfold Fn at hs
  rcases List.mem_or_eq_of_mem_set hs with h1 | rfl
  · exact hx.good.pages s h1
  · have:=Ay hc;omega
 refine⟨⟨⟨⟨Nat.le_of_eq hl,W_ _,hs,fun w hw=>by cases hw⟩,hl,?_⟩,rfl,fun i h1 h2=>?_⟩,fun i n hi=>?_,fun j h1 h2=>?_⟩
 · rw [za,Eh,if_neg (by decide),if_pos rfl]
   exact D4 0 (by decide) _ (by omega)
 · dsimp only
   rw [Eh,if_neg (by omega),if_neg (by omega)]
   intro n p t ho
   have hz:yL (ofL [])=none:=by decide
   rw [hz] at ho
   cases ho
 · match i,hi with
   | 0,hi =>
    obtain rfl:(⟨1,[],[],[],[]⟩ : DNode)=n:=u_.inj hi
    rw [Eh,if_pos rfl]
   | i+1,hi=>exact absurd hi (by simp [newT])
 · rw [Eh]
   split
   · exact Ay hc
   · rw [if_neg (by omega)];decide
theorem CW {n m:Int}(hm:0<m)(hn:m≤1000000):∃ r:Nat,ke n m=some (r:Int)∧(r:Int)<m:=by
 unfold ke qf
 have e1:IntKind.u64.wrap m=m:=by simp [IntKind.wrap,IntKind.bits,IntKind.signed];omega
 have e2:0≤IntKind.u64.wrap n:=by simp [IntKind.wrap,IntKind.bits,IntKind.signed];omega
 rw [e1,if_neg (by omega),obs]
 have h3:=Int.tmod_nonneg m e2
 have h4:=Int.tmod_lt_of_pos (IntKind.u64.wrap n) hm
 refine⟨((IntKind.u64.wrap n).tmod m).toNat,?_,by omega⟩
 rw [w64 (by omega) (by omega)]
 congr 1;omega
end
section
variable {F:Nat} [Big F]
theorem CE (c:List Int){i:Int}(h0:0≤i):∃ n,lc c i=some n:=by
 unfold lc
 by_cases h:i<(c.length:Int)
 · rw [decide_eq_true h,cond_true]
   have hx:idx c i=some c[i.toNat]:=by unfold idx;rw [if_neg (by omega),gge (by omega)]
   rw [hx]
   exact⟨_,rfl⟩
 · rw [decide_eq_false h,cond_false]
   exact⟨_,rfl⟩
theorem IC (keys:List DKey){i:Int}(h0:0≤i):∃ a b c,(bif decide (i<(keys.length:Int)) then (idx keys i).bind fun e2=>some (e2.pfs,e2.obj,e2.off) else some (0,0,0):Option (Int × Int × Int))=some (a,b,c):=by
 by_cases h:i<(keys.length:Int)
 · rw [decide_eq_true h,cond_true]
   have hx:idx keys i=some keys[i.toNat]:=by unfold idx;rw [if_neg (by omega),gge (by omega)]
   rw [hx]
   exact⟨_,_,_,rfl⟩
 · rw [decide_eq_false h,cond_false]
   exact⟨_,_,_,rfl⟩
theorem Ji (vals:List ByteArray){i:Int}(h0:0≤i):∃ v,(bif decide (i<(vals.length:Int)) then (idx vals i).bind fun e3=>some e3 else some (L_ #[]):Option ByteArray)=some v:=by
 by_cases h:i<(vals.length:Int)
 · rw [decide_eq_true h,cond_true]
   have hx:idx vals i=some vals[i.toNat]:=by unfold idx;rw [if_neg (by omega),gge (by omega)]
   rw [hx]
   exact⟨_,rfl⟩
 · rw [decide_eq_false h,cond_false]
   exact⟨_,rfl⟩
theorem Ev {σ ρ:Type}{X Y:Option (σ ⊕ ρ)}{M:Nat}{Q:Nat→σ→Prop}(e:X=Y)(h : ∃ m' s',m'<M∧Y=some (.inl s')∧Q m' s'):∃ m' s',m'<M∧X=some (.inl s')∧Q m' s':=e▸h
theorem yP (F:Nat)[Big F](l:List (List Int))(keys:List DKey)(vals:List ByteArray)(bs:List Bool)(ok:xX 24 (xX 8 (Ac .i64)) l)(_:xX 24 okKey keys)(_:xX 16 okStrW vals)(_:xX 1 (fun _=>True) bs)(b0:l.length≤1048576)(_:keys.length≤1048576)(_:vals.length≤1048576)(b3:bs.length≤1048576):mj F l keys vals bs=some true:=by
 unfold mj
 have hb:lV F=some true:=by
  unfold lV
  have hp:putR [] (DKey.mk 0 0 0) (L_ #[97]) 1=[wn (DKey.mk 0 0 0) (L_ #[97]) 1]:=by decide
  rw [Gw,obs,show yn [] (DKey.mk 0 0 0) (L_ #[97]) 1=0 by decide,if_pos rfl,hp]
  show some (seq (L_ #[97]) (L_ #[97]))=some true
  congr 1
  unfold seq
  simp
 rw [Kg,uT,hb,uT,v6,uY,uT,uY]
 refine AX (m:=l.length) (q:=true) (fun m x q=>q=true∧x.2.1=[]∧0≤x.2.2.2.2.2∧x.2.2.2.2.2≤(l.length:Int)∧m=((l.length:Int)-x.2.2.2.2.2).toNat∧∃(n:Nat) (t0:DTree) (l0 l1:List DElem),(n:Int)≤x.2.2.2.2.2∧Kept x.1 n t0∧Fine t0 l0∧Fine ⟨x.2.2.1,x.2.2.2.1⟩ l1) ?_ (by omega) ⟨rfl,rfl,Z_ _,by dsimp only;omega,by dsimp only;omega,0,newT,[],[],Z_ _,IJ,Fo,Fo⟩
 rintro m ⟨x1,x2,x3,x4,x5,x6⟩ q ⟨rfl,hx2,h0,h1,rfl,n,t0,l0,l1,hn,K,f0,f⟩
 dsimp only at hx2 h0 h1 hn K f ⊢
 subst hx2
 by_cases hx:x6<(l.length:Int)
 rotate_left
 · left
   exact⟨.inl (),by rw [decide_eq_false hx,uY],rfl⟩
 · right
   have hi:idx l x6=some l[x6.toNat]:=by unfold idx;rw [if_neg (by omega),gge (by omega)]
   obtain⟨a,b,c,hk⟩:=IC keys h0
   obtain⟨v,hv⟩:=Ji vals h0
   obtain⟨u,hu⟩:=CE l[x6.toNat] (i:=1) (by decide)
   obtain⟨z,hz⟩:=CE l[x6.toNat] (i:=0) (by decide)
   obtain⟨y,hy⟩:=CE l[x6.toNat] (i:=2) (by decide)
   obtain⟨r,hr1,hr2⟩:=CW (n:=z) (m:=3) (by omega) (by omega)
   obtain⟨p,hp1,hp2⟩:=CW (n:=u) (m:=3) (by omega) (by omega)
   have fin : ∀(P:List ByteArray) (t:DTree) (w:Int) {n' : Nat} {t0' : DTree} {l0' l1' : List DElem},(n' : Int)≤x6+1→Kept P n' t0'→Fine t0' l0'→Fine t l1'→∃(m' : Nat) (s' : (List ByteArray) × (List DWrite) × Int × (List DNode) × Int × Int),m'<((l.length:Int)-x6).toNat∧(some (.inl (P,[],t.root,t.nodes,w,IntKind.i64.wrap (x6+1))):Option (((List ByteArray) × (List DWrite) × Int × (List DNode) × Int × Int) ⊕ ((Unit) ⊕ Bool)))=some (.inl s') ∧
    (true=true∧s'.2.1=[]∧0≤s'.2.2.2.2.2∧s'.2.2.2.2.2≤(l.length:Int)∧m' = ((l.length:Int)-s'.2.2.2.2.2).toNat∧∃(n:Nat) (t0:DTree) (l0 l1:List DElem),(n:Int)≤s'.2.2.2.2.2∧Kept s'.1 n t0∧Fine t0 l0∧Fine ⟨s'.2.2.1,s'.2.2.2.1⟩ l1):=fun P t w {n' t0' l0' l1'} hn' k1 k2 k3=>by
    rw [w64 (by omega) (by omega)]
    exact⟨((l.length:Int)-(x6+1)).toNat,_,by omega,rfl,rfl,rfl,by dsimp only;omega,by dsimp only;omega,rfl,n',t0',l0',l1',hn',k1,k2,k3⟩
   rw [decide_eq_true hx,vh,hi,uT]
   refine Ev (congrArg (fun q=>f_ (f_ q _) _) hk) ?_
   rw [uT]
   dsimp only
   refine Ev (congrArg (fun q=>f_ (f_ q _) _) hv) ?_
   rw [uT,hu,uT,hp1,uT,hz,uT,hr1,uT]
   by_cases r0:(r:Int)=0
   · obtain⟨t',l',e,s1,s2⟩:=HS (F:=F) x1 [] f (DKey.mk a b c) v (if (1:Int)<(IntKind.i64.wrap (x5+(p:Int))) then IntKind.i64.wrap (x5+(p:Int)) else 1)
     dsimp only at s1
     rw [beq_iff_eq.2 r0,vh,s1,uT,uT]
     dsimp only
     exact fin x1 t' _ (by omega) K f0 s2
   · rw [show ((r:Int) == 0)=false by rw [beq_eq_false_iff_ne];exact r0,uY]
     by_cases r1:(r:Int)=1
     · obtain⟨t',l',e,s1,s2⟩:=HQ (F:=F) x1 [] f (DKey.mk a b c) (if (1:Int)<(IntKind.i64.wrap (x5+(p:Int))) then IntKind.i64.wrap (x5+(p:Int)) else 1)
       dsimp only at s1
       rw [beq_iff_eq.2 r1,vh,s1,uT,uT]
       dsimp only
       exact fin x1 t' _ (by omega) K f0 s2
     · have hP:x1.length=201:=K.done.ok.len
       have hq:n<2147483647:=by omega
       have hl0:=f0.run.len
       have hl1:=f.run.len
       have hlen:=yF n x1 (vL ⟨x3,x4⟩) (yh x1 x4)
       have hcl:=(ES (R:=x1) f).len
       dsimp only at hcl
       have ho:my F (([]:List ByteArray)++x1) (([]:List DWrite)++[])=some (x1,[],t0.root,t0.nodes):=BE (Bh K.done) K f0
       have hfl:=F5 (F:=F) K f hq
       dsimp only at hfl
       rw [show ((r:Int) == 1)=false by rw [beq_eq_false_iff_ne];exact r1,uY,xi (by rw [v7];omega) (by rw [v7];omega),uT,xi (by decide) (by decide),uT,uT,uT,ho,uT]
       dsimp only
       rw [show me F (DTree.mk t0.root t0.nodes)=_ from f0.all,uT,uT,show me F (DTree.mk x3 x4)=_ from f.all,uT,uT,hfl,uT]
       dsimp only
       obtain⟨i,hi1,hi2⟩:=CW (n:=y) (m:=((xn n x1 (vL ⟨x3,x4⟩) (yh x1 x4)).length:Int)) (by omega) (by omega)
       have hil:i<(xn n x1 (vL ⟨x3,x4⟩) (yh x1 x4)).length:=by omega
       rw [show ((0:Int) != 0)=false from rfl,uY,show (((xn n x1 (vL ⟨x3,x4⟩) (yh x1 x4)).length:Int) == 0)=false by rw [beq_eq_false_iff_ne];omega,uT,uY,hy,uT,hi1,uT,wa,gge hil,uT]
       obtain⟨D,d1,R',t',d2,d3⟩:=FX (F:=F) K f0 f hq (t5 hil) bs (by omega)
       have ft : ∃ n' : Nat,(n' : Int)≤x6+1∧Kept R' n' t'∧∃ l',Fine t' l'∧(l' = l0∨l' = l1):=by
        rcases d3 with ⟨rfl,k⟩ | ⟨rfl,k⟩
        · exact⟨n,by omega,k,l0,f0,.inl rfl⟩
        · exact⟨n+1,by omega,k,l1,f,.inr rfl⟩
       obtain⟨n',hn',k',l',f',hl'⟩:=ft
       have hll:=f'.run.len
       rw [d1,uT]
       dsimp only
       rw [show ((0:Int) != 0)=false from rfl,uY,d2,uT]
       dsimp only
       rw [show me F (DTree.mk t'.root t'.nodes)=_ from f'.all,uT,uT,Il l' l0 (by omega),uT,Il l' l1 (by omega)]
       have hz : ∀(T:Option Bool→Option (((List ByteArray) × (List DWrite) × Int × (List DNode) × Int × Int) ⊕ ((Unit) ⊕ Bool))),T (bif (!decide (l' = l0)) then (some (decide (l' = l1))).bind fun r24=>some (!r24) else some false)=T (some false):=fun T=>by
        congr 1
        rcases hl' with rfl | rfl
        · rw [decide_eq_true rfl];rfl
        · rw [decide_eq_true (p:=l' = l') rfl];cases decide (l' = l0) <;> rfl
       refine Ev (hz (fun q=>f_ (f_ q _) _)) ?_
       rw [uT,uY,uT]
       dsimp only
       exact fin R' t' _ hn' k' f' f'
end
section
open Go.RowKit
theorem IW:ownKnob Tryz.prog.godebug=none:=by kernel_rfl
theorem HL:laidOutB Tryz.prog=true:=by kernel_rfl
theorem KB:xZ Tryz.prog 29 (kU hO) (xX 8 (Ac .i64)):=yl Tryz.underlying29 (by kernel_rfl) (by kernel_rfl) (zV Tryz.underlying3)
theorem Kx:xZ Tryz.prog 22 (kU (kU hO)) (xX 24 (xX 8 (Ac .i64))):=yl Tryz.underlying22 (by kernel_rfl) (by kernel_rfl) KB
theorem KC:xZ Tryz.prog 31 uz okKey:=HB Tryz.underlying31 (by kernel_rfl) rfl (by kernel_rfl) (zV Tryz.underlying3) rfl (by kernel_rfl) (zV Tryz.underlying3) rfl (by kernel_rfl) (zV Tryz.underlying3)
theorem Ky:xZ Tryz.prog 23 (kU uz) (xX 24 okKey):=yl Tryz.underlying23 (by kernel_rfl) (by kernel_rfl) KC
theorem Kz:xZ Tryz.prog 24 (kU eStr) (xX 16 okStrW):=yl Tryz.underlying24 (by kernel_rfl) (by kernel_rfl) (HC Tryz.underlying9)
theorem KA:xZ Tryz.prog 25 (kU eBool) (xX 1 (fun _=>True)):=yl Tryz.underlying25 (by kernel_rfl) (by kernel_rfl) (Gp Tryz.underlying4)
set_option maxRecDepth 100000
def orderSigns:List Char:=[.ofNat 104,.ofNat 97,.ofNat 114,.ofNat 110,.ofNat 101,.ofNat 115,.ofNat 115,.ofNat 32,.ofNat 55,.ofNat 51,.ofNat 53,.ofNat 100,.ofNat 100,.ofNat 49,.ofNat 52,.ofNat 53,.ofNat 55,.ofNat 100,.ofNat 97,.ofNat 102,.ofNat 97,.ofNat 57,.ofNat 51,.ofNat 55,.ofNat 54,.ofNat 98,.ofNat 54,.ofNat 51,.ofNat 97,.ofNat 99,.ofNat 56,.ofNat 57,.ofNat 97,.ofNat 48,.ofNat 99,.ofNat 102,.ofNat 99,.ofNat 50,.ofNat 54,.ofNat 54,.ofNat 53,.ofNat 51,.ofNat 99,.ofNat 49,.ofNat 54,.ofNat 99,.ofNat 56,.ofNat 51,.ofNat 57,.ofNat 48,.ofNat 97,.ofNat 56,.ofNat 97,.ofNat 54,.ofNat 49,.ofNat 49,.ofNat 100,.ofNat 54,.ofNat 50,.ofNat 52,.ofNat 52,.ofNat 98,.ofNat 97,.ofNat 48,.ofNat 102,.ofNat 55,.ofNat 49,.ofNat 48,.ofNat 53,.ofNat 101,.ofNat 52,.ofNat 98,.ofNat 32,.ofNat 99,.ofNat 117,.ofNat 116,.ofNat 32,.ofNat 97,.ofNat 116,.ofNat 32,.ofNat 97,.ofNat 110,.ofNat 110,.ofNat 97,.ofNat 108,.ofNat 105,.ofNat 115,.ofNat 116,.ofNat 47,.ofNat 97,.ofNat 110,.ofNat 110,.ofNat 97,.ofNat 108,.ofNat 116,.ofNat 111,.ofNat 112,.ofNat 46,.ofNat 84,.ofNat 111,.ofNat 112,.ofNat 83,.ofNat 116,.ofNat 111,.ofNat 114,.ofNat 101]
theorem Gq : Tryz.prog.initOrder = "harness 735dd1457dafa9376b63ac89a0cfc26653c16c8390a8a611d6244ba0f7105e4b cut at annalist/annaltop.TopStore" := by kernel_rfl
theorem Ft : ("harness 735dd1457dafa9376b63ac89a0cfc26653c16c8390a8a611d6244ba0f7105e4b cut at annalist/annaltop.TopStore" : String) = String.ofList orderSigns := by kernel_rfl
theorem AA:Tryz.prog.initOrder.toList=orderSigns:=by rw [Gq,Ft];exact String.toList_ofList
theorem JB (P:Program)(h:P.initOrder.toList=orderSigns):P.make=some .cut:=by
 unfold Program.make Program.headLifts
 rw [h]
 kernel_rfl
theorem IG (P:Program)(h:P.initOrder.toList=orderSigns):P.liftsFinal=false:=by
 unfold Program.liftsFinal Program.headLifts
 rw [h]
 kernel_rfl
theorem Ik (P:Program)(h:P.initOrder.toList=orderSigns)(h1:P.laysLater=false)(h2:P.bearsReflect=false)(h3:P.doorFits []=true):P.mayEnter=true:=by
 unfold Program.mayEnter
 rw [h,h1,h2]
 have e:(stripLifts liftWords (behindMainWord (wordsSigns orderSigns))).1=[]:=by kernel_rfl
 have e0 : behindMainWord (wordsSigns orderSigns) = "cut".toList :: (behindMainWord (wordsSigns orderSigns)).tail := by kernel_rfl
 rw [e0] at e ⊢
 dsimp only
 rw [e,h3]
 clear h h1 h2 h3
 change _=true
 kernel_rfl
theorem HM:Tryz.prog.make=some .cut:=JB _ AA
theorem Gu:Tryz.prog.liftsFinal=false:=IG _ AA
theorem Gt:Tryz.prog.mayEnter=true:=Ik _ AA (by kernel_rfl) (by kernel_rfl) (by kernel_rfl)
end
end Go.Proofs.YtaoocidchclpnaaGreat
