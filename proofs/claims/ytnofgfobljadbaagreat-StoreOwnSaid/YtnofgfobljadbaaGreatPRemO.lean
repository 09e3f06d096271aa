/- Plain Lean: what the functions on trees compute. Its conditions: none. -/
import Derived.Test.YtnofgfobljadbaaGreatMTreeO
open List renaming flatMap_cons→a_, flatMap_append→d_, mem_cons_self→f_, mem_cons→g_, length_map→i_, mem_append→j_, length_take→p_, mem_of_getElem?→q_, length_append→t_, mem_map→u_, append_assoc→x_, pairwise_cons→z_, mem_cons_of_mem→B_, flatMap_singleton→C_, length_singleton→D_, mem_flatMap→E_, pairwise_append→F_, length_drop→G_, nodup_append→H_, mem_iff_getElem?→J_, take_append_drop→K_, getElem?_map→L_, append_nil→M_, length_zipIdx→N_, eq_nil_of_length_eq_zero→O_, nodup_cons→P_, mem_append_left→Q_, mem_of_mem_drop→R_, length_eq_one_iff→S_, drop_eq_getElem_cons→T_, cons_append→V_, mem_singleton→W_, mem_append_right→X_, take_add_one→Y_, range→Z_, map_append→g6, mem_of_mem_take→g8, take_of_length_le→g9, mem_zipIdx_iff_getElem?→l7, map_congr_left→l9, getElem?_append_right→m0, getElem?_cons_succ→m4, getElem?_drop→m9, perm_middle→n9, take_left'→o8, drop_left'→p6, foldl_cons→p7, length_set→p8, getElem?_eq_none→t6, replicate→t7, take_length→w6, countP_cons→B2, filter_append→B3, getElem?_zipIdx→C1, getElem?_range→C5, length_cons→C6, mem_of_mem_tail→C7, pairwise_flatMap→E0, range_eq_range'→E1, length_tail→E2, map_map→E3, length_range→E4, drop_drop→E5, filter_eq_self→E6, singleton_append→G0, perm_append_comm→L3, getElem?_append_left→L4, flatten_eq_flatMap→L6, getElem?_set_ne→L7, mem_or_eq_of_mem_set→L8, getElem?_take_of_lt→L9, set_append_right→M1, findSome?_cons→M2, takeWhile_cons_of_pos→M3, takeWhile_cons_of_neg→M4, findIdx?_eq_none_iff→M5, findIdx?_eq_some_iff_getElem→M6, perm_append_comm_assoc→M7
open Int renaming toNat_natCast→l_, le_refl→v8
open Nat renaming le_refl→v_, le_trans→U_, add_zero→w7, zero_add→B1, div_le_div_right→C2, le_of_eq→C4, add_mul_div_right→K0
open Option renaming some→y_, bind→E7, map_eq_some_iff→L5
open Sum renaming inr→I_
namespace Go.Proofs.YtnofgfobljadbaaGreat
set_option linter.unusedSimpArgs false
set_option linter.unusedVariables false
section
section
variable {F:Nat} [Big F]
theorem Ao {σ ρ:Type}{f:(σ->Option ρ)->σ->Option ρ}(Pre:Nat->σ->Prop)(spec:Nat->σ->ρ)(h0:∀s,¬ Pre 0 s)
 (h:∀(m:Nat) (self:σ->Option ρ),(∀s,Pre m s->self s=some (spec m s))->∀s,Pre (m+1) s->f self s=some (spec (m+1) s)):∀(m:Nat) (s:σ),Pre m s->qD f m s=some (spec m s)
 |0,s,hs=>absurd hs (h0 s)
 |m+1,s,hs=>h m (qD f m) (λs hs=>Ao Pre spec h0 h m s hs) s hs
theorem BK (e:Int):(bif (e==0) then some 3 else some e:Option Int)=some (fl e):=by
 unfold fl;by_cases h:e=0
 . subst h;rfl
 . have:(e==0)=false:=by simpa using h
   rw[this,if_neg h];rfl
theorem FG (lo hi x:DSpot)(a b:Bool) :
 (bif (!a) then (bif (!b) then some true else (ji x hi).bind λr6=>some (decide (r6<0)))
  else (ji lo x).bind λr4=>bif decide (r4<=0) then (bif (!b) then some true else (ji x hi).bind λr5=>some (decide (r5<0))) else some false:Option Bool)=some (inS ⟨lo,hi,a,b⟩ x):=by
 simp only[wH,obs];unfold inS;cases a <;> cases b <;> by_cases h1:cmpS lo x<=0 <;> simp[h1]
abbrev SV:=List Bool×Int×Int×Int×Int×Int×Int×Int×Int×Int×Int×Int×Int×Bool×Bool
def Gb (ns:List DNode)(m:Nat):SV->List Bool×Int×Int×Int
 |(x2,x3,x4,x5,x6,x7,x8,x9,x10,x11,x12,x13,x14,x15,x16)=>let r:=vis ns m (x2,x3,x4) x5 x6 ⟨⟨⟨x7,x8,x9⟩,x10⟩,⟨⟨x11,x12,x13⟩,x14⟩,x15,x16⟩;(r.1.1,r.1.2.1,r.1.2.2,r.2)
def K5 (ns:List DNode)(m:Nat):SV->Prop
 |(x2,x3,x4,x5,x6,x7,x8,x9,x10,x11,x12,x13,x14,x15,x16)=>x2.length=ns.length/\unseen x2<m/\0<=x6/\x6+(unseen x2:Int)<=1000
theorem H6 {l:List DNode}(h:l.length<=400):qH 1 (l.length:Int)=some ():=by unfold qH;rw[if_pos ⟨by omega,by omega,by unfold maxLen;omega⟩]
theorem GC {α:Type}(l:List α){i:Int}(h:0<=i):idx l i=l[i.toNat]?:=by unfold idx;rw[if_neg o_]
theorem Bn {ns:List DNode}{i:Int}(h0:0<=i)(h1:i<(ns.length:Int)):idx ns i=some (nd ns i):=by unfold nd;rw[GC _ h0,gge (show i.toNat<ns.length by omega)];rfl
theorem II (ns:List DNode)(seen:List Bool)(i:Int)(hl:seen.length=ns.length) :
 (bif decide (i<0) then some true else bif decide ((ns.length:Int)<=i) then some true else (idx seen i).bind λe2=>bif e2 then some true else (idx ns i).bind λe3=>some (e3.kind==0):Option Bool) =
  some (decide (i<0\/(ns.length:Int)<=i\/(seen[i.toNat]?).getD true=true\/(nd ns i).kind=0)):=by
 by_cases h0:i<0
 . simp[h0]
 by_cases h1:(ns.length:Int)<=i
 . simp[h1,h0]
 have hg:seen[i.toNat]? = some seen[i.toNat]:=gge o_;rw[GC _ o_,Bn o_ o_,hg]
 cases hb:seen[i.toNat] with
 |true=>simp[h0,h1]
 |false=>by_cases hk:(nd ns i).kind=0 <;> simp[h0,h1,hk]
theorem yq {n:DNode}(h:wy n=0):n.elems.length<=8/\n.kids.length<=8:=by
 rcases wE.1 h with h|h|h
 . rw[h.2.1,h.2.2.1];simp
 . have:=h.2.len;rw[h.2.kids];simpa using this
 . have:=h.2.eight;rw[h.2.elems];simpa using this
theorem HM (n:DNode)(d:Int)(h:wy n=0) :
 (bif (decide ((0:Int)<d)&&decide (IntKind.i64.wrap ((n.elems.length:Int)+(n.kids.length:Int))<4)) then ((bif ((0:Int)==0) then some 3 else some 0:Option Int).bind λz8=>some z8) else some 0:Option Int) =
  some (if 0<d/\n.elems.length+n.kids.length<4 then 3 else 0):=by
 obtain⟨h1,h2⟩:=yq h;rw[w64 o_ o_];by_cases hd:0<d <;> by_cases hf:(n.elems.length:Int)+(n.kids.length:Int)<4
 . rw[if_pos ⟨hd,by omega⟩];simp[hd,hf]
 . rw[if_neg o_];simp[hf]
 . rw[if_neg o_];simp[hd]
 . rw[if_neg o_];simp[hd]
theorem G8 (ns:List DNode)(hns:∀n∈ns,wy n=0)(hs':∀n∈ns,Small n)(m:Nat)(self:SV->Option (List Bool×Int×Int×Int))(ih:∀s,K5 ns m s->self s=some (Gb ns m s))
 (x2:List Bool) (x3 x4 x5 x6:Int) (s:Span) (hlen:x2.length=ns.length) (hun:unseen x2<m+1) (hd0:0<=x6) (hd1:x6+(unseen x2:Int)<=1000) :
 (
  bif (x4 !=0) then
   some (x2,x3,x4,0)
   else
    (
     bif decide (x5<0) then
      some true
      else
       bif decide ((ns.length:Int)<=x5) then
        some true
       else
        (idx x2 x5).bind λe2 =>
        bif e2 then
         some true
        else
         (idx ns x5).bind λe3 =>
         some (e3.kind==0):Option (Bool)).bind λz5 =>
    bif z5 then
     (
      bif (x4==0) then
       some 3
       else
        some x4:Option (Int)).bind λz6 =>
     some (x2,x3,z6,0)
    else
     (idx x2 x5).bind λe4 =>
     (idx ns x5).bind λe5 =>
     (
      bif ((decide ((0:Int)<x6))&&(decide ((IntKind.i64.wrap ((e5.elems.length:Int)+(e5.kids.length:Int)))<4))) then
       (
        bif (x4==0) then
         some 3
         else
          some x4:Option (Int)).bind λz8 =>
       some z8
       else
        some x4:Option (Int)).bind λz7 =>
     bif (e5.kind==1) then
      (
       bif decide (x3<0) then
        some x6
        else
         some x3:Option (Int)).bind λz9 =>
      (
       bif (z9 !=x6) then
        (
         bif (z7==0) then
          some 3
          else
           some z7:Option (Int)).bind λz11 =>
        some z11
        else
         some z7:Option (Int)).bind λz10 =>
      (iter (σ:=Int×Int) (ρ:=Int) (λx=>match x with
       |(x17,x18) =>
        bif decide (x18<(e5.elems.length:Int)) then
         (
          (idx e5.elems x18).bind λe6 =>
           (i8 e6).bind λr3 =>
           (
            (
             bif (!s.hasLo) then
              bif (!s.hasHi) then
               some true
              else
               (ji r3 (DSpot.mk (DKey.mk s.hi.key.pfs s.hi.key.obj s.hi.key.off) s.hi.made)).bind λr6 =>
               some (decide (r6<0))
              else
               (ji (DSpot.mk (DKey.mk s.lo.key.pfs s.lo.key.obj s.lo.key.off) s.lo.made) r3).bind λr4 =>
               bif decide (r4<=0) then
                bif (!s.hasHi) then
                 some true
                else
                 (ji r3 (DSpot.mk (DKey.mk s.hi.key.pfs s.hi.key.obj s.hi.key.off) s.hi.made)).bind λr5 =>
                 some (decide (r5<0))
               else
                some false:Option (Bool)).bind λz15 =>
             some z15:Option (Bool)).bind λz14 =>
           bif (!z14) then
            (
             bif (x17==0) then
              some 3
              else
               some x17:Option (Int)).bind λz16 =>
            some z16
           else
            some x17:Option (Int)).bind λz13 =>
         some (.inl (z13,IntKind.i64.wrap (x18+1)))
         else
          some (.inr x17)) F (z10,0)).bind λz12 =>
      (iZ F e5).bind λr7 =>
      some ((x2.set x5.toNat true),z9,z12,r7)
     else
      (iter (σ:=(List Bool)×Int×Int×Int) (ρ:=(List Bool)×Int×Int) (λx=>match x with
       |(x19,x20,x21,x22) =>
        bif decide (x22<(e5.kids.length:Int)) then
         (
          (idx e5.kids x22).bind λe7 =>
           (
            bif decide ((0:Int)<x22) then
             (idx e5.seps (IntKind.i64.wrap (x22-1))).bind λe8 =>
             (
              (
               bif (!s.hasLo) then
                bif (!s.hasHi) then
                 some true
                else
                 (ji e8 (DSpot.mk (DKey.mk s.hi.key.pfs s.hi.key.obj s.hi.key.off) s.hi.made)).bind λr10 =>
                 some (decide (r10<0))
                else
                 (ji (DSpot.mk (DKey.mk s.lo.key.pfs s.lo.key.obj s.lo.key.off) s.lo.made) e8).bind λr8 =>
                 bif decide (r8<=0) then
                  bif (!s.hasHi) then
                   some true
                  else
                   (ji e8 (DSpot.mk (DKey.mk s.hi.key.pfs s.hi.key.obj s.hi.key.off) s.hi.made)).bind λr9 =>
                   some (decide (r9<0))
                 else
                  some false:Option (Bool)).bind λz30 =>
               some z30:Option (Bool)).bind λz29 =>
             bif (!z29) then
              (
               bif (x21==0) then
                some 3
                else
                 some x21:Option (Int)).bind λz31 =>
              some (e8.key.pfs,e8.key.obj,e8.key.off,e8.made,true,z31)
             else
              some (e8.key.pfs,e8.key.obj,e8.key.off,e8.made,true,x21)
             else
              some (s.lo.key.pfs,s.lo.key.obj,s.lo.key.off,s.lo.made,s.hasLo,x21):Option (Int×Int×Int×Int×Bool×Int)).bind λz=>match z with
            |(z23,z24,z25,z26,z27,z28) =>
             (
              bif decide (x22<(e5.seps.length:Int)) then
               (idx e5.seps x22).bind λe9 =>
               some (e9.key.pfs,e9.key.obj,e9.key.off,e9.made,true)
               else
                some (s.hi.key.pfs,s.hi.key.obj,s.hi.key.off,s.hi.made,s.hasHi):Option (Int×Int×Int×Int×Bool)).bind λz=>match z with
              |(z32,z33,z34,z35,z36) =>
               (idx e5.tids x22).bind λe10 =>
               (self (x19,x20,z28,e7,IntKind.i64.wrap (x6+1),z23,z24,z25,z26,z32,z33,z34,z35,z27,z36)).bind λz=>match z with
                |(z37,z38,z39,z40) =>
                 bif (z40 !=e10) then
                  (
                   bif (z39==0) then
                    some 3
                    else
                     some z39:Option (Int)).bind λz41 =>
                  some (z37,z38,z41)
                 else
                  some (z37,z38,z39):Option ((List Bool)×Int×Int)).bind λz=>match z with
          |(z20,z21,z22) =>
           some (.inl (z20,z21,z22,IntKind.i64.wrap (x22+1)))
         else
          some (.inr (x19,x20,x21))) F ((x2.set x5.toNat true),x3,z7,0)).bind λz=>match z with
       |(z17,z18,z19) =>
        (iZ F e5).bind λr11 =>
        some (z17,z18,z19,r11):Option (List Bool×Int×Int×Int))=some (let r:=vis ns (m+1) (x2,x3,x4) x5 x6 s;(r.1.1,r.1.2.1,r.1.2.2,r.2)):=by
 rw[vis];dsimp only;by_cases h4:x4=0;rotate_left
 . rw[vn h4,cond_true,if_pos h4]
 subst h4;rw[show ((0:Int) !=0)=false from rfl,cond_false,if_neg s_,II ns x2 x5 hlen,obs];by_cases hbad:x5<0\/(ns.length:Int)<=x5\/(x2[x5.toNat]?).getD true=true\/(nd ns x5).kind=0
 . rw[decide_eq_true hbad,cond_true,if_pos hbad];rfl
 rw[decide_eq_false hbad,cond_false,if_neg hbad];have h0:0<=x5:=o_;have h1:x5<(ns.length:Int):=o_
 have hx:x2[x5.toNat]? = some false:=by
  have hg:x2[x5.toNat]? = some x2[x5.toNat]:=gge o_
  cases hb:x2[x5.toNat] with
  |false=>rw[hg,hb]
  |true=>rw[hg,hb] at hbad;simp at hbad
 have hn0:=hns _ (xR h0 h1);have hsm:=hs' _ (xR h0 h1);rw[GC _ h0,hx,obs,Bn h0 h1,obs,HM _ x6 hn0,obs];generalize (if 0<x6/\(nd ns x5).elems.length+(nd ns x5).kids.length<4 then (3:Int) else 0)=e1;by_cases hk:(nd ns x5).kind=1
 . rw[show ((nd ns x5).kind==1)=true by simpa using hk,cond_true,if_pos hk];have hd:(bif decide (x3<0) then some x6 else some x3:Option Int)=some (if x3<0 then x6 else x3):=by by_cases h:x3<0 <;> simp[h]
   rw[hd,obs];generalize (if x3<0 then x6 else x3)=dp
   have he2:(bif (dp !=x6) then ((bif (e1==0) then some 3 else some e1:Option Int).bind λz11=>some z11) else some e1:Option Int)=some (if dp≠x6 then fl e1 else e1):=by
    rw[BK];by_cases h:dp=x6
    . simp[h]
    . rw[show (dp !=x6)=true by simpa using h,if_pos h];rfl
   rw[he2,obs];generalize (if dp≠x6 then fl e1 else e1)=e2;have h8:=(yq hn0).1;rw[vq (nd ns x5).elems (λe x=>if inS s (wg x) then e else fl e) e2 (r:=(nd ns x5).elems.foldl (λe x=>if inS s (wg x) then e else fl e) e2) o_ rfl ?hs ?he]
   case hs =>
    intro k e hk;have hkl:=(ggs.1 hk).1;dsimp only;generalize List.foldl _ e2 (List.take k (nd ns x5).elems)=acc;rw[show decide ((k:Int)<((nd ns x5).elems.length:Int))=true from decide_eq_true o_,cond_true,vD,hk,obs,wr,obs,FG,obs,obs,w64 o_ o_]
    cases hb:inS ⟨s.lo,s.hi,s.hasLo,s.hasHi⟩ (wg e) with
    |true=>rfl
    |false=>rw[BK];rfl
   case he =>
    dsimp only;rw[show decide (((nd ns x5).elems.length:Int)<((nd ns x5).elems.length:Int))=false from decide_eq_false o_];rfl
   rw[obs,xi _ hsm];rfl
 . rw[show ((nd ns x5).kind==1)=false by simpa using hk,cond_false,if_neg hk];have hin:=(yf hns ⟨h0,h1⟩ ⟨λh=>hbad (.inr (.inr (.inr h))),hk⟩).2;have h8:=hin.eight;have hu:unseen (x2.set x5.toNat true)+1=unseen x2:=DE hx
   have hkeep:∀k,xK (x2.set x5.toNat true) (((nd ns x5).kids.zipIdx.take k).foldl (xM (nd ns x5) (vis ns m) s x6) (x2.set x5.toNat true,x3,e1)).1:=λk =>
    CB (n:=nd ns x5) (Cu ns m) s x6 ((nd ns x5).kids.zipIdx.take k) (x2.set x5.toNat true,x3,e1)
   rw[qi (λk=>((((nd ns x5).kids.zipIdx.take k).foldl (xM (nd ns x5) (vis ns m) s x6) (x2.set x5.toNat true,x3,e1)).1,(((nd ns x5).kids.zipIdx.take k).foldl (xM (nd ns x5) (vis ns m) s x6) (x2.set x5.toNat true,x3,e1)).2.1,(((nd ns x5).kids.zipIdx.take k).foldl (xM (nd ns x5) (vis ns m) s x6) (x2.set x5.toNat true,x3,e1)).2.2,(k:Int)))
    (nd ns x5).kids.length (r:=(nd ns x5).kids.zipIdx.foldl (xM (nd ns x5) (vis ns m) s x6) (x2.set x5.toNat true,x3,e1)) (s:=(x2.set x5.toNat true,x3,e1,(0:Int))) rfl o_ ?hs ?he]
   case hs =>
    intro k hkl;have hkk:(nd ns x5).kids[k]? = some (nd ns x5).kids[k]:=gge hkl;have htk:(nd ns x5).kids.zipIdx.take (k+1)=(nd ns x5).kids.zipIdx.take k++[((nd ns x5).kids[k],k)]:=(by rw[Y_,C1,hkk];simp);have hK:=hkeep k;dsimp only;rw[htk,List.foldl_append,p7,List.foldl_nil];revert hK;generalize List.foldl (xM (nd ns x5) (vis ns m) s x6) (x2.set x5.toNat true,x3,e1) (List.take k (nd ns x5).kids.zipIdx)=st;intro hK;obtain⟨y1,y2,y3⟩:=st;dsimp only at hK ⊢;have hul:=hK.unseen;have hll:=hK.1;rw[p8] at hll;rw[show decide ((k:Int)<((nd ns x5).kids.length:Int))=true from decide_eq_true o_,cond_true,vD,hkk,obs]
    have hlo:(bif decide ((0:Int)<(k:Int)) then
     (idx (nd ns x5).seps (IntKind.i64.wrap ((k:Int)-1))).bind λe8 =>
     (
      (
       bif (!s.hasLo) then
        bif (!s.hasHi) then
         some true
        else
         (ji e8 (DSpot.mk (DKey.mk s.hi.key.pfs s.hi.key.obj s.hi.key.off) s.hi.made)).bind λr10 =>
         some (decide (r10<0))
        else
         (ji (DSpot.mk (DKey.mk s.lo.key.pfs s.lo.key.obj s.lo.key.off) s.lo.made) e8).bind λr8 =>
         bif decide (r8<=0) then
          bif (!s.hasHi) then
           some true
          else
           (ji e8 (DSpot.mk (DKey.mk s.hi.key.pfs s.hi.key.obj s.hi.key.off) s.hi.made)).bind λr9 =>
           some (decide (r9<0))
         else
          some false:Option (Bool)).bind λz30 =>
       some z30:Option (Bool)).bind λz29 =>
     bif (!z29) then
      (
       bif (y3==0) then
        some 3
        else
         some y3:Option (Int)).bind λz31 =>
      some (e8.key.pfs,e8.key.obj,e8.key.off,e8.made,true,z31)
     else
      some (e8.key.pfs,e8.key.obj,e8.key.off,e8.made,true,y3)
     else
      some (s.lo.key.pfs,s.lo.key.obj,s.lo.key.off,s.lo.made,s.hasLo,y3):Option (Int×Int×Int×Int×Bool×Int)) =
     some ((yp (nd ns x5) s k).lo.key.pfs,(yp (nd ns x5) s k).lo.key.obj,(yp (nd ns x5) s k).lo.key.off,(yp (nd ns x5) s k).lo.made,(yp (nd ns x5) s k).hasLo,if wS (nd ns x5) s k then fl y3 else y3):=by
     cases k with
     |zero=>rfl
     |succ j =>
      have hsep:=hin.seps;have hj:(nd ns x5).seps[j]? = some (nd ns x5).seps[j]:=gge o_;rw[show decide ((0:Int)<((j+1:Nat):Int))=true from decide_eq_true o_,cond_true,w64 o_ o_,show (((j+1:Nat):Int)-1)=(j:Int) by omega,vD,hj,obs,FG,obs,obs];have e1:yp (nd ns x5) s (j+1) = { s with lo:=(nd ns x5).seps[j],hasLo:=true }:=(by show (match (nd ns x5).seps[j]? with|some x=>_|none=>s)=_;rw[hj]);have e2:wS (nd ns x5) s (j+1) = !inS s (nd ns x5).seps[j]:=(by show (match (nd ns x5).seps[j]? with|some x=>_|none=>false)=_;rw[hj]);rw[e1,e2];show ((bif !inS s (nd ns x5).seps[j] then _ else _:Option _))=_
      cases hb:inS s (nd ns x5).seps[j] with
      |true=>rfl
      |false=>rw[BK];rfl
    rw[hlo,obs];dsimp only
    have hhi:(bif decide ((k:Int)<((nd ns x5).seps.length:Int)) then (idx (nd ns x5).seps (k:Int)).bind λe9=>some (e9.key.pfs,e9.key.obj,e9.key.off,e9.made,true)
     else some (s.hi.key.pfs,s.hi.key.obj,s.hi.key.off,s.hi.made,s.hasHi):Option (Int×Int×Int×Int×Bool)) =
     some ((wC (nd ns x5) s k).hi.key.pfs,(wC (nd ns x5) s k).hi.key.obj,(wC (nd ns x5) s k).hi.key.off,(wC (nd ns x5) s k).hi.made,(wC (nd ns x5) s k).hasHi):=by
     have hl1:(yp (nd ns x5) s k).hi=s.hi/\(yp (nd ns x5) s k).hasHi=s.hasHi:=by
      unfold yp;split
      . exact⟨rfl,rfl⟩
      . split <;> exact⟨rfl,rfl⟩
     unfold wC CK;by_cases hks:k<(nd ns x5).seps.length
     . have hj:(nd ns x5).seps[k]? = some (nd ns x5).seps[k]:=gge hks;rw[show decide ((k:Int)<((nd ns x5).seps.length:Int))=true from decide_eq_true o_,cond_true,vD,hj];rfl
     . have hj:(nd ns x5).seps[k]? = none:=t6 o_;rw[show decide ((k:Int)<((nd ns x5).seps.length:Int))=false from decide_eq_false o_,cond_false,hj,hl1.1,hl1.2]
    rw[hhi,obs];dsimp only;obtain⟨tk,htid⟩:∃tk,(nd ns x5).tids[k]? = some tk:=⟨_,gge (by have:=hin.tids;omega)⟩;have hlow:(wC (nd ns x5) s k).lo=(yp (nd ns x5) s k).lo/\(wC (nd ns x5) s k).hasLo=(yp (nd ns x5) s k).hasLo:=(by unfold wC CK;split <;> exact⟨rfl,rfl⟩);rw[vD,htid,obs,<-hlow.1,<-hlow.2,w64 (n:=x6+1) o_ o_,ih _ ⟨show y1.length=ns.length by omega,show unseen y1<m by omega,show 0<=x6+1 by omega,show x6+1+(unseen y1:Int)<=1000 by omega⟩,obs,w64 (n:=(k:Int)+1) o_ o_];unfold Gb xM;dsimp only;rw[htid];show ((bif ((vis ns m (y1,y2,_) _ (x6+1) (wC (nd ns x5) s k)).2 !=_) then _ else _:Option _).bind _)=_;generalize vis ns m (y1,y2,if wS (nd ns x5) s k=true then fl y3 else y3) (nd ns x5).kids[k] (x6+1) (wC (nd ns x5) s k)=r;rw[Option.getD_some];by_cases hr:r.2=tk
    . rw[show (r.2 !=tk)=false by simpa using hr,cond_false,if_neg (by simpa using hr)];rfl
    . rw[show (r.2 !=tk)=true by simpa using hr,cond_true,if_pos (by simpa using hr),BK];rfl
   case he =>
    dsimp only;rw[show decide (((nd ns x5).kids.length:Int)<((nd ns x5).kids.length:Int))=false from decide_eq_false o_,g9 s_];rfl
   rw[obs];dsimp only;rw[xi _ hsm];rfl
theorem DS (t:DTree)(hs':∀n∈t.nodes,Small n):oh F t=some (IR F t):=by
 unfold oh IR;by_cases hl:400<t.nodes.length
 . rw[show decide ((400:Int)<(t.nodes.length:Int))=true from decide_eq_true o_,cond_true,if_pos hl]
 rw[show decide ((400:Int)<(t.nodes.length:Int))=false from decide_eq_false o_,cond_false,if_neg hl];rw[vj t.nodes (λn=>(if wy n≠0 then some (wy n) else none).map I_) (.inl ()) o_ rfl (λk e hk=>?_) s_];rotate_left
 . have hkl:=(ggs.1 hk).1;rw[show decide ((k:Int)<(t.nodes.length:Int))=true from decide_eq_true o_,cond_true,vD,hk,obs,zv e (hs' e (q_ hk)),obs];by_cases hc:wy e=0
   . rw[vd hc,cond_false,if_neg (show ¬ (wy e≠0) by simpa using hc),w64 o_ o_];rfl
   . rw[vn hc,cond_true,if_pos (show (wy e≠0) by simpa using hc)];rfl
 rw[xE,obs]
 cases hf:t.nodes.findSome? λn=>if wy n≠0 then some (wy n) else none with
 |some e=>rfl
 |none =>
  rw[List.findSome?_eq_none_iff] at hf
  have hns:∀n∈t.nodes,wy n=0:=λn hn=>by
   have:=hf n hn;split at this
   . cases this
   . rename_i h;simpa using h
  show (qH 1 (t.nodes.length:Int)).bind _=_;rw[H6 o_,obs];rw[Ao (K5 t.nodes) (Gb t.nodes) ?h0 ?hstep F _ ?hpre]
  case h0 =>
   rintro⟨x2,x3,x4,x5,x6,x7,x8,x9,x10,x11,x12,x13,x14,x15,x16⟩ ⟨_,h,_⟩;exact absurd h (Nat.not_lt_zero _)
  case hpre =>
   have:=DT (t7 (t.nodes.length:Int).toNat false);rw[List.length_replicate] at this;exact⟨by simp,sv o_,v8 _,by show (0:Int)+_<=_;omega⟩
  case hstep =>
   rintro m self ih ⟨x2,x3,x4,x5,x6,x7,x8,x9,x10,x11,x12,x13,x14,x15,x16⟩ ⟨hlen,hun,hd0,hd1⟩;exact G8 t.nodes hns hs' m self ih x2 x3 x4 x5 x6 ⟨⟨⟨x7,x8,x9⟩,x10⟩,⟨⟨x11,x12,x13⟩,x14⟩,x15,x16⟩ hlen hun hd0 hd1
  have hv:Gb t.nodes F (t7 (t.nodes.length:Int).toNat false,-1,0,t.root,0,0,0,0,0,0,0,0,0,false,false)=((zQ F t).1.1,(zQ F t).1.2.1,(zQ F t).1.2.2,(zQ F t).2):=by unfold Gb zQ topS;rw[l_]
  rw[hv,obs];dsimp only;have hvl:(zQ F t).1.1.length=t.nodes.length:=by have:=(Cu t.nodes F (t7 t.nodes.length false,-1,0) t.root 0 topS).1;unfold zQ;rw[this];simp
  rw[vq t.nodes.zipIdx (λe p=>if p.1.kind≠0/\((zQ F t).1.1[p.2]?).getD true=false then fl e else e) (zQ F t).1.2.2 (r:=t.nodes.zipIdx.foldl (λe p=>if p.1.kind≠0/\((zQ F t).1.1[p.2]?).getD true=false then fl e else e) (zQ F t).1.2.2) (by rw[N_];omega) rfl ?hs ?he]
  case hs =>
   intro k e hk;have hk':=hk;rw[C1] at hk'
   obtain⟨n,hn,rfl⟩:∃n,t.nodes[k]? = some n/\(n,k)=e:=by
    cases hn:t.nodes[k]? with
    |none=>rw[hn] at hk';cases hk'
    |some n=>rw[hn] at hk';exact⟨n,rfl,by simpa using hk'⟩
   have hkl:=(ggs.1 hn).1;have hg:(zQ F t).1.1[k]? = some (zQ F t).1.1[k]:=gge o_;dsimp only;generalize List.foldl _ (zQ F t).1.2.2 (List.take k t.nodes.zipIdx)=acc;rw[show decide ((k:Int)<(t.nodes.length:Int))=true from decide_eq_true o_,cond_true,vD,hn,obs,vD,hg,w64 o_ o_];by_cases h0:n.kind=0
   . rw[vd h0,cond_false,obs,cond_false,obs,if_neg (λh=>h.1 h0)]
   . rw[vn h0,cond_true,obs,obs]
     cases hb:(zQ F t).1.1[k] with
     |true=>rw[if_neg s_];rfl
     |false=>rw[if_pos ⟨h0,rfl⟩,BK];rfl
  case he =>
   dsimp only;rw[N_,show decide ((t.nodes.length:Int)<(t.nodes.length:Int))=false from decide_eq_false o_];rfl
  rfl
def wB (ns:List DNode):Nat->Int->List DElem
 |0,_=>[]
 |m+1,i=>(nd ns i).elems++(nd ns i).kids.flatMap (wB ns m)
theorem Ce {ns:List DNode}(hns:∀n∈ns,wy n=0):∀(h m:Nat) (i d:Int) (s:Span),okN ns h i d s->h<m->wB ns m i=wb ns h i:=by
 intro h
 induction h with
 |zero=>intro m i d s hok hm;obtain⟨m,rfl⟩:∃q,m=q+1:=⟨m-1,by omega⟩;rw[wB,wb,(zi hns hok.1 hok.2.1).kids];simp
 |succ h ih =>
  intro m i d s hok hm;obtain⟨m,rfl⟩:∃q,m=q+1:=⟨m-1,by omega⟩;rw[wB,wb,(yf hns hok.1 hok.2.1).2.elems,List.nil_append]
  have:∀l:List Int,(∀k∈l,wB ns m k=wb ns h k)->l.flatMap (wB ns m)=l.flatMap (wb ns h):=by
   intro l
   induction l with
   |nil=>intro _;rfl
   |cons a l ihl=>intro hl;rw[a_,a_,hl a f_,ihl λk hk=>hl k (B_ _ hk)]
  exact this _ λk hk=>by obtain⟨q,hq⟩:=J_.1 hk;exact ih m k _ _ (hok.2.2.2 (k,q) (by rw[l7];exact hq)).1 o_
def Ec (ns:List DNode)(m:Nat)(i:Int):Prop:=∃(h:Nat) (d:Int) (s:Span),h<m/\okN ns h i d s
theorem Ec.kids {ns:List DNode}(hns:∀n∈ns,wy n=0){m:Nat}{i:Int}(h:Ec ns (m+1) i):(0<=i/\i<(ns.length:Int))/\∀k∈(nd ns i).kids,Ec ns m k:=by
 obtain⟨h,d,s,hm,hok⟩:=h
 cases h with
 |zero=>refine⟨hok.1,λk hk=>?_⟩;rw[(zi hns hok.1 hok.2.1).kids] at hk;cases hk
 |succ h=>refine⟨hok.1,λk hk=>?_⟩;obtain⟨q,hq⟩:=J_.1 hk;exact⟨h,_,_,by omega,(hok.2.2.2 (k,q) (by rw[l7];exact hq)).1⟩
theorem D3 {α:Type}(l:List α):∀a:List α,l.foldl (λl e=>l++[e]) a=a++l:=by
 induction l with
 |nil=>intro a;simp
 |cons x l ih=>intro a;rw[p7,ih,x_];rfl
def KS (ns:List DNode)(m:Nat)(x:List DElem×Int):Prop:=Ec ns m x.2/\x.1.length+(wB ns m x.2).length<=100000
theorem IC (ns:List DNode)(hns:∀n∈ns,wy n=0)(m:Nat)(self:List DElem×Int->Option (List DElem))(ih:∀x,KS ns m x->self x=some (x.1++wB ns m x.2))(x1:List DElem)(x2:Int)
 (hpre:KS ns (m+1) (x1,x2)):(
  (idx ns x2).bind λe1 =>
   (iter (σ:=(List DElem)×Int) (ρ:=(List DElem)) (λx=>match x with
    |(x3,x4) =>
     bif decide (x4<(e1.elems.length:Int)) then
      (idx e1.elems x4).bind λe2 =>
      (
       (grow 56 x3 [e2]).bind λ_ =>
        some ():Option (Unit)).bind λ_ =>
      some (.inl ((x3++[e2]),IntKind.i64.wrap (x4+1)))
      else
       some (.inr x3)) F (x1,0)).bind λz3 =>
   (iter (σ:=(List DElem)×Int) (ρ:=(List DElem)) (λx=>match x with
    |(x5,x6) =>
     bif decide (x6<(e1.kids.length:Int)) then
      (idx e1.kids x6).bind λe3 =>
      (self (x5,e3)).bind λz5 =>
      some (.inl (z5,IntKind.i64.wrap (x6+1)))
      else
       some (.inr x5)) F (z3,0)).bind λz4 =>
   some z4:Option (List DElem))=some (x1++wB ns (m+1) x2):=by
 obtain⟨hok,hlen⟩:=hpre;obtain⟨⟨h0,h1⟩,hkids⟩:=hok.kids hns;dsimp only at hlen h0 h1 hkids;obtain⟨h8,h8'⟩:=yq (hns _ (xR h0 h1));rw[wB] at hlen ⊢;rw[t_] at hlen;rw[Bn h0 h1,obs];rw[vq (nd ns x2).elems (λl e=>l++[e]) x1 (r:=x1++(nd ns x2).elems) o_ rfl ?hs ?he]
 case hs =>
  intro k e hk;have hkl:=(ggs.1 hk).1;dsimp only;rw[D3];rw[show decide ((k:Int)<((nd ns x2).elems.length:Int))=true from decide_eq_true o_,cond_true,vD,hk,obs,vM (by rw[t_,p_,D_];omega) (by rw[t_,p_,D_];omega),w64 o_ o_];rfl
 case he =>
  dsimp only;rw[show decide (((nd ns x2).elems.length:Int)<((nd ns x2).elems.length:Int))=false from decide_eq_false o_,D3];rfl
 rw[obs];rw[vq (nd ns x2).kids (λl k=>l++wB ns m k) (x1++(nd ns x2).elems) (r:=x1++(nd ns x2).elems++(nd ns x2).kids.flatMap (wB ns m)) o_ rfl ?hs ?he]
 case hs =>
  intro k e hk;have hkl:=(ggs.1 hk).1
  have hfl:∀(l:List Int) (a:List DElem),l.foldl (λl k=>l++wB ns m k) a=a++l.flatMap (wB ns m):=by
   intro l
   induction l with
   |nil=>intro a;simp
   |cons y l ihl=>intro a;rw[p7,ihl,a_,x_]
  dsimp only;rw[hfl];have hsub:((nd ns x2).kids.take k).flatMap (wB ns m)++wB ns m e <+: (nd ns x2).kids.flatMap (wB ns m):=by refine⟨((nd ns x2).kids.drop (k+1)).flatMap (wB ns m),?_⟩;rw[<-C_ (wB ns m) e,<-d_,<-d_,x_];congr 1;rw[G0];have e2:e=(nd ns x2).kids[k]:=(by rw[gge hkl] at hk;exact(y_.inj hk).symm);rw[e2,<-T_ hkl,K_]
  have hle:=hsub.length_le;rw[t_] at hle;rw[show decide ((k:Int)<((nd ns x2).kids.length:Int))=true from decide_eq_true o_,cond_true,vD,hk,obs,ih _ ⟨hkids e (q_ hk),by dsimp only;rw[t_,t_];omega⟩,obs,w64 o_ o_]
 case he =>
  have hfl:∀(l:List Int) (a:List DElem),l.foldl (λl k=>l++wB ns m k) a=a++l.flatMap (wB ns m):=by
   intro l
   induction l with
   |nil=>intro a;simp
   |cons y l ihl=>intro a;rw[p7,ihl,a_,x_]
  dsimp only;rw[show decide (((nd ns x2).kids.length:Int)<((nd ns x2).kids.length:Int))=false from decide_eq_false o_,hfl];rfl
 rw[obs,x_]
theorem yn {t:DTree}{h:Nat}(hg:Good t h):h<400:=by have h1:=Bh hg.chk h t.root 0 topS hg.ok;have h2:=Bi hg.ok hg.nodup;have:=hg.len;omega
theorem Be {t:DTree}{h:Nat}(hg:Good t h):(wb t.nodes h t.root).length<=3200:=by have h1:=EC hg.chk h t.root 0 topS hg.ok;have h2:=Bi hg.ok hg.nodup;have:=hg.len;omega
theorem zA {t:DTree}(hs:∀n∈t.nodes,Small n){h:Nat}(hg:Good t h):lF F t=some (wb t.nodes h t.root,0):=by
 have hF:=(inferInstance:Big F).le;have h4:=yn hg;have hz:IR F t=0:=HJ.2 ⟨h,hg⟩;have he:=Ce hg.chk h F t.root 0 topS hg.ok o_;unfold lF;rw[DS t hs,obs,vd hz,cond_false];rw[Ao (KS t.nodes) (λm x=>x.1++wB t.nodes m x.2) ?h0 ?hstep F _ ?hpre]
 case h0 =>
  rintro⟨x1,x2⟩ ⟨⟨h,d,s,hm,_⟩,_⟩;omega
 case hpre=>exact⟨⟨h,0,topS,by omega,hg.ok⟩,by dsimp only;rw[he];have:=Be hg;simp;omega⟩
 case hstep =>
  rintro m self ih ⟨x1,x2⟩ hpre;exact IC t.nodes hg.chk m self ih x1 x2 hpre
 rw[obs];dsimp only;rw[he];rfl
end
end
section
def kOf (n:Nat):Nat:=if 8<n then (n+7) / 8 else 1
theorem xq (n:Nat):0<kOf n:=by unfold kOf;split <;> omega
theorem KJ (n:Nat):n<=8*kOf n:=by unfold kOf;split <;> omega
theorem Dm {n:Nat}(h:1<kOf n):4*kOf n<=n/\8<n:=by
 unfold kOf at *
 by_cases h8:8<n
 . rw[if_pos h8] at h ⊢;omega
 . rw[if_neg h8] at h;omega
theorem Eb {n k:Nat}(h:n<=8*k)(hk:0<k):kOf n<=k:=by unfold kOf;split <;> omega
theorem BN {n:Nat}(h:1<n):2*kOf n<=n:=by unfold kOf;split <;> omega
def off (n k i:Nat):Nat:=n*i / k
theorem B4 {n k i j:Nat}(h:i<=j):off n k i<=off n k j:=C2 (Nat.mul_le_mul_left _ h)
theorem Ax (n k:Nat):off n k 0=0:=by unfold off;simp
theorem B0 {n k:Nat}(h:0<k):off n k k=n:=Nat.mul_div_cancel _ h
theorem GQ {n k i:Nat}(h:0<k)(hi:i<=k):off n k i<=n:=U_ (B4 hi) (C4 (B0 h))
theorem FW {n k:Nat}(h:0<k)(hn:n<=8*k)(i:Nat):off n k (i+1)<=off n k i+8:=by unfold off;rw[Nat.mul_succ,<-K0 _ _ h];exact C2 o_
theorem Aw {n k:Nat}(h:0<k)(hn:4*k<=n)(i:Nat):off n k i+4<=off n k (i+1):=by unfold off;rw[Nat.mul_succ,<-K0 _ _ h];exact C2 o_
section groups
variable {α β γ:Type}
def yk (l:List α)(k i:Nat):List α:=(l.drop (off l.length k i)).take (off l.length k (i+1)-off l.length k i)
def groups (l:List α):List (List α):=(Z_ (kOf l.length)).map (yk l (kOf l.length))
theorem wG (l:List α):(groups l).length=kOf l.length:=by unfold groups;simp
theorem Bg {l:List α}{i:Nat}(h:i<kOf l.length):(groups l)[i]? = some (yk l (kOf l.length) i):=by unfold groups;rw[L_,C5 h];rfl
theorem GY (l:List α){k:Nat}(hk:0<k)(j:Nat):(Z_ j).flatMap (yk l k)=l.take (off l.length k j):=by
 induction j with
 |zero=>rw[Ax];rfl
 |succ j ih=>rw[List.range_succ,d_,ih,C_];have h:=B4 (n:=l.length) (k:=k) (Nat.le_succ j);unfold yk;rw[<-List.take_add];congr 1;exact Nat.add_sub_cancel' h
theorem yY (l:List α):(groups l).flatten=l:=by unfold groups;rw[<-List.flatMap_def,GY l (xq _),B0 (xq _),w6]
theorem EP (l:List α){i:Nat}(h:i<kOf l.length):(yk l (kOf l.length) i).length=off l.length (kOf l.length) (i+1)-off l.length (kOf l.length) i:=by unfold yk;have h1:=GQ (n:=l.length) (xq l.length) (show i+1<=kOf l.length by omega);rw[p_,G_];omega
theorem wY {l g:List α}(h:g∈groups l):g.length<=8/\(1<kOf l.length->4<=g.length)/\(l≠[]->g≠[])/\(1<l.length->1<g.length):=by
 obtain⟨i,hi⟩:=J_.1 h;have hlt:=(ggs.1 hi).1;rw[wG] at hlt;rw[Bg hlt] at hi;obtain rfl:=y_.inj hi;have h1:=FW (xq l.length) (KJ l.length) i;have hl:=EP l hlt;refine⟨by omega,λhk=>?_,λhne=>?_,λhl1=>?_⟩
 . have:=Aw (xq l.length) (Dm hk).1 i;omega
 . by_cases hk:1<kOf l.length
   . have:=Aw (xq l.length) (Dm hk).1 i;intro e;rw[e] at hl;simp at hl;omega
   . have hk1:kOf l.length=1:=(by have:=xq l.length;omega);obtain rfl:i=0:=o_;rw[hk1,Ax,B0 c_] at hl;intro e;rw[hk1] at e;rw[e] at hl;exact hne (O_ (by simpa using hl.symm))
 . by_cases hk:1<kOf l.length
   . have:=Aw (xq l.length) (Dm hk).1 i;omega
   . have hk1:kOf l.length=1:=(by have:=xq l.length;omega);obtain rfl:i=0:=o_;rw[hk1,Ax,B0 c_] at hl;rw[hk1];omega
theorem Aa {φ:List α×Nat->β}{ψ:β->List γ}{χ:List α->List γ}:∀(G:List (List α)) (n:Nat),(∀j g,G[j]? = some g->ψ (φ (g,n+j))=χ g)->((G.zipIdx n).map φ).flatMap ψ=G.flatMap χ
 |[],_,_=>rfl
 |g::G,n,h=>by have h0:=h 0 g rfl;rw[w7] at h0;rw[List.zipIdx_cons,List.map_cons,a_,a_,h0,Aa G (n+1) λj g' hg=>by rw[show n+1+j=n+(j+1) by omega];exact h (j+1) g' (by simpa using hg)]
theorem xm {φ:List α×Nat->β}{G:List (List α)}{x:β}(h:x∈G.zipIdx.map φ):∃j g,G[j]? = some g/\x=φ (g,j):=by obtain⟨⟨g,j⟩,hp,rfl⟩:=u_.1 h;rw[l7] at hp;exact⟨j,g,hp,rfl⟩
theorem DI {φ:List α×Nat->β}{ψ:β->List Nat}{χ:List α->List Nat}:∀(G:List (List α)) (n a:Nat),(∀j g,G[j]? = some g->ψ (φ (g,n+j))=(a+j)::χ g)->(((G.zipIdx n).map φ).flatMap ψ).Perm (List.range' a G.length++G.flatMap χ)
 |[],_,_,_=>List.Perm.refl _
 |g::G,n,a,h=>by
  have ih:=DI G (n+1) (a+1) λj g' hg=>by have:=h (j+1) g' (by simpa using hg);rw[show n+1+j=n+(j+1) by omega,show a+1+j=a+(j+1) by omega];exact this
  rw[List.zipIdx_cons,List.map_cons,a_,a_];have h0:=h 0 g rfl;rw[w7,w7] at h0;rw[h0,C6,List.range'_succ,V_,V_];refine List.Perm.cons _ ?_;refine(List.Perm.append_left _ ih).trans ?_;rw[<-x_,<-x_];exact List.Perm.append_right _ L3
end groups
def Ku:DSpot:=⟨⟨0,0,0⟩,0⟩
def BT (es:List DElem):DSpot:=match es.head? with
 |some e=>wg e
 |none=>Ku
def Hk (g:List Dbuild_low):DSpot:=match g.head? with
 |some k=>k.s
 |none=>Ku
def Jf (es:List DElem):DNode:=⟨1,es,[],[],[]⟩
def zt (ns:List DNode)(g:List Dbuild_low):DNode:=⟨2,[],g.map (·.i),g.tail.map (·.s),g.map λk=>wo (nd ns k.i)⟩
def wO (l:List DElem):List DNode:=(groups l).map Jf
def zf (l:List DElem):List Dbuild_low:=(groups l).zipIdx.map λp=>⟨(p.2:Int),BT p.1⟩
def wP (x:List DNode×List Dbuild_low):List DNode×List Dbuild_low:=(x.1++(groups x.2).map (zt x.1),(groups x.2).zipIdx.map λp=>⟨((x.1.length+p.2:Nat):Int),Hk p.1⟩)
def up:Nat->List DNode×List Dbuild_low->List DNode×List Dbuild_low
 |0,x=>x
 |m+1,x=>if 1<x.2.length then up m (wP x) else x
def xZ (l:List DElem):DTree:=let x:=up 400 (wO l,zf l);⟨match x.2.head? with|some y=>y.i|none=>0,x.1⟩
def cN (n:Nat):Nat->Nat
 |0=>kOf n
 |h+1=>kOf (cN n h)
def sNk (n:Nat):Nat->Nat
 |0=>cN n 0
 |h+1=>sNk n h+cN n (h+1)
def okB (ns:List DNode):Nat->Int->Prop
 |0,i=>(0<=i/\i<(ns.length:Int))/\(nd ns i).kind=1
 |h+1,i=>(0<=i/\i<(ns.length:Int))/\(nd ns i).kind=2/\(nd ns i).seps=(nd ns i).kids.tail.map (λk=>BT (wb ns h k))/\(nd ns i).tids=(nd ns i).kids.map (λk=>wo (nd ns k))/\∀k∈(nd ns i).kids,okB ns h k/\4<=(nd ns k).elems.length+(nd ns k).kids.length/\wb ns h k≠[]
theorem okB.range {ns:List DNode}{h:Nat}{i:Int}(k:okB ns h i):0<=i/\i<(ns.length:Int):=by cases h <;> exact k.1
theorem Bo (ns more:List DNode){i:Int}(h:0<=i/\i<(ns.length:Int)):nd (ns++more) i=nd ns i:=by unfold nd;rw[L4 o_]
theorem wI {α β:Type}{f g:α->List β}:∀ {l:List α},(∀a∈l,f a=g a)->l.flatMap f=l.flatMap g
 |[],_=>rfl
 |a::l,h=>by rw[a_,a_,h a f_,wI λb hb=>h b (B_ _ hb)]
theorem okB.old {ns:List DNode}(more:List DNode):∀ {h:Nat} {i:Int},okB ns h i->okB (ns++more) h i/\wb (ns++more) h i=wb ns h i/\ids (ns++more) h i=ids ns h i:=by
 intro h
 induction h with
 |zero=>intro i k;have e:=Bo ns more k.1;refine⟨⟨⟨k.1.1,by rw[t_];have:=k.1.2;omega⟩,by rw[e];exact k.2⟩,by rw[wb,wb,e],rfl⟩
 |succ h ih =>
  intro i k;have e:=Bo ns more k.1;obtain⟨k1,k2,k3,k4,k5⟩:=k;have hk:∀x∈(nd ns i).kids,wb (ns++more) h x=wb ns h x:=λx hx=>(ih (k5 x hx).1).2.1;refine⟨⟨⟨k1.1,by rw[t_];have:=k1.2;omega⟩,by rw[e];exact k2,?_,?_,?_⟩,?_,?_⟩
  . rw[e,k3];exact l9 λx hx=>by rw[hk x (C7 hx)]
  . rw[e,k4];exact l9 λx hx=>by rw[Bo ns more (k5 x hx).1.range]
  . rw[e];intro x hx;obtain⟨q1,q2,q3⟩:=k5 x hx;exact⟨(ih q1).1,by rw[Bo ns more q1.range];exact q2,by rw[hk x hx];exact q3⟩
  . rw[wb,wb,e];exact wI hk
  . rw[ids,ids,e,wI λx hx=>(ih (k5 x hx).1).2.2]
theorem J0 {n:DNode}{s:Span}{k:Nat}{x:DSpot}(h:inS s x=true)(h1:∀j y,k=j+1->n.seps[j]? = some y->cmpS y x<=0)(h2:∀y,n.seps[k]? = some y->cmpS x y<0):inS (wC n s k) x=true:=by
 rw[wK] at h ⊢
 have hl:((yp n s k).hasLo=true->cmpS (yp n s k).lo x<=0)/\(yp n s k).hi=s.hi/\(yp n s k).hasHi=s.hasHi:=by
  cases k with
  |zero=>exact⟨h.1,rfl,rfl⟩
  |succ j =>
   have e:yp n s (j+1)=(match n.seps[j]? with|some x=>{ s with lo:=x,hasLo:=true } | none=>s):=rfl;rw[e]
   cases hj:n.seps[j]? with
   |none=>exact⟨h.1,rfl,rfl⟩
   |some y=>exact⟨λ_=>h1 j y rfl hj,rfl,rfl⟩
 unfold wC CK
 cases hk:n.seps[k]? with
 |none=>exact⟨hl.1,λhh=>by rw[hl.2.2] at hh;rw[hl.2.1];exact h.2 hh⟩
 |some y=>exact⟨hl.1,λ_=>h2 y hk⟩
theorem zI {l:List DElem}(h:l≠[]):∃e∈l,BT l=wg e/\(l.Pairwise SpO->∀x∈l,cmpS (BT l) (wg x)<=0):=by
 cases l with
 |nil=>exact absurd rfl h
 |cons e l =>
  refine⟨e,f_,rfl,λhp x hx=>?_⟩;show cmpS (wg e) (wg x)<=0;rcases g_.1 hx with rfl|hx
  . rw[wq.refl];exact v8 _
  . have:=(z_.1 hp).1 x hx;unfold SpO at this;omega
theorem HN {α β:Type}{R:β->β->Prop}{f:α->List β}{l:List α}(h:(l.flatMap f).Pairwise R){i j:Nat}{a b:α}(hij:i<j)(ha:l[i]? = some a)(hb:l[j]? = some b){x y:β}(hx:x∈f a)(hy:y∈f b):R x y :=
 xl (E0.1 h).2 hij ha hb x hx y hy
theorem okB.right {ns:List DNode}:∀ {h:Nat} {i d:Int} {s:Span},okB ns h i->0<=d->(0<d->4<=(nd ns i).elems.length+(nd ns i).kids.length)->(wb ns h i).Pairwise SpO->(∀e∈wb ns h i,inS s (wg e)=true)->okN ns h i d s:=by
 intro h
 induction h with
 |zero=>exact λk hd hf hp hs=>⟨k.1,k.2,hf,hs⟩
 |succ h ih =>
  intro i d s k hd hf hp hs;obtain⟨k1,k2,k3,k4,k5⟩:=k;refine⟨k1,by rw[k2];decide,hf,?_⟩;rintro⟨x,q⟩ hx;rw[l7] at hx;dsimp only at hx ⊢;have hmem:=q_ hx;obtain⟨c1,c2,c3⟩:=k5 x hmem;have hsub:∀e∈wb ns h x,e∈wb ns (h+1) i:=λe he=>E_.2 ⟨x,hmem,he⟩;have hpx:∀y∈(nd ns i).kids,(wb ns h y).Pairwise SpO:=λy hy=>(E0.1 hp).1 y hy;have hsep:∀j y,(nd ns i).seps[j]? = some y->∃c,(nd ns i).kids[j+1]? = some c/\y=BT (wb ns h c):=λj y hy=>by rw[k3,L_,List.getElem?_tail,L5] at hy;obtain⟨c,hc,rfl⟩:=hy;exact⟨c,hc,rfl⟩
  refine⟨ih c1 o_ (λ_=>c2) (hpx x hmem) λe he=>?_,?_,?_⟩
  . refine J0 (hs e (hsub e he)) (λj y hj hy=>?_) (λy hy=>?_)
    . obtain⟨c,hc,rfl⟩:=hsep j y hy;rw[<-hj,hx] at hc;obtain rfl:=y_.inj hc;obtain⟨_,_,_,hle⟩:=zI c3;exact hle (hpx _ hmem) e he
    . obtain⟨c,hc,rfl⟩:=hsep q y hy;obtain⟨e2,he2,hlow,_⟩:=zI (k5 c (q_ hc)).2.2;rw[hlow];exact HN (f:=wb ns h) hp (Nat.lt_succ_self q) hx hc he he2
  . cases q with
    |zero=>rfl
    |succ j =>
     show (match (nd ns i).seps[j]? with|some y=>!inS s y|none=>false)=false
     cases hj:(nd ns i).seps[j]? with
     |none=>rfl
     |some y=>obtain⟨c,hc,rfl⟩:=hsep j y hj;rw[hx] at hc;obtain rfl:=y_.inj hc;obtain⟨e2,he2,hlow,_⟩:=zI c3;rw[hlow];show (!inS s (wg e2))=false;rw[hs e2 (hsub e2 he2)];rfl
  . rw[k4,L_,hx];rfl
theorem Je {e:DElem}(h:wm e=0):0<=wT e/\wT e<=2147483647:=by obtain⟨_,h1,h2,h3,_⟩:=xN h;unfold wT;split <;> omega
theorem EY {e:DElem}(h:wm e=0):wm (zE (wg e))=0:=by obtain⟨h0,h1,h2,h3,_⟩:=xN h;unfold wm zE wg;dsimp only;rw[if_neg (by simpa using h0),if_neg o_,if_neg (by show ¬ (40<0);omega)]
theorem Ar {n:DNode}(h:wy n=0):0<=wo n/\wo n<=2147483647:=by
 obtain⟨_,_,h3⟩:=Bf n;rcases h3 with h3|⟨e,he,h3⟩|⟨t,ht,h3⟩
 . omega
 . rcases wE.1 h with q|q|q
   . rw[q.2.1] at he;cases he
   . have:=Je (q.2.ok e he);omega
   . rw[q.2.elems] at he;cases he
 . rcases wE.1 h with q|q|q
   . rw[q.2.2.2.2] at ht;cases ht
   . rw[q.2.tids] at ht;cases ht
   . have:=q.2.tid t ht;omega
structure Lev (ns:List DNode) (lv:List Dbuild_low) (l:List DElem) (h:Nat):Prop where
 count:lv.length=cN l.length h
 total:ns.length=sNk l.length h
 many:∀j,j<h->1<cN l.length j
 chk:∀n∈ns,wy n=0
 fit:∀x∈lv,okB ns h x.i
 low:∀x∈lv,x.s=BT (wb ns h x.i)
 cat:lv.flatMap (λx=>wb ns h x.i)=l
 perm:(lv.flatMap λx=>ids ns h x.i).Perm (Z_ ns.length)
 full:1<lv.length->∀x∈lv,4<=(nd ns x.i).elems.length+(nd ns x.i).kids.length
 full2:1<lv.length->∀x∈lv,wb ns h x.i≠[]
 size:ns.length+lv.length<=100
theorem Gn (n h:Nat):0<cN n h:=by cases h <;> exact xq _
theorem Ji {ns:List DNode}{j:Nat}{n:DNode}(h:ns[j]? = some n):nd ns ((j:Nat):Int)=n:=BX h
theorem AQ {α:Type}{l g:List α}(h:g∈groups l):g.Sublist l:=by unfold groups at h;obtain⟨i,_,rfl⟩:=u_.1 h;exact(List.take_sublist _ _).trans (List.drop_sublist _ _)
theorem Lev.zero {l:List DElem}(hl:l.length<=400)(ho:∀e∈l,wm e=0)(hp:l.Pairwise SpO):Lev (wO l) (zf l) l 0:=by
 have hlen:(wO l).length=kOf l.length:=by unfold wO;rw[i_,wG]
 have hlv:(zf l).length=kOf l.length:=by unfold zf;rw[i_,N_,wG]
 have hnd:∀j g,(groups l)[j]? = some g->nd (wO l) ((j:Nat):Int)=Jf g:=λj g hg=>Ji (by unfold wO;rw[L_,hg];rfl);have hk:kOf l.length<=50:=Eb o_ c_;refine⟨hlv,hlen,λj hj=>by omega,λn hn=>?_,λx hx=>?_,λx hx=>?_,?_,?_,λh1 x hx=>?_,λh1 x hx=>?_,by omega⟩
 . unfold wO at hn;obtain⟨g,hg,rfl⟩:=u_.1 hn;have hs:=AQ hg;exact wE.2 (.inr (.inl ⟨rfl,⟨rfl,rfl,rfl,(wY hg).1,λe he=>ho e (hs.subset he),hp.sublist hs⟩⟩))
 . obtain⟨j,g,hg,rfl⟩:=xm hx;have hj:=(ggs.1 hg).1;rw[wG] at hj;exact⟨⟨by dsimp only;omega,by dsimp only;omega⟩,by dsimp only;rw[hnd j g hg];rfl⟩
 . obtain⟨j,g,hg,rfl⟩:=xm hx;dsimp only;rw[wb,hnd j g hg];rfl
 . have:=Aa (φ:=λp:List DElem×Nat=>(⟨(p.2:Int),BT p.1⟩:Dbuild_low)) (ψ:=λx=>wb (wO l) 0 x.i) (χ:=λg=>g) (groups l) 0 λj g hg=>by dsimp only;rw[B1,wb,hnd j g hg];rfl
   unfold zf;rw[this,List.flatMap_id'];exact yY l
 . have:=DI (φ:=λp:List DElem×Nat=>(⟨(p.2:Int),BT p.1⟩:Dbuild_low)) (ψ:=λx=>ids (wO l) 0 x.i) (χ:=λg=>[]) (groups l) 0 0 λj g hg=>by dsimp only;rw[ids,l_]
   rw[show (groups l).flatMap (λ_=>([]:List Nat))=[] by rw[List.flatMap_eq_nil_iff];exact λ_ _=>rfl,M_,wG,<-E1,<-hlen] at this;exact this
 . rw[hlv] at h1;obtain⟨j,g,hg,rfl⟩:=xm hx;dsimp only;rw[hnd j g hg];have:=(wY (q_ hg)).2.1 h1;show 4<=g.length+0;omega
 . rw[hlv] at h1;obtain⟨j,g,hg,rfl⟩:=xm hx;dsimp only;rw[wb,hnd j g hg];have:=(wY (q_ hg)).2.1 h1;intro e;have e2:g=[]:=e;rw[e2] at this;exact absurd this c_
theorem Lev.next {ns:List DNode}{lv:List Dbuild_low}{l:List DElem}{h:Nat}(L:Lev ns lv l h)(hp:l.Pairwise SpO)(ho:∀e∈l,wm e=0)(h1:1<lv.length):Lev (wP (ns,lv)).1 (wP (ns,lv)).2 l (h+1):=by
 have hG:(groups lv).length=kOf lv.length:=wG lv;have hcount:(wP (ns,lv)).2.length=kOf lv.length:=by unfold wP;dsimp only;rw[i_,N_,hG]
 have hlen:(wP (ns,lv)).1.length=ns.length+kOf lv.length:=by unfold wP;dsimp only;rw[t_,i_,hG]
 have hhalf:=BN h1;have hsize:=L.size;have hmem:∀g∈groups lv,∀x∈g,x∈lv:=λg hg x hx=>(AQ hg).subset hx
 have hnew:∀j g,(groups lv)[j]? = .some g->nd (wP (ns,lv)).1 ((ns.length+j:Nat):Int)=zt ns g:=λj g hg=>Ji (by
  unfold wP;dsimp only
  rw[m0 o_,Nat.add_sub_cancel_left,L_,hg];rfl)
 have hold:∀x∈lv,okB (wP (ns,lv)).1 h x.i/\wb (wP (ns,lv)).1 h x.i=wb ns h x.i/\ids (wP (ns,lv)).1 h x.i=ids ns h x.i:=λx hx=>(L.fit x hx).old _;have hkids:∀g∈groups lv,(zt ns g).kids.flatMap (wb (wP (ns,lv)).1 h)=g.flatMap λx=>wb ns h x.i:=λg hg=>by show (g.map (·.i)).flatMap _=_;rw[List.flatMap_map];exact wI λx hx=>(hold x (hmem g hg x hx)).2.1
 have hel:∀j g,(groups lv)[j]? = .some g->wb (wP (ns,lv)).1 (h+1) ((ns.length+j:Nat):Int)=g.flatMap λx=>wb ns h x.i:=λj g hg=>by rw[wb,hnew j g hg];exact hkids g (q_ hg)
 have hne:∀g∈groups lv,g≠[]:=λg hg=>(wY hg).2.2.1 (λe=>by rw[e] at h1;simp at h1);have hcat:(groups lv).flatMap (λg=>g.flatMap λx=>wb ns h x.i)=l:=by have e:=L.cat;rw[<-yY lv] at e;rw[<-e,L6,List.flatMap_assoc];rfl
 have hok:∀x∈lv,∀e∈wb ns h x.i,wm e=0:=λx hx e he=>ho e (by rw[<-L.cat];exact E_.2 ⟨x,hx,he⟩);have hlvS:lv.Pairwise λx y=>SpotO x.s y.s:=by have e:=L.cat;rw[<-e] at hp;have:=(E0.1 hp).2;refine List.Pairwise.imp_of_mem (λ{x y} hx hy hxy=>?_) this;obtain⟨a,ha,hla,_⟩:=zI (L.full2 h1 x hx);obtain⟨b,hb,hlb,_⟩:=zI (L.full2 h1 y hy);unfold SpotO;rw[L.low x hx,L.low y hy,hla,hlb];exact hxy a ha b hb
 refine⟨by rw[hcount,cN,L.count],by rw[hlen,sNk,L.total,cN,L.count],λj hj=>?_,λn hn=>?_,λx hx=>?_,λx hx=>?_,?_,?_,λh2 x hx=>?_,λh2 x hx=>?_,by omega⟩
 . by_cases e:j=h
   . rw[e,<-L.count];exact h1
   . exact L.many j o_
 . have hn':n∈ns++(groups lv).map (zt ns):=hn;rcases j_.1 hn' with hn|hn
   . exact L.chk n hn
   . obtain⟨g,hg,rfl⟩:=u_.1 hn;obtain⟨s1,s2,s3,s4⟩:=wY hg;have s4:=s4 h1;refine wE.2 (.inr (.inr ⟨rfl,⟨rfl,?_,?_,?_,?_,λk hk=>?_,λt ht=>?_,λs hs=>?_,?_⟩⟩))
     . show 2<=(g.map _).length;rw[i_];omega
     . show (g.map _).length<=8;rw[i_];exact s1
     . show (g.tail.map _).length+1=(g.map _).length;rw[i_,i_,E2];omega
     . show (g.map _).length=(g.map _).length;rw[i_,i_]
     . obtain⟨x,hx,rfl⟩:=u_.1 hk;have:=(L.fit x (hmem g hg x hx)).range;omega
     . obtain⟨x,hx,rfl⟩:=u_.1 ht;have:=(L.fit x (hmem g hg x hx)).range;exact Ar (L.chk _ (xR this.1 this.2))
     . obtain⟨x,hx,rfl⟩:=u_.1 hs;have hxl:=hmem g hg x (C7 hx);obtain⟨a,ha,hla,_⟩:=zI (L.full2 h1 x hxl);rw[L.low x hxl,hla];exact EY (hok x hxl a ha)
     . have:=hlvS.sublist ((List.tail_sublist g).trans (AQ hg));exact List.pairwise_map.2 this
 . obtain⟨j,g,hg,rfl⟩:=xm hx;have hgm:=q_ hg;have hj:=(ggs.1 hg).1;rw[hG] at hj;dsimp only;refine⟨⟨by omega,by rw[hlen];omega⟩,?_⟩;rw[hnew j g hg];refine⟨rfl,?_,?_,?_⟩
   . show g.tail.map _=(g.map _).tail.map _;rw[<-List.map_tail,E3];exact l9 λx hx=>by have hxl:=hmem g hgm x (C7 hx);show x.s=BT (wb (wP (ns,lv)).1 h x.i);rw[(hold x hxl).2.1];exact L.low x hxl
   . show g.map _=(g.map _).map _;rw[E3];exact l9 λx hx=>by show wo (nd ns x.i)=wo (nd (wP (ns,lv)).1 x.i);rw[show nd (wP (ns,lv)).1 x.i=nd ns x.i from Bo ns _ (L.fit x (hmem g hgm x hx)).range]
   . intro k hk;obtain⟨x,hx,rfl⟩:=u_.1 hk;have hxl:=hmem g hgm x hx;refine⟨(hold x hxl).1,?_,?_⟩
     . rw[show nd (wP (ns,lv)).1 x.i=nd ns x.i from Bo ns _ (L.fit x hxl).range];exact L.full h1 x hxl
     . rw[(hold x hxl).2.1];exact L.full2 h1 x hxl
 . obtain⟨j,g,hg,rfl⟩:=xm hx;have hgm:=q_ hg;dsimp only;rw[hel j g hg]
   cases g with
   |nil=>exact absurd rfl (hne _ hgm)
   |cons x g =>
    have hxl:=hmem _ hgm x f_;show x.s=_;rw[L.low x hxl,a_]
    cases hx:wb ns h x.i with
    |nil=>exact absurd hx (L.full2 h1 x hxl)
    |cons a q=>rfl
 . have:=Aa (φ:=λp:List Dbuild_low×Nat=>(⟨((ns.length + p.2:Nat):Int),Hk p.1⟩:Dbuild_low)) (ψ:=λx=>wb (wP (ns,lv)).1 (h + 1) x.i) (χ:=λg=>g.flatMap λx=>wb ns h x.i) (groups lv) 0 λj g hg=>by dsimp only;rw[B1];exact hel j g hg
   exact this.trans hcat
 . have:=DI (φ:=λp:List Dbuild_low×Nat=>(⟨((ns.length + p.2:Nat):Int),Hk p.1⟩:Dbuild_low)) (ψ:=λx=>ids (wP (ns,lv)).1 (h + 1) x.i) (χ:=λg=>g.flatMap λx=>ids ns h x.i) (groups lv) 0 ns.length λj g hg=>by dsimp only;rw[B1,ids,hnew j g hg,l_];congr 1;show (g.map (·.i)).flatMap _=_;rw[List.flatMap_map];exact wI λx hx=>(hold x (hmem g (q_ hg) x hx)).2.2
   refine List.Perm.trans this ?_
   have e:(groups lv).flatMap (λg=>g.flatMap λx=>ids ns h x.i)=lv.flatMap λx=>ids ns h x.i:=by
    conv=>rhs;rw[<-yY lv,L6,List.flatMap_assoc]
    rfl
   rw[e,hlen,hG,E1,<-List.range'_append_1 (s:=0) (m:=ns.length) (n:=kOf lv.length),B1,<-E1];exact(List.Perm.append_left _ L.perm).trans L3
 . rw[hcount] at h2;obtain⟨j,g,hg,rfl⟩:=xm hx;dsimp only;rw[hnew j g hg];have:=(wY (q_ hg)).2.1 h2;show 4<=0+(g.map _).length;rw[i_];omega
 . obtain⟨j,g,hg,rfl⟩:=xm hx;have hgm:=q_ hg;dsimp only;rw[hel j g hg]
   cases g with
   |nil=>exact absurd rfl (hne _ hgm)
   |cons x g=>have hxl:=hmem _ hgm x f_;rw[a_];intro e;exact L.full2 h1 x hxl (List.append_eq_nil_iff.1 e).1
theorem Lev.up {l:List DElem}(hp:l.Pairwise SpO)(ho:∀e∈l,wm e=0):∀(m:Nat) {ns:List DNode} {lv:List Dbuild_low} {h:Nat},Lev ns lv l h->lv.length<=m->∃h',Lev (up m (ns,lv)).1 (up m (ns,lv)).2 l h'/\(up m (ns,lv)).2.length=1:=by
 intro m
 induction m with
 |zero=>intro ns lv h L hm;have:=L.count;have:=Gn l.length h;omega
 |succ m ih =>
  intro ns lv h L hm;rw[Go.Proofs.YtnofgfobljadbaaGreat.up];by_cases h1:1<lv.length
  . rw[if_pos h1];have L':=L.next hp ho h1;have hc:(wP (ns,lv)).2.length=kOf lv.length:=by unfold wP;dsimp only;rw[i_,N_,wG]
    have:=BN h1;exact ih L' (U_ (C4 hc) o_)
  . rw[if_neg h1];have:=L.count;have:=Gn l.length h;exact⟨h,L,by dsimp only;omega⟩
theorem J1 (x:DSpot):inS topS x=true:=rfl
theorem Cw {l:List DElem}(hl:l.length<=400)(ho:∀e∈l,wm e=0)(hp:l.Pairwise SpO):∃h,Good (xZ l) h/\wb (xZ l).nodes h (xZ l).root=l/\(xZ l).nodes.length=sNk l.length h/\cN l.length h=1/\∀j,j<h->1<cN l.length j:=by
 have L0:=Lev.zero hl ho hp;have hlv:(zf l).length<=400:=by have:=L0.size;omega
 obtain⟨h,L,h1⟩:=Lev.up hp ho 400 L0 hlv;unfold xZ;dsimp only;generalize Go.Proofs.YtnofgfobljadbaaGreat.up 400 (wO l,zf l)=x at L h1;obtain⟨ns,lv⟩:=x;dsimp only at L h1 ⊢;obtain⟨y,rfl⟩:=S_.1 h1;dsimp only[List.head?];have hcat:wb ns h y.i=l:=by have:=L.cat;simpa using this
 have hperm:(ids ns h y.i).Perm (Z_ ns.length):=by have:=L.perm;simpa using this
 refine⟨h,⟨by have:=L.size;dsimp only;omega,L.chk,?_,?_,λi hi _=>?_⟩,hcat,L.total,by rw[<-L.count];exact h1,L.many⟩
 . exact(L.fit y s_).right (v8 _) (λh=>absurd h c_) (by rw[hcat];exact hp) (λe _=>J1 _)
 . exact hperm.nodup_iff.2 List.nodup_range
 . exact hperm.mem_iff.2 (List.mem_range.2 hi)
end
section
section
def hiS (s:Span)(x:DSpot):Span:={ s with hi:=x,hasHi:=true }
def loS (s:Span)(x:DSpot):Span:={ s with lo:=x,hasLo:=true }
theorem xG {s:Span}{x y:DSpot}:inS (hiS s x) y=true↔(s.hasLo=true->cmpS s.lo y<=0)/\cmpS y x<0:=by rw[wK];unfold hiS;simp
theorem yO {s:Span}{x y:DSpot}:inS (loS s x) y=true↔cmpS x y<=0/\(s.hasHi=true->cmpS y s.hi<0):=by rw[wK];unfold loS;simp
theorem xQ {s:Span}{x y:DSpot}(hx:inS s x=true)(h:inS (hiS s x) y=true):inS s y=true:=by rw[xG] at h;rw[wK] at hx ⊢;exact⟨h.1,λhh=>wq.lt_trans h.2 (hx.2 hh)⟩
theorem yo {s:Span}{x y:DSpot}(hx:inS s x=true)(h:inS (loS s x) y=true):inS s y=true:=by rw[yO] at h;rw[wK] at hx ⊢;exact⟨λhh=>Fy (hx.1 hh) h.1,h.2⟩
def Ch (P:Int->Int->Span->Prop):List DSpot->Span->List Int->List Int->Prop
 |[],s,ks,ts=>∃k t,ks=[k]/\ts=[t]/\P k t s
 |x::xs,s,ks,ts=>∃k ks' t ts',ks=k::ks'/\ts=t::ts'/\inS s x=true/\P k t (hiS s x)/\Ch P xs (loS s x) ks' ts'
section
variable {P Q:Int->Int->Span->Prop}
theorem Ch.lens:∀ {xs:List DSpot} {s:Span} {ks ts:List Int},Ch P xs s ks ts->xs.length+1=ks.length/\ts.length=ks.length
 |[],s,ks,ts,⟨k,t,h1,h2,_⟩=>by subst h1 h2;exact⟨rfl,rfl⟩
 |x::xs,s,ks,ts,⟨k,ks',t,ts',h1,h2,_,_,c⟩=>by subst h1 h2;have:=c.lens;simp only[C6];omega
theorem Ch.mono:∀ {xs:List DSpot} {s:Span} {ks ts:List Int},(∀k t s',k∈ks->P k t s'->Q k t s')->Ch P xs s ks ts->Ch Q xs s ks ts
 |[],s,ks,ts,h,⟨k,t,h1,h2,c⟩=>⟨k,t,h1,h2,h _ _ _ (by rw[h1];exact f_) c⟩
 |x::xs,s,ks,ts,h,⟨k,ks',t,ts',h1,h2,h3,h4,c⟩=>⟨k,ks',t,ts',h1,h2,h3,h _ _ _ (by rw[h1];exact f_) h4,c.mono λk t s' hk=>h k t s' (by rw[h1];exact B_ _ hk)⟩
theorem Ch.mem:∀ {xs:List DSpot} {s:Span} {ks ts:List Int},Ch P xs s ks ts->∀k∈ks,∃t s',P k t s'/\∀y,inS s' y=true->inS s y=true
 |[],s,ks,ts,⟨k,t,h1,h2,c⟩,q,hq=>by subst h1;rw[W_.1 hq];exact⟨t,s,c,λ_ h=>h⟩
 |x::xs,s,ks,ts,⟨k,ks',t,ts',h1,h2,h3,h4,c⟩,q,hq=>by
  subst h1;rcases g_.1 hq with rfl|hq
  . exact⟨t,_,h4,λy h=>xQ h3 h⟩
  . obtain⟨t',s',i1,i2⟩:=c.mem q hq;exact⟨t',s',i1,λy h=>yo h3 (i2 y h)⟩
theorem Ch.seps:∀ {xs:List DSpot} {s:Span} {ks ts:List Int},Ch P xs s ks ts->∀x∈xs,inS s x=true
 |[],s,ks,ts,c,y,hy=>by cases hy
 |x::xs,s,ks,ts,⟨k,ks',t,ts',h1,h2,h3,h4,c⟩,y,hy=>by
  rcases g_.1 hy with rfl|hy
  . exact h3
  . exact yo h3 (c.seps y hy)
theorem Ch.at_:∀ {xs:List DSpot} {s:Span} {ks ts:List Int},Ch P xs s ks ts->∀(q:Nat) (k:Int),ks[q]? = some k->∃t s',ts[q]? = some t/\P k t s'/\∀y,inS s' y=true->inS s y=true
 |[],s,ks,ts,⟨k,t,h1,h2,c⟩,q,k',hq=>by
  subst h1 h2
  cases q with
  |zero=>obtain rfl:k=k':=(by simpa using hq);exact⟨t,s,rfl,c,λ_ h=>h⟩
  |succ q=>simp at hq
 |x::xs,s,ks,ts,⟨k,ks',t,ts',h1,h2,h3,h4,c⟩,q,k',hq=>by
  subst h1 h2
  cases q with
  |zero=>obtain rfl:k=k':=(by simpa using hq);exact⟨t,_,rfl,h4,λy h=>xQ h3 h⟩
  |succ q=>obtain⟨t',s',i1,i2,i3⟩:=c.at_ q k' (by simpa using hq);exact⟨t',s',by simpa using i1,i2,λy h=>yo h3 (i3 y h)⟩
theorem Ch.join:∀ {xs:List DSpot} {s:Span} {ks ts ks' ts':List Int} {xs':List DSpot} {x:DSpot},inS s x=true->Ch P xs (hiS s x) ks ts->Ch P xs' (loS s x) ks' ts'->Ch P (xs++x::xs') s (ks++ks') (ts++ts')
 |[],s,ks,ts,ks',ts',xs',x,hx,⟨k,t,h1,h2,c⟩,c'=>⟨k,ks',t,ts',by rw[h1];rfl,by rw[h2];rfl,hx,c,c'⟩
 |y::xs,s,ks,ts,ks',ts',xs',x,hx,⟨k,ks1,t,ts1,h1,h2,h3,h4,c⟩,c'=>by subst h1 h2;have hy:=xG.1 h3;have e1:loS (hiS s x) y=hiS (loS s y) x:=rfl;have e2:loS s x=loS (loS s y) x:=rfl;exact⟨k,ks1++ks',t,ts1++ts',rfl,rfl,xQ hx h3,h4,Ch.join (s:=loS s y) (yO.2 ⟨by omega,λhh=>(wK.1 hx).2 hh⟩) (e1▸c) (e2▸c')⟩
theorem Ch.split:∀ {xs:List DSpot} {s:Span} {ks ts ks' ts':List Int} {xs':List DSpot} {x:DSpot},xs.length+1=ks.length->ts.length=ks.length->(xs++x::xs').Pairwise SpotO->Ch P (xs++x::xs') s (ks++ks') (ts++ts') ->
 inS s x=true/\Ch P xs (hiS s x) ks ts/\Ch P xs' (loS s x) ks' ts'
 |[],s,ks,ts,ks',ts',xs',x,h1,h2,ho,⟨k,ks1,t,ts1,e1,e2,i1,i2,c⟩=>by
  obtain⟨a,rfl⟩:=S_.1 h1.symm;obtain⟨b,rfl⟩:=S_.1 h2;obtain⟨rfl,rfl⟩:a=k/\ks'=ks1:=by simpa using e1
  obtain⟨rfl,rfl⟩:b=t/\ts'=ts1:=by simpa using e2
  exact⟨i1,⟨a,b,rfl,rfl,i2⟩,c⟩
 |y::xs,s,ks,ts,ks',ts',xs',x,h1,h2,ho,⟨k,ks1,t,ts1,e1,e2,i1,i2,c⟩=>by
  rw[V_,z_] at ho;have hyx:cmpS y x<0:=ho.1 x s_
  cases ks with
  |nil=>simp at h1
  |cons a ks =>
  cases ts with
  |nil=>simp at h2
  |cons b ts =>
  obtain⟨rfl,rfl⟩:a=k/\ks++ks'=ks1:=by simpa using e1
  obtain⟨rfl,rfl⟩:b=t/\ts++ts'=ts1:=by simpa using e2
  obtain⟨j1,j2,j3⟩:=Ch.split (s:=loS s y) (by simpa using h1) (by simpa using h2) ho.2 c;exact⟨yo i1 j1,⟨a,ks,b,ts,rfl,rfl,xG.2 ⟨(wK.1 i1).1,hyx⟩,i2,j2⟩,j3⟩
theorem Ch.focus:∀ {XA XM XB:List DSpot} {A M B TA TM TB:List Int} {s:Span},XA.length=A.length->TA.length=A.length->XM.length+1=M.length->TM.length=M.length->XB.length=B.length->TB.length=B.length ->
 (XA++(XM++XB)).Pairwise SpotO->Ch P (XA++(XM++XB)) s (A++(M++B)) (TA++(TM++TB)) ->
 ∃s',Ch P XM s' M TM/\(∀y,inS s' y=true->inS s y=true)/\(∀x∈XA,∀y,inS s' y=true->cmpS x y<=0)/\(∀x∈XB,∀y,inS s' y=true->cmpS y x<0) /\
  (∀y,inS s y=true->(∀x∈XA,cmpS x y<=0)->(∀x∈XB,cmpS y x<0)->inS s' y=true) /\
  ∀Q:Int->Int->Span->Prop,(∀k t s',k∈A\/k∈B->P k t s'->Q k t s')->∀M' XM' TM',Ch Q XM' s' M' TM'->Ch Q (XA++(XM'++XB)) s (A++(M'++B)) (TA++(TM'++TB))
 |[],XM,[],A,M,B,TA,TM,TB,s,h1,h2,_,_,h5,h6,_,c=>by obtain rfl:=O_ h1.symm;obtain rfl:=O_ h2;obtain rfl:=O_ h5.symm;obtain rfl:=O_ h6;exact⟨s,by simpa using c,λ_ h=>h,by simp,by simp,λ_ h _ _=>h,λQ _ M' XM' TM' c'=>by simpa using c'⟩
 |[],XM,x::XB,A,M,B,TA,TM,TB,s,h1,h2,h3,h4,h5,h6,ho,c=>by
  obtain rfl:=O_ h1.symm;obtain rfl:=O_ h2;obtain⟨i1,i2,i3⟩:=Ch.split (s:=s) h3 h4 ho c;refine⟨hiS s x,i2,λy h=>xQ i1 h,by simp,λz hz y hy=>?_,λy hy _ hb=>?_,λQ hPQ M' XM' TM' c'=>?_⟩
  . have hyx:=(xG.1 hy).2;rcases g_.1 hz with rfl|hz
    . exact hyx
    . have:cmpS x z<0:=(z_.1 (F_.1 (show (XM++x::XB).Pairwise SpotO from ho)).2.1).1 z hz;exact wq.lt_trans hyx this
  . exact xG.2 ⟨(wK.1 hy).1,hb x f_⟩
  . show Ch Q (XM'++x::XB) s (M'++B) (TM'++TB);exact Ch.join i1 c' (i3.mono λk t s' hk=>hPQ k t s' (.inr hk))
 |x::XA,XM,XB,A,M,B,TA,TM,TB,s,h1,h2,h3,h4,h5,h6,ho,⟨k,ks1,t,ts1,e1,e2,c1,c2,c⟩=>by
  rw[V_,z_] at ho
  cases A with
  |nil=>simp at h1
  |cons a A =>
  cases TA with
  |nil=>simp at h2
  |cons b TA =>
  obtain⟨rfl,rfl⟩:a=k/\A++(M++B)=ks1:=by simpa using e1
  obtain⟨rfl,rfl⟩:b=t/\TA++(TM++TB)=ts1:=by simpa using e2
  obtain⟨s',i1,i2,i3,i4,i5,i6⟩:=Ch.focus (s:=loS s x) (by simpa using h1) (by simpa using h2) h3 h4 h5 h6 ho.2 c;refine⟨s',i1,λy h=>yo c1 (i2 y h),λz hz y hy=>?_,i4,λy hy ha hb=>?_,λQ hPQ M' XM' TM' c'=>⟨a,A++(M'++B),b,TA++(TM'++TB),rfl,rfl,c1,hPQ a b _ (.inl f_) c2,i6 Q (λk t s' hk=>hPQ k t s' (hk.elim (λh=>.inl (B_ _ h)) .inr)) M' XM' TM' c'⟩⟩
  . rcases g_.1 hz with rfl|hz
    . exact(yO.1 (i2 y hy)).1
    . exact i3 z hz y hy
  . exact i5 y (yO.2 ⟨ha x f_,(wK.1 hy).2⟩) (λz hz=>ha z (B_ _ hz)) hb
end
def wx (ns:List DNode):Nat->Int->Nat->Span->Prop
 |0,i,m,s=>(0<=i/\i<(ns.length:Int))/\(nd ns i).kind=1/\m<=(nd ns i).elems.length/\∀x∈(nd ns i).elems,inS s (wg x)=true
 |h+1,i,m,s=>(0<=i/\i<(ns.length:Int))/\(nd ns i).kind=2/\m<=(nd ns i).kids.length/\Ch (λk t s'=>wx ns h k 4 s'/\wo (nd ns k)=t) (nd ns i).seps s (nd ns i).kids (nd ns i).tids
abbrev BD (ns:List DNode)(h:Nat):Int->Int->Span->Prop:=λk t s'=>wx ns h k 4 s'/\wo (nd ns k)=t
theorem wx.range {ns:List DNode}{h:Nat}{i:Int}{m:Nat}{s:Span}(c:wx ns h i m s):0<=i/\i<(ns.length:Int):=by cases h <;> exact c.1
def kS (xs:List DSpot)(s:Span)(q:Nat):Span:=wC ⟨2,[],[],xs,[]⟩ s q
theorem Hn (x:DSpot)(xs:List DSpot)(s:Span):kS (x::xs) s 0=hiS s x:=rfl
theorem Hm (x:DSpot)(xs:List DSpot)(s:Span){q:Nat}(hq:q<=xs.length):kS (x::xs) s (q+1)=kS xs (loS s x) q:=by
 have key:yp ⟨2,[],[],x::xs,[]⟩ s (q+1)=yp ⟨2,[],[],xs,[]⟩ (loS s x) q:=by
  cases q with
  |zero=>rfl
  |succ r=>have hr:xs[r]? = some xs[r]:=gge o_;show (match (x::xs)[r+1]? with|some y=>({ s with lo:=y,hasLo:=true }:Span)|none=>s)=(match xs[r]? with|some y=>({ loS s x with lo:=y,hasLo:=true }:Span)|none=>loS s x);rw[m4,hr];rfl
 unfold kS wC;rw[key];show CK ⟨2,[],[],x::xs,[]⟩ (yp ⟨2,[],[],xs,[]⟩ (loS s x) q) (q+1)=CK ⟨2,[],[],xs,[]⟩ (yp ⟨2,[],[],xs,[]⟩ (loS s x) q) q;unfold CK;show (match (x::xs)[q+1]? with|some y=>_|none=>_)=_
 first|(rw[m4];done)|(rw[m4];rfl)
theorem Gp {P:Int->Int->Span->Prop}:∀ {xs:List DSpot} {s:Span} {ks ts:List Int},xs.length+1=ks.length->ts.length=ks.length->xs.Pairwise SpotO->(∀x∈xs,inS s x=true) ->
 (Ch P xs s ks ts↔∀(q:Nat) (k t:Int),ks[q]? = some k->ts[q]? = some t->P k t (kS xs s q))
 |[],s,ks,ts,h1,h2,_,_=>by
  obtain⟨a,rfl⟩:=S_.1 h1.symm;obtain⟨b,rfl⟩:=S_.1 h2;constructor
  . rintro⟨k,t,e1,e2,c⟩ q k' t' hk ht;obtain rfl:a=k:=by simpa using e1
    obtain rfl:b=t:=by simpa using e2
    cases q with
    |zero=>obtain rfl:a=k':=(by simpa using hk);obtain rfl:b=t':=(by simpa using ht);exact c
    |succ q=>simp at hk
  . intro h;exact⟨a,b,rfl,rfl,h 0 a b rfl rfl⟩
 |x::xs,s,ks,ts,h1,h2,ho,hs=>by
  cases ks with
  |nil=>simp at h1
  |cons a ks =>
  cases ts with
  |nil=>simp at h2
  |cons b ts =>
  rw[z_] at ho;have hx:=wK.1 (hs x f_)
  have ih:=Gp (P:=P) (xs:=xs) (s:=loS s x) (ks:=ks) (ts:=ts) (by simpa using h1) (by simpa using h2) ho.2 (λy hy=>by
   have hxy:cmpS x y<0:=ho.1 y hy;have:=wK.1 (hs y (B_ _ hy))
   exact yO.2 ⟨by omega,this.2⟩)
  have hlen:xs.length+1=ks.length:=by simpa using h1
  constructor
  . rintro⟨k,ks1,t,ts1,e1,e2,c1,c2,c⟩ q k' t' hk ht;obtain⟨rfl,rfl⟩:a=k/\ks=ks1:=by simpa using e1
    obtain⟨rfl,rfl⟩:b=t/\ts=ts1:=by simpa using e2
    cases q with
    |zero=>obtain rfl:a=k':=(by simpa using hk);obtain rfl:b=t':=(by simpa using ht);rw[Hn];exact c2
    |succ q=>rw[m4] at hk ht;rw[Hm x xs s (by have:=(ggs.1 hk).1;omega)];exact ih.1 c q k' t' hk ht
  . intro h;refine⟨a,ks,b,ts,rfl,rfl,hs x f_,by have:=h 0 a b rfl rfl;rwa[Hn] at this,ih.2 λq k t hk ht=>?_⟩;have:=h (q+1) k t (by simpa using hk) (by simpa using ht);rwa[Hm x xs s (by have:=(ggs.1 hk).1;omega)] at this
theorem Kq (n:DNode)(s:Span)(q:Nat):wC n s q=kS n.seps s q:=by
 unfold kS wC CK;have:yp n s q=yp ⟨2,[],[],n.seps,[]⟩ s q:=by cases q <;> rfl
 rw[this]
theorem Dy {n:DNode}{s:Span}:(∀q,q<=n.seps.length->wS n s q=false)↔∀x∈n.seps,inS s x=true:=by
 have key:∀q x,n.seps[q]? = some x->(wS n s (q+1)=false↔inS s x=true):=λq x hx=>by
  have e:wS n s (q+1) = !inS s x:=by show (match n.seps[q]? with|some x=>!inS s x|none=>false)=_;rw[hx]
  rw[e];simp
 constructor
 . intro h x hx;obtain⟨q,hq⟩:=J_.1 hx;have:=(ggs.1 hq).1;exact(key q x hq).1 (h (q+1) o_)
 . intro h q hq
   cases q with
   |zero=>rfl
   |succ q=>have hx:n.seps[q]? = some n.seps[q]:=gge o_;exact(key q _ hx).2 (h _ (List.getElem_mem _))
def mOf (d:Int)(h:Nat):Nat:=if 0<d then 4 else if h=0 then 0 else 2
theorem CU {ns:List DNode}(hns:∀n∈ns,wy n=0):∀(h:Nat) (i d:Int) (s:Span),0<=d->(okN ns h i d s↔wx ns h i (mOf d h) s):=by
 intro h
 induction h with
 |zero =>
  intro i d s hd
  have hm:∀L:Leaf (nd ns i),((0<d->4<=(nd ns i).elems.length+(nd ns i).kids.length)↔mOf d 0<=(nd ns i).elems.length):=λL=>by
   rw[L.kids];unfold mOf;by_cases h:0<d
   . rw[if_pos h];simp[h]
   . rw[if_neg h];simp[h]
  constructor
  . rintro⟨h1,h2,h3,h4⟩;exact⟨h1,h2,(hm (zi hns h1 h2)).1 h3,h4⟩
  . rintro⟨h1,h2,h3,h4⟩;exact⟨h1,h2,(hm (zi hns h1 h2)).2 h3,h4⟩
 |succ h ih =>
  intro i d s hd
  have hm:∀L:Inner (nd ns i),((0<d->4<=(nd ns i).elems.length+(nd ns i).kids.length)↔mOf d (h+1)<=(nd ns i).kids.length):=λL=>by
   rw[L.elems];unfold mOf;have:=L.two;by_cases h:0<d
   . rw[if_pos h];simp[h]
   . rw[if_neg h];simp[h];omega
  have h4:mOf (d+1) h=4:=by unfold mOf;rw[if_pos o_]
  constructor
  . rintro⟨h1,h2,h3,h5⟩;obtain⟨hk,L⟩:=yf hns h1 h2;refine⟨h1,hk,(hm L).1 h3,?_⟩;refine(Gp L.seps L.tids L.ord (Dy.1 λq hq=>?_)).2 λq k t hk' ht=>?_
    . have hlen:=L.seps;have hkk:(nd ns i).kids[q]? = some (nd ns i).kids[q]:=gge o_;exact(h5 (_,q) (Ab hkk)).2.1
    . obtain⟨c1,_,c3⟩:=h5 (k,q) (Ab hk');dsimp only at c1 c3;rw[Kq] at c1;have:=(ih k (d+1) _ o_).1 c1;rw[h4] at this;exact⟨this,by rw[c3,ht];rfl⟩
  . rintro⟨h1,h2,h3,h5⟩;obtain⟨hk,L⟩:=yf hns h1 ⟨by rw[h2];decide,by rw[h2];decide⟩;have hseps:=h5.seps;refine⟨h1,⟨by rw[h2];decide,by rw[h2];decide⟩,(hm L).2 h3,λp hp=>?_⟩;rw[l7] at hp;have hpl:=(ggs.1 hp).1;have htl:=L.tids;have ht:(nd ns i).tids[p.2]? = some (nd ns i).tids[p.2]:=gge o_;obtain⟨c1,c2⟩:=(Gp L.seps L.tids L.ord hseps).1 h5 p.2 p.1 _ hp ht;refine⟨?_,Dy.2 hseps p.2 (by have:=L.seps;omega),by rw[c2,ht];rfl⟩;rw[Kq];rw[<-h4] at c1;exact(ih p.1 (d+1) _ o_).2 c1
theorem ym {f g:Int->List Nat}:∀ {l:List Int},(∀a∈l,f a=g a)->l.flatMap f=l.flatMap g
 |[],_=>rfl
 |a::l,h=>by rw[a_,a_,h a f_,ym λb hb=>h b (B_ _ hb)]
theorem wx.same {ns ns':List DNode}(hl:ns.length<=ns'.length):∀ {h:Nat} {i:Int} {m:Nat} {s:Span},wx ns h i m s->(∀j∈ids ns h i,ns'[j]? = ns[j]?) ->
 wx ns' h i m s/\ids ns' h i=ids ns h i/\wb ns' h i=wb ns h i/\nd ns' i=nd ns i:=by
 intro h
 induction h with
 |zero =>
  intro i m s c hj;have e:nd ns' i=nd ns i:=by unfold nd;rw[hj i.toNat (by simp[ids])]
  refine⟨?_,rfl,by unfold wb;rw[e],e⟩;obtain⟨h1,h2,h3,h4⟩:=c;exact⟨⟨h1.1,by omega⟩,by rw[e];exact h2,by rw[e];exact h3,by rw[e];exact h4⟩
 |succ h ih =>
  intro i m s c hj;have e:nd ns' i=nd ns i:=by unfold nd;rw[hj i.toNat (by simp[ids])]
  obtain⟨h1,h2,h3,h4⟩:=c
  have hkid:∀k∈(nd ns i).kids,∀ {m:Nat} {s:Span},wx ns h k m s->wx ns' h k m s/\ids ns' h k=ids ns h k/\wb ns' h k=wb ns h k/\nd ns' k=nd ns k:=λk hk {m s} c =>
   ih c λj hjk=>hj j (by rw[ids];exact B_ _ (E_.2 ⟨k,hk,hjk⟩))
  refine⟨⟨⟨h1.1,by omega⟩,by rw[e];exact h2,by rw[e];exact h3,?_⟩,?_,?_,e⟩
  . rw[e];exact h4.mono λk t s' hk c=>⟨(hkid k hk c.1).1,by rw[(hkid k hk c.1).2.2.2];exact c.2⟩
  . rw[ids,ids,e];congr 1;exact ym λk hk=>by obtain⟨t,s',c,_⟩:=h4.mem k hk;exact(hkid k hk c.1).2.1
  . rw[wb,wb,e];exact wI λk hk=>by obtain⟨t,s',c,_⟩:=h4.mem k hk;exact(hkid k hk c.1).2.2.1
end
section
abbrev NL:=List (Int⊕DNode)
def zN:DNode:=⟨0,[],[],[],[]⟩
def fN1:Int⊕DNode->DNode
 |.inl _=>zN
 |.inr n=>n
def fN (N:NL):List DNode:=N.map fN1
theorem wn (N:NL):(fN N).length=N.length:=i_ ..
theorem Am (N:NL)(j:Nat):(fN N)[j]? = (N[j]?).map fN1:=L_ ..
theorem I4 {N N':NL}{j:Nat}(h:N'[j]? = N[j]?):(fN N')[j]? = (fN N)[j]?:=by rw[Am,Am,h]
theorem KC (l:List DNode):fN (l.map I_)=l:=by unfold fN;rw[E3];exact List.map_id'' (λ_=>rfl) l
theorem wF (N:NL){i:Int}{j:Nat}(h:j≠i.toNat):(iL N i)[j]? = N[j]?:=by unfold iL;rw[L7 o_]
theorem ww (N:NL){i:Int}{n:DNode}{j:Nat}(h:j≠i.toNat):(jb N i n)[j]? = N[j]?:=by unfold jb;rw[L7 o_]
theorem wL (N:NL){i:Int}{n:DNode}(h:i.toNat<N.length):(jb N i n)[i.toNat]? = some (.inr n):=by unfold jb;rw[List.getElem?_set_self h]
theorem wh (N:NL)(i:Int):(iL N i).length=N.length:=by unfold iL;rw[p8]
theorem wj (N:NL)(i:Int)(n:DNode):(jb N i n).length=N.length:=by unfold jb;rw[p8]
def kd (N:NL)(j:Nat):Option Int:=(N[j]?).map sX
theorem za (N:NL)(i:Int)(j:Nat):kd (iL N i) j=kd N j:=by
 unfold kd iL;rw[List.getElem?_set];split
 . rename_i e;subst e;split
   . rename_i h;rw[gge h];rfl
   . rename_i h;rw[t6 o_]
 . rfl
def xr (N:NL):Prop:=∀n∈fN N,wy n=0
theorem xr.out {N:NL}(h:xr N)(i:Int):xr (iL N i):=λn hn=>by
 obtain⟨x,hx,rfl⟩:=u_.1 hn;rcases L8 hx with hx|rfl
 . exact h _ (u_.2 ⟨x,hx,rfl⟩)
 . show wy zN=0;decide
theorem xr.put {N:NL}(h:xr N){i:Int}{n:DNode}(hn:wy n=0):xr (jb N i n):=λm hm=>by
 obtain⟨x,hx,rfl⟩:=u_.1 hm;rcases L8 hx with hx|rfl
 . exact h _ (u_.2 ⟨x,hx,rfl⟩)
 . exact hn
theorem xr.push {N:NL}(h:xr N){n:DNode}(hn:wy n=0):xr (N++[.inr n]):=λm hm=>by
 obtain⟨x,hx,rfl⟩:=u_.1 hm;rcases j_.1 hx with hx|hx
 . exact h _ (u_.2 ⟨x,hx,rfl⟩)
 . rw[W_.1 hx];exact hn
theorem J6 {N:NL}{i:Int}(h:0<=i/\i<((fN N).length:Int))(hk:(nd (fN N) i).kind≠0):j9 N i=some (nd (fN N) i)/\N[i.toNat]? = some (.inr (nd (fN N) i)):=by
 rw[wn] at h;have hg:N[i.toNat]? = some N[i.toNat]:=gge o_;have hn:nd (fN N) i=fN1 N[i.toNat]:=by unfold nd;rw[Am,hg];rfl
 cases hx:N[i.toNat] with
 |inl k=>rw[hn,hx] at hk;exact absurd rfl hk
 |inr n=>rw[hn,hx];unfold j9;rw[if_neg o_,hg,hx];exact⟨rfl,rfl⟩
theorem wx.kind {ns:List DNode}{h:Nat}{i:Int}{m:Nat}{s:Span}(c:wx ns h i m s):(nd ns i).kind≠0:=by
 cases h with
 |zero=>rw[c.2.1];decide
 |succ h=>rw[c.2.1];decide
theorem wx.node {N:NL}{h:Nat}{i:Int}{m:Nat}{s:Span}(c:wx (fN N) h i m s):j9 N i=some (nd (fN N) i)/\N[i.toNat]? = some (.inr (nd (fN N) i)):=J6 c.range c.kind
theorem zr {N:NL}{i:Int}(h:0<=i/\i<(N.length:Int)):kJ N i=some ():=by unfold kJ;rw[if_pos h]
theorem Cm {N:NL}{i:Int}{n:DNode}(h:0<=i/\i<(N.length:Int)):nd (fN (jb N i n)) i=n:=by unfold nd;rw[Am,wL N o_];rfl
theorem wx.agree {N N':NL}(hl:N.length<=N'.length){h:Nat}{i:Int}{m:Nat}{s:Span}(c:wx (fN N) h i m s)(hj:∀j∈ids (fN N) h i,N'[j]? = N[j]?) :
 wx (fN N') h i m s/\ids (fN N') h i=ids (fN N) h i/\wb (fN N') h i=wb (fN N) h i/\nd (fN N') i=nd (fN N) i :=
 wx.same (by rw[wn,wn];exact hl) c λj hjm=>I4 (hj j hjm)
theorem wx.head {ns:List DNode}(h:Nat)(i:Int):i.toNat∈ids ns h i:=by cases h <;> simp[ids]
theorem Ch.before {P:Int->Int->Span->Prop}:∀ {XA X:List DSpot} {s:Span} {A K TA T:List Int},XA.length=A.length->TA.length=A.length->Ch P (XA++X) s (A++K) (TA++T)->∀k∈A,∃t s',P k t s'/\∀y,inS s' y=true->∃x∈XA,cmpS y x<0
 |[],X,s,A,K,TA,T,h1,_,_,k,hk=>by obtain rfl:=O_ h1.symm;cases hk
 |x::XA,X,s,A,K,TA,T,h1,h2,⟨a,ks,t,ts,e1,e2,c1,c2,c⟩,k,hk=>by
  cases A with
  |nil=>simp at h1
  |cons b A =>
  cases TA with
  |nil=>simp at h2
  |cons u TA =>
  obtain⟨rfl,rfl⟩:b=a/\A++K=ks:=by simpa using e1
  obtain⟨rfl,rfl⟩:u=t/\TA++T=ts:=by simpa using e2
  rcases g_.1 hk with rfl|hk
  . exact⟨u,_,c2,λy hy=>⟨x,f_,(xG.1 hy).2⟩⟩
  . obtain⟨t',s',i1,i2⟩:=Ch.before (by simpa using h1) (by simpa using h2) c k hk;exact⟨t',s',i1,λy hy=>by obtain⟨z,hz,hzy⟩:=i2 y hy;exact⟨z,B_ _ hz,hzy⟩⟩
theorem Ch.behind {P:Int->Int->Span->Prop}:∀ {XA XB:List DSpot} {x:DSpot} {s:Span} {A B TA TB:List Int},XA.length+1=A.length->TA.length=A.length->Ch P (XA++x::XB) s (A++B) (TA++TB)->∀k∈B,∃t s',P k t s'/\∀y,inS s' y=true->cmpS x y<=0
 |[],XB,x,s,A,B,TA,TB,h1,h2,⟨a,ks,t,ts,e1,e2,c1,c2,c⟩,k,hk=>by
  obtain⟨b,rfl⟩:=S_.1 h1.symm;obtain⟨u,rfl⟩:=S_.1 h2;obtain⟨rfl,rfl⟩:b=a/\B=ks:=by simpa using e1
  obtain⟨rfl,rfl⟩:u=t/\TB=ts:=by simpa using e2
  obtain⟨t',s',i1,i2⟩:=c.mem k hk;exact⟨t',s',i1,λy hy=>(yO.1 (i2 y hy)).1⟩
 |z::XA,XB,x,s,A,B,TA,TB,h1,h2,⟨a,ks,t,ts,e1,e2,c1,c2,c⟩,k,hk=>by
  cases A with
  |nil=>simp at h1
  |cons b A =>
  cases TA with
  |nil=>simp at h2
  |cons u TA =>
  obtain⟨rfl,rfl⟩:b=a/\A++B=ks:=by simpa using e1
  obtain⟨rfl,rfl⟩:u=t/\TA++TB=ts:=by simpa using e2
  exact Ch.behind (by simpa using h1) (by simpa using h2) c k hk
theorem zV {α:Type}(l:List α){w:Nat}(h:w<l.length):l=l.take w++l[w]::l.drop (w+1):=by rw[<-T_ h,K_]
structure Foc (P:Int->Int->Span->Prop) (n:DNode) (s:Span) (sp:DSpot) (A:List Int) (k:Int) (B:List Int) (XA XB:List DSpot) (TA:List Int) (t:Int) (TB:List Int) (s':Span):Prop where
 kids:n.kids=A++k::B
 seps:n.seps=XA++XB
 tids:n.tids=TA++t::TB
 xa:XA.length=A.length
 ta:TA.length=A.length
 xb:XB.length=B.length
 tb:TB.length=B.length
 way:yE n.seps sp=A.length
 here:P k t s'
 in_:inS s' sp=true
 sub:∀y,inS s' y=true->inS s y=true
 lo:∀k'∈A,∃t' s'',P k' t' s''/\∀y,inS s'' y=true->cmpS y sp<0
 hi:∀k'∈B,∃t' s'',P k' t' s''/\∀y,inS s'' y=true->cmpS sp y<0
 loX:∀x∈XA,∀y,inS s' y=true->cmpS x y<=0
 hiX:∀x∈XB,∀y,inS s' y=true->cmpS y x<0
 turn:∀Q:Int->Int->Span->Prop,(∀k t s',k∈A\/k∈B->P k t s'->Q k t s')->∀M' XM' TM',Ch Q XM' s' M' TM'->Ch Q (XA++(XM'++XB)) s (A++(M'++B)) (TA++(TM'++TB))
theorem Gz {P:Int->Int->Span->Prop}{n:DNode}{s:Span}{sp:DSpot}(h1:n.seps.length+1=n.kids.length)(h2:n.tids.length=n.kids.length)(ho:n.seps.Pairwise SpotO)(c:Ch P n.seps s n.kids n.tids)(hs:inS s sp=true) :
 ∃A k B XA XB TA t TB s',Foc P n s sp A k B XA XB TA t TB s':=by
 have hw:=CZ n.seps sp;obtain⟨w1,w2⟩:=Fe n.seps sp
 generalize hwe:yE n.seps sp=w at *
 have e1:=zV n.kids (w:=w) o_;have e2:=zV n.tids (w:=w) o_;have e3:n.seps=n.seps.take w++n.seps.drop w:=(K_ _ _).symm;have l1:(n.kids.take w).length=w:=by rw[p_];omega
 have l2:(n.tids.take w).length=w:=by rw[p_];omega
 have l3:(n.seps.take w).length=w:=by rw[p_];omega
 have l4:(n.kids.drop (w+1)).length=n.kids.length-(w+1):=G_;have l5:(n.tids.drop (w+1)).length=n.tids.length-(w+1):=G_;have l6:(n.seps.drop w).length=n.seps.length-w:=G_;have xa:∀x∈n.seps.take w,cmpS x sp<=0:=λx hx=>by obtain⟨q,hq⟩:=J_.1 hx;have hql:=(ggs.1 hq).1;rw[L9 o_] at hq;exact w1 q x o_ hq
 have xb:∀x∈n.seps.drop w,cmpS sp x<0:=λx hx=>by
  have hlt:w<n.seps.length:=by obtain⟨q,hq⟩:=J_.1 hx;have:=(ggs.1 hq).1;omega
  have h0:n.seps[w]? = some n.seps[w]:=gge hlt;have h3:=w2 _ h0;have h4:cmpS sp n.seps[w]<0:=by have:=wq.neg n.seps[w] sp;omega
  rw[T_ hlt] at hx;rcases g_.1 hx with rfl|hx
  . exact h4
  . obtain⟨q,hq⟩:=J_.1 hx;rw[m9] at hq;exact wq.lt_trans h4 (xl ho o_ h0 hq)
 have c':=c;rw[e1,e2,e3] at c';have ho':=ho;rw[e3] at ho';obtain⟨s',i1,i2,i3,i4,i5,i6⟩:=Ch.focus (XM:=[]) (M:=[n.kids[w]]) (TM:=[n.tids[w]]) o_ o_ rfl rfl o_ o_ ho' c';obtain⟨k,t,hk,ht,hP⟩:=i1;obtain rfl:n.kids[w]=k:=by simpa using hk
 obtain rfl:n.tids[w]=t:=by simpa using ht
 refine⟨_,_,_,n.seps.take w,n.seps.drop w,_,_,_,s',e1,e3,e2,by omega,by omega,by omega,by omega,by rw[hwe,l1],hP,?_,i2,λk' hk'=>?_,λk' hk'=>?_,i3,i4,i6⟩
 . exact i5 sp hs (λx hx=>xa x hx) (λx hx=>xb x hx)
 . obtain⟨t',s'',j1,j2⟩:=Ch.before o_ o_ c' k' hk';exact⟨t',s'',j1,λy hy=>by obtain⟨x,hx,hxy⟩:=j2 y hy;exact xP hxy (xa x hx)⟩
 . have hne:n.seps.drop w≠[]:=λe=>by have:(n.kids.drop (w+1)).length=0:=(by rw[e] at l6;simp at l6;omega);rw[O_ this] at hk';cases hk'
   obtain⟨x,XB,hX⟩:=List.exists_cons_of_ne_nil hne;have c2:=c';rw[hX,show n.kids.take w++n.kids[w]::n.kids.drop (w+1)=(n.kids.take w++[n.kids[w]])++n.kids.drop (w+1) by simp,show n.tids.take w++n.tids[w]::n.tids.drop (w+1)=(n.tids.take w++[n.tids[w]])++n.tids.drop (w+1) by simp] at c2;obtain⟨t',s'',j1,j2⟩:=Ch.behind (by simp;omega) (by simp;omega) c2 k' hk';exact⟨t',s'',j1,λy hy=>xP (xb x (by rw[hX];exact f_)) (j2 y hy)⟩
theorem wx.weak {ns:List DNode}{h:Nat}{i:Int}{m m':Nat}{s:Span}(hm:m'<=m)(c:wx ns h i m s):wx ns h i m' s:=by
 cases h with
 |zero=>exact⟨c.1,c.2.1,U_ hm c.2.2.1,c.2.2.2⟩
 |succ h=>exact⟨c.1,c.2.1,U_ hm c.2.2.1,c.2.2.2⟩
theorem wx.leaf {ns:List DNode}(hns:∀n∈ns,wy n=0){i:Int}{m:Nat}{s:Span}(c:wx ns 0 i m s):Leaf (nd ns i):=zi hns c.1 c.2.1
theorem wx.inner {ns:List DNode}(hns:∀n∈ns,wy n=0){h:Nat}{i:Int}{m:Nat}{s:Span}(c:wx ns (h+1) i m s):Inner (nd ns i):=(yf hns c.1 ⟨by rw[c.2.1];decide,by rw[c.2.1];decide⟩).2
theorem wx.elems {ns:List DNode}(hns:∀n∈ns,wy n=0){h:Nat}{i:Int}{m:Nat}{s:Span}(c:wx ns h i m s):(wb ns h i).Pairwise SpO/\∀e∈wb ns h i,inS s (wg e)=true/\wm e=0:=by
 have h0:wx ns h i (mOf 0 h) s:=by
  cases h with
  |zero=>exact c.weak (Nat.zero_le _)
  |succ h=>exact⟨c.1,c.2.1,(c.inner hns).two,c.2.2.2⟩
 exact xD hns h i 0 s ((CU hns h i 0 s (v8 _)).2 h0)
theorem Av {f:Int->List Nat}{i:Nat}{A B:List Int}{k:Int}(h:(i::(A++k::B).flatMap f).Nodup) :
 i∉f k/\(f k).Nodup/\(∀a,a∈A\/a∈B->i∉f a/\∀j∈f a,j∉f k):=by
 rw[d_,a_,P_] at h;obtain⟨h1,h2⟩:=h;rw[H_] at h2;obtain⟨h3,h4,h5⟩:=h2;rw[H_] at h4;obtain⟨h6,h7,h8⟩:=h4;simp only[j_,not_or] at h1;refine⟨h1.2.1,h6,λa ha=>⟨λhi=>?_,λj hj hk=>?_⟩⟩
 . rcases ha with ha|ha
   . exact h1.1 (E_.2 ⟨a,ha,hi⟩)
   . exact h1.2.2 (E_.2 ⟨a,ha,hi⟩)
 . rcases ha with ha|ha
   . exact h5 j (E_.2 ⟨a,ha,hj⟩) j (Q_ _ hk) rfl
   . exact h8 j hk j (E_.2 ⟨a,ha,hj⟩) rfl
theorem xO {α:Type}(A:List α)(x:α)(B:List α):idx (A++x::B) (A.length:Int)=some x:=by rw[vD,m0 (v_ _)];simp
theorem zo {α:Type}(A:List α)(x y:α)(B:List α):(A++x::B).set A.length y=A++y::B:=by rw[M1 _ _ (v_ _)];simp
end
section
variable {F:Nat} [Big F]
def xX (n i:Nat):Nat:=off n (kOf n) (i+1)-off n (kOf n) i
def AS (n:Nat):List Int:=(Z_ (kOf n)).map λi=>((xX n i:Nat):Int)
theorem yh (n:Nat):(AS n).length=kOf n:=by unfold AS;simp
theorem CH {n i:Nat}(h:i<kOf n):(AS n)[i]? = some ((xX n i:Nat):Int):=by unfold AS;rw[L_,C5 h];rfl
theorem KI (n:Nat):kOf n<=n+1:=by unfold kOf;split <;> omega
theorem zO {α:Type}{l:List α}{i:Nat}{x:α}(h:l[i]? = some x):l.take (i+1)=l.take i++[x]:=by rw[Y_,h];rfl
theorem Ac {n:Nat}(hn:n<=100000):lM F (n:Int)=some (AS n):=by
 unfold lM
 have hE:(if (1:Int)<(IntKind.i64.wrap ((IntKind.i64.wrap ((IntKind.i64.wrap ((n:Int)+8))-1):Int).tdiv 8)) then IntKind.i64.wrap ((IntKind.i64.wrap ((IntKind.i64.wrap ((n:Int)+8))-1):Int).tdiv 8) else 1)=(kOf n:Int):=by
  rw[w64 (n:=(n:Int)+8) o_ o_,w64 (n:=(n:Int)+8-1) o_ o_,show (n:Int)+8-1=((n+7:Nat):Int) by omega];have e:(((n+7:Nat):Int)).tdiv 8=(((n+7) / 8:Nat):Int):=rfl;rw[e,w64 o_ o_];unfold kOf;by_cases h:8<n
  . rw[if_pos h,if_pos o_]
  . rw[if_neg h,if_neg o_];rfl
 rw[hE];have hk:=xq n;have hk1:=KI n;rw[vq (Z_ (kOf n)) (λacc i=>acc++[((xX n i:Nat):Int)]) [] (r:=AS n) (by rw[E4];omega) rfl ?hs ?he]
 . rfl
 case hs =>
  intro i e hi;have hi':=hi;have hlt:=(ggs.1 hi).1;rw[E4] at hlt;rw[C5 hlt] at hi;obtain rfl:=y_.inj hi;dsimp only;rw[vf];rw[show decide ((i:Int)<(kOf n:Int))=true from decide_eq_true o_,cond_true];have ht:rK (kOf n:Int)=some (kOf n:Int):=by unfold rK;rw[if_neg o_]
  rw[ht,obs,obs];have hb1:n*(i+1)<=100000*100002:=Nat.mul_le_mul hn o_;have hb0:n*i<=100000*100002:=Nat.mul_le_mul hn o_;have e1:(n:Int)*((i:Int)+1)=((n*(i+1):Nat):Int):=by push_cast;rfl
  have e0:(n:Int)*(i:Int)=((n*i:Nat):Int):=by push_cast;rfl
  have d1:(((n*(i+1):Nat):Int)).tdiv (kOf n:Int)=((off n (kOf n) (i+1):Nat):Int):=rfl;have d0:(((n*i:Nat):Int)).tdiv (kOf n:Int)=((off n (kOf n) i:Nat):Int):=rfl;have hm:=B4 (n:=n) (k:=kOf n) (show i<=i+1 by omega);have hl:=GQ (n:=n) hk (show i+1<=kOf n by omega);have es:((off n (kOf n) (i+1):Nat):Int)-((off n (kOf n) i:Nat):Int)=((xX n i:Nat):Int):=by unfold xX;omega
  have hsh:xX n i<=n:=by unfold xX;omega
  rw[w64 (n:=(i:Int)+1) o_ o_,e1,e0,w64 (n:=((n*(i+1):Nat):Int)) o_ o_,w64 (n:=((n*i:Nat):Int)) o_ o_,d1,d0,w64 (n:=((off n (kOf n) (i+1):Nat):Int)) o_ o_,w64 (n:=((off n (kOf n) i:Nat):Int)) o_ o_,es,w64 o_ o_];rw[vM (by simp;omega) (by simp;omega)];rfl
 case he =>
  dsimp only;rw[vf,E4,decide_eq_false o_,cond_false];rfl
theorem xp {n:DNode}(h:wy n=0):Small n:=by
 obtain⟨h1,h2⟩:=yq h;rcases wE.1 h with q|q|q
 . refine⟨by omega,by omega,?_,?_⟩
   . rw[q.2.2.2.1];simp
   . rw[q.2.2.2.2];simp
 . refine⟨by omega,by omega,?_,?_⟩
   . rw[q.2.seps];simp
   . rw[q.2.tids];simp
 . exact⟨by omega,by omega,by have:=q.2.seps;omega,by have:=q.2.tids;omega⟩
def HH (l:List DElem):Option Int:=l.zipIdx.findSome? λp=>xx l p.2 p.1
def ofR (l:List DElem):DTree×Int:=if 400<l.length then (⟨0,[]⟩,2) else match HH l with
 |some e=>(⟨0,[]⟩,e)
 |none=>(xZ l,0)
theorem DX {l:List DElem}:HH l=none↔(∀e∈l,wm e=0)/\l.Pairwise SpO:=by
 unfold HH;rw[vo];constructor
 . intro h;refine⟨λe he=>?_,yu (R:=SpO) (λa b c h1 h2=>SpO.trans h1 h2) λj p e hp he=>?_⟩
   . obtain⟨k,hk⟩:=J_.1 he;exact(xW.1 (h k e hk)).1
   . exact(xW.1 (h (j+1) e he)).2 j p rfl hp
 . rintro⟨h1,h2⟩ k e hk;exact xW.2 ⟨h1 e (q_ hk),λj p hj hp=>xl h2 o_ hp hk⟩
theorem FQ {α:Type}{G:List (List α)}{β:Type}{φ:List α×Nat->β}{i:Nat}{g:List α}(h:G[i]? = some g):(G.zipIdx.map φ)[i]? = some (φ (g,i)):=by rw[L_,C1,h];simp
theorem Eo {α:Type}(l:List α)(i:Nat):(l.drop (off l.length (kOf l.length) i)).drop (xX l.length i)=l.drop (off l.length (kOf l.length) (i+1)):=by rw[E5];congr 1;have:=B4 (n:=l.length) (k:=kOf l.length) (show i<=i+1 by omega);unfold xX;omega
theorem En {α:Type}(l:List α){i:Nat}(h:i<kOf l.length):xX l.length i<=(l.drop (off l.length (kOf l.length) i)).length:=by have h1:=GQ (n:=l.length) (xq l.length) (show i+1<=kOf l.length by omega);rw[G_];unfold xX;omega
theorem Fu (l:List DElem):pU F l=some (ofR l):=by
 unfold pU ofR;by_cases hl:400<l.length
 . rw[show decide ((400:Int)<(l.length:Int))=true from decide_eq_true o_,cond_true,if_pos hl]
 rw[show decide ((400:Int)<(l.length:Int))=false from decide_eq_false o_,cond_false,if_neg hl];rw[tD l (λk e=>(xx l k e).map λx=>I_ ((⟨0,[]⟩:DTree),x)) (.inl ()) o_ rfl (λk e hk hb=>?_) s_];rotate_left
 . have hkl:=(ggs.1 hk).1;rw[decide_eq_true o_,cond_true,vD,hk,obs,wM,obs];unfold xx;by_cases hc:wm e=0
   . rw[vd hc,cond_false,if_neg (show ¬ (wm e≠0) by simpa using hc)]
     cases k with
     |zero=>rw[show decide ((0:Int)<((0:Nat):Int))=false from rfl,cond_false,obs,cond_false,w64 o_ o_];rfl
     |succ j =>
      obtain⟨p,hp⟩:∃p,l[j]? = some p:=⟨_,gge o_⟩;have e1:IntKind.i64.wrap (((j+1:Nat):Int)-1)=(j:Int):=(by rw[w64 o_ o_];omega);rw[decide_eq_true (show (0:Int)<((j+1:Nat):Int) by omega),cond_true,e1,vD,hp];simp only[obs,wr,wH,hp];by_cases hs:0<=cmpS (wg p) (wg e)
      . rw[decide_eq_true hs,if_pos hs];rfl
      . rw[decide_eq_false hs,if_neg hs,cond_false,w64 o_ o_];rfl
   . rw[vn hc,cond_true,if_pos (show (wm e≠0) by simpa using hc)];rfl
 have hbad:((l.zipIdx.findSome? λp=>(xx l p.2 p.1).map λx=>(I_ ((⟨0,[]⟩:DTree),x):Unit⊕(DTree×Int))).getD (.inl ()))=match HH l with
  |some e=>.inr (⟨0,[]⟩,e)
  |none=>.inl ():=by
  have:∀q:List (DElem×Nat),(q.findSome? λp=>(xx l p.2 p.1).map λx=>(I_ ((⟨0,[]⟩:DTree),x):Unit⊕(DTree×Int)))=(q.findSome? λp=>xx l p.2 p.1).map λx=>I_ (⟨0,[]⟩,x):=by
   intro q
   induction q with
   |nil=>rfl
   |cons a q ih=>rw[M2,M2];cases xx l a.2 a.1 with
    |none=>exact ih
    |some x=>rfl
  rw[this];unfold HH;cases(l.zipIdx.findSome? λp=>xx l p.2 p.1) <;> rfl
 rw[hbad,obs]
 cases hb:HH l with
 |some e=>rfl
 |none =>
  obtain⟨ho,hp⟩:=DX.1 hb;dsimp only;have hk:=xq l.length;have hk50:kOf l.length<=50:=Eb o_ c_;have hglen:=wG l;rw[Ac o_,obs];rw[qi (λi=>(((wO l).take i,(zf l).take i,l.drop (off l.length (kOf l.length) i),(i:Int)):List DNode×List Dbuild_low×List DElem×Int)) (kOf l.length) (r:=(wO l,zf l)) (by rw[Ax];rfl) o_ ?hs ?he]
  case he =>
   dsimp only;rw[yh,decide_eq_false o_,cond_false,g9 (by unfold wO;rw[i_];omega),g9 (by unfold zf;rw[i_,N_];omega)]
  case hs =>
   intro i hi;dsimp only;have hg:=Bg hi;have hn0:(wO l)[i]? = some (Jf (yk l (kOf l.length) i)):=(by unfold wO;rw[L_,hg];rfl);have hl0:(zf l)[i]? = some ⟨(i:Int),BT (yk l (kOf l.length) i)⟩:=FQ hg;have hrl:=En l hi;have hrn:=Eo l i;have hpc:yk l (kOf l.length) i=(l.drop (off l.length (kOf l.length) i)).take (xX l.length i):=rfl;have hpl:(yk l (kOf l.length) i).length<=8:=(wY (q_ hg)).1
   generalize hrest:l.drop (off l.length (kOf l.length) i)=rest at *
   have htl:((wO l).take i).length=i:=(by rw[p_];unfold wO;rw[i_];omega);have htl2:((zf l).take i).length=i:=(by rw[p_];unfold zf;rw[i_,N_];omega);rw[yh,decide_eq_true o_,cond_true,vD,CH hi,obs]
   have hspot:(bif decide ((0:Int)<((xX l.length i:Nat):Int)) then (idx rest 0).bind λe4=>(i8 e4).bind λr8=>some (r8.key.pfs,r8.key.obj,r8.key.off,r8.made) else some (0,0,0,0):Option (Int×Int×Int×Int)) =
    some ((BT (yk l (kOf l.length) i)).key.pfs,(BT (yk l (kOf l.length) i)).key.obj,(BT (yk l (kOf l.length) i)).key.off,(BT (yk l (kOf l.length) i)).made):=by
    by_cases h0:0<xX l.length i
    . rw[decide_eq_true (show (0:Int)<((xX l.length i:Nat):Int) by omega),cond_true]
      cases rest with
      |nil=>simp at hrl;omega
      |cons e r=>obtain⟨q,hq⟩:∃q,xX l.length i=q+1:=⟨xX l.length i-1,by omega⟩;rw[hpc,hq,show idx (e::r) 0=some e from rfl,obs,wr];rfl
    . have h00:xX l.length i=0:=o_;rw[h00,List.take_zero] at hpc;rw[hpc,h00];rfl
   rw[hspot,obs];dsimp only;rw[vu hrl,obs,<-hpc,vM (by simp;omega) (by simp;omega),obs,vM (by simp;omega) (by simp;omega),obs,vM (by simp;omega) (by simp;omega),obs,uT hrl,obs,hrn,w64 o_ o_,htl,zO hn0,zO hl0];rfl
  rw[obs];dsimp only;have L0:=Lev.zero o_ ho hp;have hlv0:(zf l).length<=400:=by have:=L0.size;omega
  have hout:∀ {K:List DNode×List Dbuild_low->Option (DTree×Int)} {f:List DNode×List Dbuild_low->Option ((List DNode×List Dbuild_low)⊕(List DNode×List Dbuild_low))},
   (∀ns lv h,Lev ns lv l h->f (ns,lv)=some (if 1<lv.length then .inl (wP (ns,lv)) else .inr (ns,lv)))->(iter f F (wO l,zf l)).bind K=K (up 400 (wO l,zf l)):=by
   intro K f hf;obtain⟨q,hq⟩:∃q,K (up 400 (wO l,zf l))=some q\/True:=⟨(⟨0,[]⟩,0),.inr trivial⟩
   have hit:iter f F (wO l,zf l)=some (up 400 (wO l,zf l)):=by
    have:=vG (F:=F) (f:=f) (K:=some) (λm s q=>q=up m s/\s.2.length<=m/\∃h,Lev s.1 s.2 l h) ?_ (m:=400) (s:=(wO l,zf l)) (q:=up 400 (wO l,zf l)) o_ ⟨rfl,hlv0,0,L0⟩
    . simpa using this
    . rintro m ⟨ns,lv⟩ q ⟨rfl,hm,h,L⟩;dsimp only at hm L;have hpos:0<lv.length:=(by rw[L.count];exact Gn _ _);by_cases h1:1<lv.length
      . right;obtain⟨m,rfl⟩:∃k,m=k+1:=⟨m-1,by omega⟩;have L':=L.next hp ho h1;have hc:(wP (ns,lv)).2.length=kOf lv.length:=(by unfold wP;dsimp only;rw[i_,N_,wG]);have hh:=BN h1;refine⟨m,wP (ns,lv),by omega,by rw[hf ns lv h L,if_pos h1],?_,U_ (C4 hc) o_,h+1,L'⟩;rw[up,if_pos h1]
      . left;refine⟨(ns,lv),by rw[hf ns lv h L,if_neg h1],?_⟩
        cases m with
        |zero=>rfl
        |succ m=>rw[up,if_neg h1]
   rw[hit,obs]
  rw[hout ?hstep]
  case hstep =>
   intro ns lv h L;dsimp only;have hsize:=L.size;by_cases h1:1<lv.length;rotate_left
   . rw[if_neg h1,show decide ((1:Int)<(lv.length:Int))=false from decide_eq_false o_,cond_false]
   rw[if_pos h1,show decide ((1:Int)<(lv.length:Int))=true from decide_eq_true o_,cond_true];rw[Ac o_,obs];have hkl:=BN h1;have hkp:=xq lv.length;have hgl:=wG lv;have hgm:((groups lv).map (zt ns)).length=kOf lv.length:=(by rw[i_];exact hgl);have hlm:(wP (ns,lv)).2.length=kOf lv.length:=(by unfold wP;dsimp only;rw[i_,N_,wG]);rw[qi (λi=>(((wP (ns,lv)).2.take i,ns++((groups lv).map (zt ns)).take i,lv.drop (off lv.length (kOf lv.length) i),(i:Int)):List Dbuild_low×List DNode×List Dbuild_low×Int)) (kOf lv.length) (r:=((wP (ns,lv)).2,(wP (ns,lv)).1)) (by rw[Ax];simp) o_ ?hs2 ?he2]
   . rfl
   case he2 =>
    dsimp only;rw[yh,decide_eq_false o_,cond_false,g9 o_,g9 o_];rfl
   case hs2 =>
    intro i hi;dsimp only;have hg:=Bg hi;have hn0:((groups lv).map (zt ns))[i]? = some (zt ns (yk lv (kOf lv.length) i)):=(by rw[L_,hg];rfl);have hl0:(wP (ns,lv)).2[i]? = some ⟨((ns.length+i:Nat):Int),Hk (yk lv (kOf lv.length) i)⟩:=FQ hg;have hrl:=En lv hi;have hrn:=Eo lv i;have hpc:yk lv (kOf lv.length) i=(lv.drop (off lv.length (kOf lv.length) i)).take (xX lv.length i):=rfl;obtain⟨hp8,_,_,hp1⟩:=wY (q_ hg);have hp1:=hp1 h1;have hsub:=(AQ (q_ hg)).subset
    generalize yk lv (kOf lv.length) i=g at *
    generalize lv.drop (off lv.length (kOf lv.length) i)=rest at *
    have htl:(((groups lv).map (zt ns)).take i).length=i:=(by rw[p_];omega);have htl2:((wP (ns,lv)).2.take i).length=i:=(by rw[p_];omega);rw[yh,decide_eq_true o_,cond_true,vD,CH hi,obs,vu hrl,obs,<-hpc];rw[qi (s:=(([]:List DSpot),([]:List Int),([]:List Int),(0:Int))) (λj=>(((g.take j).tail.map (·.s),(g.take j).map (λk=>wo (nd ns k.i)),(g.take j).map (·.i),(j:Int)):List DSpot×List Int×List Int×Int)) g.length (r:=(g.tail.map (·.s),g.map (λk=>wo (nd ns k.i)),g.map (·.i))) rfl o_ ?hs3 ?he3]
    case he3 =>
     dsimp only;rw[decide_eq_false o_,cond_false,w6]
    case hs3 =>
     intro j hj;dsimp only;have hgj:g[j]? = some g[j]:=gge hj;have hin:=hsub (q_ hgj);have hrange:=(L.fit _ hin).range
     generalize g[j]=e at *
     have hnd:idx (ns++((groups lv).map (zt ns)).take i) e.i=some (nd ns e.i):=(by rw[Bn hrange.1 (by rw[t_];have:=hrange.2;omega),Bo ns _ hrange]);have htk:(g.take j).length=j:=(by rw[p_];omega);rw[decide_eq_true o_,cond_true,vD,hgj,obs,vM (by rw[i_,htk,D_];omega) (by rw[i_,htk,D_];omega),obs,hnd,obs,xi _ (xp (L.chk _ (xR hrange.1 hrange.2))),obs,vM (by rw[i_,htk,D_];omega) (by rw[i_,htk,D_];omega),obs,w64 o_ o_,zO hgj,g6,g6]
     cases j with
     |zero=>rfl
     |succ j =>
      have hne:g.take (j+1)≠[]:=λh=>by rw[h] at htk;simp at htk
      rw[decide_eq_true (show (0:Int)<((j+1:Nat):Int) by omega),cond_true,vM (by rw[i_,E2,htk,D_];omega) (by rw[i_,E2,htk,D_];omega),List.tail_append_of_ne_nil hne,g6];rfl
    rw[obs];dsimp only
    obtain⟨y,g',rfl⟩:∃y g',g=y::g':=by
     cases g with
     |nil=>simp at hp1
     |cons y g'=>exact⟨y,g',rfl⟩
    have hy:idx rest 0=some y:=by
     cases rest with
     |nil=>simp at hpc
     |cons z r =>
      cases hsh:xX lv.length i with
      |zero=>rw[hsh] at hpc;simp at hpc
      |succ q=>rw[hsh,List.take_succ_cons] at hpc;rw[(List.cons.inj hpc).1];rfl
    rw[hy,obs,vM (by rw[htl2,D_];omega) (by rw[htl2,D_];omega),obs,vM (by rw[t_,htl,D_];omega) (by rw[t_,htl,D_];omega),obs,uT hrl,obs,hrn,w64 o_ o_,t_,htl,zO hn0,zO hl0,x_];rfl
  obtain⟨h,L,h1⟩:=Lev.up hp ho 400 L0 hlv0;unfold xZ;dsimp only;generalize up 400 (wO l,zf l)=x at L h1;obtain⟨ns,lv⟩:=x;dsimp only at L h1 ⊢;obtain⟨y,rfl⟩:=S_.1 h1;rfl
end
section
def xT (e x:DElem):DElem:=if wg x=wg e then e else x
theorem Cr (e x:DElem):wg (xT e x)=wg x:=by
 unfold xT;split
 . rename_i h;exact h.symm
 . rfl
theorem Kk {e x:DElem}(he:wm e=0)(hx:wm x=0):wm (xT e x)=0:=by unfold xT;split <;> assumption
theorem F9 {e:DElem}{l:List DElem}(h:l.Pairwise SpO):(l.map (xT e)).Pairwise SpO:=by rw[List.pairwise_map];exact h.imp λ{a b} hab=>by unfold SpO at hab ⊢;rw[Cr,Cr];exact hab
theorem Bx {e:DElem}{l:List DElem}(h:∀x∈l,wg x≠wg e):l.map (xT e)=l:=by
 conv=>rhs;rw[<-List.map_id l]
 exact l9 λx hx=>by unfold xT;rw[if_neg (h x hx)];rfl
structure ChgPost (e:DElem) (N N':NL) (h:Nat) (i:Int) (m:Nat) (s:Span):Prop where
 len:N'.length=N.length
 out:∀j,j∉ids (fN N) h i->N'[j]? = N[j]?
 kinds:∀j,kd N' j=kd N j
 chk:xr N'
 sub:wx (fN N') h i m s
 ids:ids (fN N') h i=ids (fN N) h i
 elems:wb (fN N') h i=(wb (fN N) h i).map (xT e)
def Al (F:Nat)(e:DElem)(rf1:NL×Int->Option NL)(x:NL×Int):Option NL:=match x with
  |(x1,x2)=>(j9 x1 x2).bind λn1=>bif (n1.kind==1) then (iter (σ:=(List DElem)×Int) (ρ:=(List DElem)) (λx=>match x with
      |(x3,x4)=>bif decide (x4<(n1.elems.length:Int)) then ((idx x3 x4).bind λe1=>(i8 e1).bind λr8=>(i8 e).bind λr9=>bif (r8==r9) then (idx x3 x4).bind λe2=>some (x3.set x4.toNat e) else some x3:Option ((List DElem))).bind λz3=>some (.inl (z3,IntKind.i64.wrap (x4+1))) else some (.inr x3)) F (n1.elems,0)).bind λz2=>(uF n1 (DNode.mk n1.kind z2 n1.kids n1.seps n1.tids)).bind λu1=>some (jb (iL x1 x2) x2 (DNode.mk n1.kind z2 n1.kids n1.seps n1.tids)) else (i8 e).bind λr10=>(mF F n1 r10).bind λr11=>(idx n1.kids r11).bind λe3=>(rf1 ((iL x1 x2),e3)).bind λz4=>(idx n1.kids r11).bind λe4=>(j9 z4 e4).bind λn2=>(iZ F n2).bind λr12=>(idx n1.tids r11).bind λe5=>(uF n1 (DNode.mk n1.kind n1.elems n1.kids n1.seps (n1.tids.set r11.toNat r12))).bind λu2=>some (jb z4 x2 (DNode.mk n1.kind n1.elems n1.kids n1.seps (n1.tids.set r11.toNat r12)))
variable {F:Nat} [Big F]
theorem Hi {a b:DNode}(h1:a.elems.length=b.elems.length)(h2:a.kids.length=b.kids.length)(h3:a.seps.length=b.seps.length)(h4:a.tids.length=b.tids.length):uF a b=some ():=by unfold uF;rw[if_pos ⟨h1,h2,h3,h4⟩]
theorem yz {n:DNode}(h1:n.kind=1)(h2:Leaf n):wy n=0:=wE.2 (.inr (.inl ⟨h1,h2⟩))
theorem wN {n:DNode}(h1:n.kind=2)(h2:Inner n):wy n=0:=wE.2 (.inr (.inr ⟨h1,h2⟩))
theorem zu {N:NL}(h:xr N){i:Int}(hi:0<=i/\i<((fN N).length:Int)):wy (nd (fN N) i)=0:=h _ (xR hi.1 hi.2)
theorem xc {N:NL}(h:xr N){i:Int}(hi:0<=i/\i<((fN N).length:Int)):iZ F (nd (fN N) i)=some (wo (nd (fN N) i)):=xi _ (xp (zu h hi))
theorem JA (l:List DElem)(e:DElem)(hl:l.length<=8) :
 iter (σ:=(List DElem)×Int) (ρ:=(List DElem)) (λx=>match x with
  |(x3,x4) =>
   bif decide (x4<(l.length:Int)) then
    (
     (idx x3 x4).bind λe1 =>
      (i8 e1).bind λr8 =>
      (i8 e).bind λr9 =>
      bif (r8==r9) then
       (idx x3 x4).bind λe2 =>
       some (x3.set x4.toNat e)
      else
       some x3:Option ((List DElem))).bind λz3 =>
    some (.inl (z3,IntKind.i64.wrap (x4+1)))
    else
     some (.inr x3)) F (l,0)=some (l.map (xT e)):=by
 refine qi (λk=>((l.take k).map (xT e)++l.drop k,(k:Int))) l.length s_ o_ (λk hk=>?_) ?_
 . have hs:l.drop k=l[k]::l.drop (k+1):=T_ hk;have hlen:((l.take k).map (xT e)).length=k:=by rw[i_,p_];omega
   have hi:idx ((l.take k).map (xT e)++l.drop k) (k:Int)=some l[k]:=(by rw[hs];have:=xO ((l.take k).map (xT e)) l[k] (l.drop (k+1));rwa[hlen] at this);have ht:l.take (k+1)=l.take k++[l[k]]:=(by rw[Y_,gge hk];rfl);dsimp only;rw[decide_eq_true o_,cond_true,hi,obs,wr,obs,wr,obs,w64 o_ o_,ht,g6,x_];by_cases h:wg l[k]=wg e
   . rw[show (wg l[k]==wg e)=true by simpa using h,cond_true,obs,obs,l_,hs];have:=zo ((l.take k).map (xT e)) l[k] e (l.drop (k+1));rw[hlen] at this;rw[this];show _=some (Sum.inl ((l.take k).map (xT e)++([xT e l[k]]++l.drop (k+1)),_));unfold xT;rw[if_pos h];rfl
   . rw[show (wg l[k]==wg e)=false by simpa using h,cond_false,obs];show _=some (Sum.inl ((l.take k).map (xT e)++([xT e l[k]]++l.drop (k+1)),_));rw[hs]
     conv=>rhs;unfold xT
     rw[if_neg h];rfl
 . dsimp only;rw[decide_eq_false o_,cond_false,List.drop_length,w6,M_]
theorem IP {e:DElem}(he:wm e=0):∀(h mf:Nat) (N:NL) (i:Int) (m:Nat) (s:Span),h<mf->xr N->wx (fN N) h i m s->(ids (fN N) h i).Nodup->inS s (wg e)=true ->
 ∃N',qD (Al F e) mf (N,i)=some N'/\ChgPost e N N' h i m s:=by
 intro h
 induction h with
 |zero =>
  intro mf N i m s hm hc c hn hs;obtain⟨mf,rfl⟩:∃q,mf=q+1:=⟨mf-1,by omega⟩;have L:=c.leaf hc;have hr:=c.range;rw[wn] at hr;obtain⟨hnode,hat⟩:=c.node;have hk1:=c.2.1
  have L':Leaf ⟨1,(nd (fN N) i).elems.map (xT e),(nd (fN N) i).kids,(nd (fN N) i).seps,(nd (fN N) i).tids⟩ :=
   ⟨L.kids,L.seps,L.tids,by rw[i_];exact L.len,λx hx=>by
    obtain⟨y,hy,rfl⟩:=u_.1 hx
    exact Kk he (L.ok y hy),F9 L.ord⟩
  have hc':=yz (n:=⟨1,(nd (fN N) i).elems.map (xT e),(nd (fN N) i).kids,(nd (fN N) i).seps,(nd (fN N) i).tids⟩) rfl L';have hnd:nd (fN (jb (iL N i) i ⟨1,(nd (fN N) i).elems.map (xT e),(nd (fN N) i).kids,(nd (fN N) i).seps,(nd (fN N) i).tids⟩)) i=_:=Cm (by rw[wh];exact hr);refine⟨jb (iL N i) i ⟨1,(nd (fN N) i).elems.map (xT e),(nd (fN N) i).kids,(nd (fN N) i).seps,(nd (fN N) i).tids⟩,?_,?_,?_,?_,(hc.out i).put hc',?_,rfl,?_⟩
  . show Al F e (qD (Al F e) mf) (N,i)=_;have hfit:uF (nd (fN N) i) ⟨1,(nd (fN N) i).elems.map (xT e),(nd (fN N) i).kids,(nd (fN N) i).seps,(nd (fN N) i).tids⟩=some ():=Hi s_ rfl rfl rfl;unfold Al;dsimp only;rw[hnode,obs,hk1,show ((1:Int)==1)=true from rfl,cond_true,JA _ _ L.len,obs,hfit,obs]
  . rw[wj,wh]
  . intro j hj;have hji:j≠i.toNat:=by simpa[ids] using hj
    rw[ww _ hji,wF _ hji]
  . intro j;by_cases hji:j=i.toNat
    . subst hji;unfold kd;rw[wL _ (by rw[wh];omega),hat];show some 1=some (nd (fN N) i).kind;rw[hk1]
    . unfold kd;rw[ww _ hji,wF _ hji]
  . refine⟨?_,by rw[hnd],by rw[hnd,i_];exact c.2.2.1,?_⟩
    . rw[wn,wj,wh];exact hr
    . rw[hnd];intro x hx;obtain⟨y,hy,rfl⟩:=u_.1 hx;rw[Cr];exact c.2.2.2 y hy
  . show (nd _ i).elems=_;rw[hnd];rfl
 |succ h ih =>
  intro mf N i m s hm hc c hn hs;obtain⟨mf,rfl⟩:∃q,mf=q+1:=⟨mf-1,by omega⟩;have L:=c.inner hc;have hr:=c.range;rw[wn] at hr;obtain⟨hnode,hat⟩:=c.node;obtain⟨_,hk2,hmk,hch⟩:=c;obtain⟨A,k,B,XA,XB,TA,t,TB,s',f⟩:=Gz L.seps L.tids L.ord hch hs
  generalize hnn:nd (fN N) i=n at *
  rw[ids,hnn,f.kids] at hn;obtain⟨d1,d2,d3⟩:=Av hn;have hN1:∀j∈ids (fN N) h k,(iL N i)[j]? = N[j]?:=λj hj=>wF N (λe=>d1 (e▸hj));obtain⟨q1,q2,q3,q4⟩:=wx.agree (N':=iL N i) (by rw[wh];exact v_ _) f.here.1 hN1;obtain⟨N2,hrun,P2⟩:=ih mf (iL N i) k 4 s' o_ (hc.out i) q1 (by rw[q2];exact d2) f.in_;have hlen2:N2.length=N.length:=by rw[P2.len,wh]
  obtain⟨hnode2,_⟩:=P2.sub.node;have hg:=Ar (zu P2.chk P2.sub.range);have hw:yE n.seps (wg e)=TA.length:=by rw[f.way,f.ta]
  have htids:(n.tids.set TA.length (wo (nd (fN N2) k)))=TA++wo (nd (fN N2) k)::TB:=by rw[f.tids,zo]
  have L':Inner ⟨2,n.elems,n.kids,n.seps,TA++wo (nd (fN N2) k)::TB⟩ :=
   ⟨L.elems,L.two,L.eight,L.seps,by have h5:=L.tids;rw[f.tids] at h5;simpa using h5,L.kid,λx hx=>by
    rcases j_.1 hx with hx|hx
    . exact L.tid x (by rw[f.tids];exact Q_ _ hx)
    . rcases g_.1 hx with rfl|hx
      . exact hg
      . exact L.tid x (by rw[f.tids];exact X_ _ (B_ _ hx)),L.ok,L.ord⟩
  obtain⟨n',hn'⟩:∃n':DNode,n'=⟨2,n.elems,n.kids,n.seps,TA++wo (nd (fN N2) k)::TB⟩:=⟨_,rfl⟩;have e2:n'.kind=2:=by rw[hn']
  have ek:n'.kids=n.kids:=by rw[hn']
  have es:n'.seps=n.seps:=by rw[hn']
  have et:n'.tids=TA++wo (nd (fN N2) k)::TB:=by rw[hn']
  rw[<-hn'] at L';have hc':=wN e2 L';have hnd:nd (fN (jb N2 i n')) i=n':=Cm (by rw[hlen2];exact hr);have hi2:i.toNat∉ids (fN N2) h k:=by rw[P2.ids,q2];exact d1
  obtain⟨r1,r2,r3,r4⟩:=wx.agree (N':=jb N2 i n') (by rw[wj];exact v_ _) P2.sub λj hj=>ww N2 (λe=>hi2 (e▸hj));have other:∀a,a∈A\/a∈B->∀ {m:Nat} {s:Span},wx (fN N) h a m s->_:=λa ha m s c=>wx.agree (N:=N) (N':=jb N2 i n') (by rw[wj,hlen2];exact v_ _) c λj hj=>by obtain⟨x1,x2⟩:=d3 a ha;have hji:j≠i.toNat:=λe=>x1 (e▸hj);rw[ww N2 hji,P2.out j (by rw[q2];exact x2 j hj),wF N hji]
  have hkids:∀a,a∈A\/a∈B->∃t' s'',wx (fN N) h a 4 s''/\(∀x∈wb (fN N) h a,wg x≠wg e):=λa ha=>by
   rcases ha with ha|ha
   . obtain⟨t',s'',x1,x2⟩:=f.lo a ha;exact⟨t',s'',x1.1,λx hx e=>by have:=x2 _ ((x1.1.elems hc).2 x hx).1;rw[e,wq.refl] at this;omega⟩
   . obtain⟨t',s'',x1,x2⟩:=f.hi a ha;exact⟨t',s'',x1.1,λx hx e=>by have:=x2 _ ((x1.1.elems hc).2 x hx).1;rw[e,wq.refl] at this;omega⟩
  have flat:∀(l:List Int),(∀a∈l,a∈A\/a∈B)->l.flatMap (ids (fN (jb N2 i n')) h)=l.flatMap (ids (fN N) h) /\
   l.flatMap (wb (fN (jb N2 i n')) h)=(l.flatMap (wb (fN N) h)).map (xT e):=λl hl=>by
   constructor
   . exact ym λa ha=>by obtain⟨t',s'',x1,_⟩:=hkids a (hl a ha);exact(other a (hl a ha) x1).2.1
   . rw[List.map_flatMap];exact wI λa ha=>by obtain⟨t',s'',x1,x2⟩:=hkids a (hl a ha);rw[(other a (hl a ha) x1).2.2.1,Bx x2]
  refine⟨jb N2 i n',?_,by rw[wj,hlen2],?_,?_,P2.chk.put hc',?_,?_,?_⟩
  . rw[hn'];show Al F e (qD (Al F e) mf) (N,i)=_;have hfit:uF n ⟨2,n.elems,n.kids,n.seps,TA++wo (nd (fN N2) k)::TB⟩=some ():=Hi rfl rfl rfl (by rw[f.tids];simp);generalize qD (Al F e) mf=rf at hrun;unfold Al;dsimp only;rw[hnode,obs,hk2,show ((2:Int)==1)=false from rfl,cond_false,wr,obs,yA n _ (xp (wN hk2 L)),obs,f.way,f.kids,xO,obs,hrun,obs,obs,hnode2,obs,xc P2.chk P2.sub.range,obs,f.tids,<-f.ta,xO,obs,l_,zo];rw[f.kids] at hfit;rw[hfit,obs]
  . intro j hj;rw[ids,hnn,f.kids,d_,a_] at hj;simp only[g_,j_,not_or] at hj;rw[ww N2 hj.1,P2.out j (by rw[q2];exact hj.2.2.1),wF N hj.1]
  . intro j;by_cases hji:j=i.toNat
    . subst hji;unfold kd;rw[wL _ (by rw[hlen2];omega),hat];show some n'.kind=some n.kind;rw[hk2,e2]
    . have:=P2.kinds j;rw[za] at this;rw[<-this];unfold kd;rw[ww N2 hji]
  . refine⟨?_,by rw[hnd,e2],by rw[hnd,ek];exact hmk,?_⟩
    . rw[wn,wj,hlen2];exact hr
    . rw[hnd,es,ek,et];have:=f.turn (BD (fN (jb N2 i n')) h) (λa t' s'' ha x=>⟨(other a ha x.1).1,by rw[(other a ha x.1).2.2.2];exact x.2⟩) [k] [] [wo (nd (fN N2) k)] ⟨k,_,rfl,rfl,r1,by rw[r4]⟩;rw[f.kids,f.seps];simpa using this
  . rw[ids,hnd,ids,hnn,ek,f.kids,d_,a_,d_,a_,(flat A λa ha=>.inl ha).1,(flat B λa ha=>.inr ha).1,r2,P2.ids,q2]
  . rw[wb,hnd,wb,hnn,ek,f.kids,d_,a_,d_,a_,(flat A λa ha=>.inl ha).2,(flat B λa ha=>.inr ha).2,r3,P2.elems,q3,g6,g6]
end
section
def DF (x:Int⊕DNode):Bool:=sX x !=0
def used (N:NL):Nat:=N.countP DF
theorem yt {x:Int⊕DNode}:DF x=true↔sX x≠0:=by unfold DF;simp
theorem DG {N:NL}{i:Nat}{x:Int⊕DNode}(y:Int⊕DNode)(h:N[i]? = some x):used (N.set i y)+(if DF x then 1 else 0)=used N+(if DF y then 1 else 0):=by
 unfold used
 induction N generalizing i with
 |nil=>simp at h
 |cons a N ih =>
  cases i with
  |zero=>obtain rfl:a=x:=(by simpa using h);rw[List.set_cons_zero,B2,B2];omega
  |succ i=>have:=ih (i:=i) (by simpa using h);rw[List.set_cons_succ,B2,B2];omega
theorem Ix {N:NL}{i:Nat}{x y:Int⊕DNode}(h:N[i]? = some x)(hx:sX x≠0)(hy:sX y≠0):used (N.set i y)=used N:=by have:=DG y h;rw[if_pos (yt.2 hx),if_pos (yt.2 hy)] at this;omega
theorem B9 (N:NL)(i:Int):used (iL N i)=used N:=by
 unfold iL;rcases Nat.lt_or_ge i.toNat N.length with h|h
 . have hg:=gge h;have:=DG (.inl (((N[i.toNat]?).map sX).getD 0)) hg;have e:DF (.inl (((N[i.toNat]?).map sX).getD 0))=DF N[i.toNat]:=by rw[hg];rfl
   rw[e] at this;omega
 . rw[List.set_eq_of_length_le h]
theorem zh {N:NL}{j:Nat}{x:Int⊕DNode}(h:N[j]? = some x):kd N j=some (sX x):=by unfold kd;rw[h];rfl
theorem Ho {N:NL}{j:Nat}{k:Int}(h:kd N j=some k):∃x,N[j]? = some x/\sX x=k:=L5.1 h
theorem JL {N:NL}(h:∀(j:Nat) (x:Int⊕DNode),N[j]? = some x->sX x≠0):used N=N.length :=
 List.countP_eq_length.2 λx hx=>by obtain⟨j,hj⟩:=J_.1 hx;exact yt.2 (h j x hj)
structure Fr2 (N N':NL) (I K:List Nat) (c:Nat):Prop where
 len:N.length<=N'.length
 cap:N'.length<=max N.length (used N')
 use:used N'<=used N+c
 out:∀(j:Nat) (x:Int⊕DNode),j∉I->N[j]? = some x->sX x≠0->N'[j]? = some x
 kept:∀(j:Nat) (x:Int⊕DNode),N[j]? = some x->sX x≠0->∃y,N'[j]? = some y/\sX y≠0
 new:∀j∈K,j∈I\/∀x:Int⊕DNode,N[j]? = some x->sX x=0
 all:∀(j:Nat) (x:Int⊕DNode),N'[j]? = some x->sX x≠0->j∈K\/(j∉I/\∃y,N[j]? = some y/\sX y≠0)
 nodup:K.Nodup
 chk:xr N'
 zero:∀j:Nat,N'[j]? = some (.inl 0)->N[j]? = some (.inl 0)
theorem Fr2.perm {N N':NL}{I K K':List Nat}{c:Nat}(h:Fr2 N N' I K c)(p:K.Perm K'):Fr2 N N' I K' c :=
 ⟨h.len,h.cap,h.use,h.out,h.kept,λj hj=>h.new j (p.mem_iff.2 hj),λj x hx hk=>(h.all j x hx hk).imp (λq=>p.mem_iff.1 q) id,p.nodup_iff.1 h.nodup,h.chk,h.zero⟩
theorem Fr2.more {N N':NL}{I K:List Nat}{c c':Nat}(h:Fr2 N N' I K c)(hc:c<=c'):Fr2 N N' I K c' :=
 ⟨h.len,h.cap,U_ h.use o_,h.out,h.kept,h.new,h.all,h.nodup,h.chk,h.zero⟩
theorem wx.used {N:NL}:∀ {h:Nat} {i:Int} {m:Nat} {s:Span},wx (fN N) h i m s->∀j∈ids (fN N) h i,∃n,N[j]? = some (.inr n)/\n.kind≠0:=by
 intro h
 induction h with
 |zero =>
  intro i m s c j hj;obtain rfl:j=i.toNat:=by simpa[ids] using hj
  exact⟨_,c.node.2,c.kind⟩
 |succ h ih =>
  intro i m s c j hj;rw[ids] at hj;rcases g_.1 hj with rfl|hj
  . exact⟨_,c.node.2,c.kind⟩
  . obtain⟨k,hk,hj⟩:=E_.1 hj;obtain⟨t,s',x,_⟩:=c.2.2.2.mem k hk;exact ih x.1 j hj
theorem Fr2.start {N:NL}(hc:xr N){i:Int}{n:DNode}(hi:N[i.toNat]? = some (.inr n))(hk:n.kind≠0):Fr2 N (iL N i) [i.toNat] [i.toNat] 0:=by
 refine⟨by rw[wh];exact v_ _,by rw[wh];exact Nat.le_max_left _ _,by rw[B9];exact v_ _,λj x hj hx _=>by rw[wF N (by simpa using hj)];exact hx,λj x hx hk=>?_,λj hj=>.inl hj,λj x hx hk=>?_,by simp,hc.out i,λj hj=>?_⟩
 . have:=za N i j;rw[zh hx] at this;obtain⟨y,hy,hyk⟩:=Ho this;exact⟨y,hy,by rw[hyk];exact hk⟩
 . by_cases hji:j=i.toNat
   . exact .inl (by simp[hji])
   . rw[wF N hji] at hx;exact .inr ⟨by simpa using hji,x,hx,hk⟩
 . by_cases hji:j=i.toNat
   . subst hji;have:=za N i i.toNat;rw[zh hj,zh hi] at this;exact absurd (y_.inj this).symm hk
   . rw[wF N hji] at hj;exact hj
theorem Fr2.up {N N2:NL}{i:Nat}{I1 I2 I3 K:List Nat}{c:Nat}{i':Int}(hi:i'.toNat=i)(f:Fr2 (iL N i') N2 I2 K c)(hn:(i::(I1++(I2++I3))).Nodup)(hu:∀j∈i::(I1++(I2++I3)),∃n:DNode,N[j]? = some (.inr n)/\n.kind≠0) :
 Fr2 N N2 (i::(I1++(I2++I3))) (i::(I1++(K++I3))) c:=by
 have hk:∀(j:Nat) (x:Int⊕DNode),N[j]? = some x->sX x≠0->∃y,(iL N i')[j]? = some y/\sX y≠0:=λj x hx hxk=>by have:=za N i' j;rw[zh hx] at this;obtain⟨y,hy,hyk⟩:=Ho this;exact⟨y,hy,by rw[hyk];exact hxk⟩
 have hk':∀(j:Nat) (x:Int⊕DNode),(iL N i')[j]? = some x->sX x≠0->∃y,N[j]? = some y/\sX y≠0:=λj x hx hxk=>by have:=za N i' j;rw[zh hx] at this;obtain⟨y,hy,hyk⟩:=Ho this.symm;exact⟨y,hy,by rw[hyk];exact hxk⟩
 have hK:∀j∈K,j∈I2\/∀x:Int⊕DNode,N[j]? = some x->sX x=0:=λj hj=>(f.new j hj).imp id λh x hx=>by
  by_cases h0:sX x=0
  . exact h0
  . obtain⟨y,hy,hyk⟩:=hk j x hx h0;exact absurd (h y hy) hyk
 obtain⟨n1,n2⟩:=P_.1 hn;obtain⟨n3,n4,n5⟩:=H_.1 n2;obtain⟨n6,n7,n8⟩:=H_.1 n4
 have hKu:∀j∈K,j∉I2->∀n:DNode,N[j]? = some (.inr n)->n.kind=0:=λj hj hj2 n hx=>by
  rcases hK j hj with h|h
  . exact absurd h hj2
  . exact h _ hx
 have hne:∀j∈K,j∈i::(I1++(I2++I3))->j∈I2:=λj hj hm=>by
  by_cases h2:j∈I2
  . exact h2
  . obtain⟨n,hx,hnk⟩:=hu j hm;exact absurd (hKu j hj h2 n hx) hnk
 refine⟨by have:=f.len;rwa[wh] at this,by have:=f.cap;rwa[wh] at this,by have:=f.use;rwa[B9] at this,λj x hj hx hxk=>?_,λj x hx hxk=>?_,λj hj=>?_,λj x hx hxk=>?_,?_,f.chk,λj hj=>?_⟩
 . simp only[g_,j_,not_or] at hj;exact f.out j x hj.2.2.1 (by rw[wF N o_];exact hx) hxk
 . obtain⟨y,hy,hyk⟩:=hk j x hx hxk;exact f.kept j y hy hyk
 . simp only[g_,j_] at hj ⊢;rcases hj with h|h|h|h
   . exact .inl (.inl h)
   . exact .inl (.inr (.inl h))
   . exact(hK j h).imp (λh=>.inr (.inr (.inl h))) id
   . exact .inl (.inr (.inr (.inr h)))
 . simp only[g_,j_,not_or];rcases f.all j x hx hxk with h|⟨h,y,hy,hyk⟩
   . exact .inl (.inr (.inr (.inl h)))
   . by_cases h0:j=i
     . exact .inl (.inl h0)
     by_cases h1:j∈I1
     . exact .inl (.inr (.inl h1))
     by_cases h3:j∈I3
     . exact .inl (.inr (.inr (.inr h3)))
     . exact .inr ⟨⟨h0,h1,h,h3⟩,hk' j y hy hyk⟩
 . refine P_.2 ⟨λhm=>?_,H_.2 ⟨n3,H_.2 ⟨f.nodup,n7,λa ha b hb e=>?_⟩,λa ha b hb e=>?_⟩⟩
   . simp only[j_,not_or] at hm n1;rcases hm with h|h|h
     . exact n1.1 h
     . exact n1.2.1 (hne i h f_)
     . exact n1.2.2 h
   . subst e;exact n8 a (hne a ha (by simp[hb])) a hb rfl
   . subst e;rcases j_.1 hb with h|h
     . exact n5 a ha a (Q_ _ (hne a h (by simp[ha]))) rfl
     . exact n5 a ha a (X_ _ h) rfl
 . have h0:=f.zero j hj;by_cases hji:j=i'.toNat
   . subst hji;obtain⟨n,hx,hnk⟩:=hu i f_;rw[<-hi] at hx;have:=za N i' i'.toNat;rw[zh h0,zh hx] at this;exact absurd (y_.inj this).symm hnk
   . rw[wF N hji] at h0;exact h0
theorem Fr2.put {N N2:NL}{I K:List Nat}{c:Nat}(f:Fr2 N N2 I K c){i:Int}(hI:i.toNat∈I)(hK:i.toNat∈K){x:Int⊕DNode}(hx:N2[i.toNat]? = some x)(hxk:sX x≠0){n:DNode}(hn:n.kind≠0)(hc:wy n=0):Fr2 N (jb N2 i n) I K c:=by
 have hlt:=(ggs.1 hx).1;have hu:used (jb N2 i n)=used N2:=Ix hx hxk hn;refine⟨by rw[wj];exact f.len,by rw[wj,hu];exact f.cap,by rw[hu];exact f.use,λj y hj hy hyk=>?_,λj y hy hyk=>?_,f.new,λj y hy hyk=>?_,f.nodup,f.chk.put hc,λj hj=>?_⟩
 . rw[ww N2 (show j≠i.toNat from λe=>hj (by rw[e];exact hI))];exact f.out j y hj hy hyk
 . by_cases hji:j=i.toNat
   . subst hji;exact⟨_,wL N2 hlt,hn⟩
   . rw[ww N2 hji];exact f.kept j y hy hyk
 . by_cases hji:j=i.toNat
   . subst hji;exact .inl hK
   . rw[ww N2 hji] at hy;exact f.all j y hy hyk
 . by_cases hji:j=i.toNat
   . subst hji;rw[wL N2 hlt] at hj;cases hj
   . rw[ww N2 hji] at hj;exact f.zero j hj
structure TakeP (N:NL) (n:DNode) (N':NL) (j:Nat):Prop where
 at_:N'[j]? = some (.inr n)
 same:∀q,q≠j->N'[q]? = N[q]?
 free:∀x:Int⊕DNode,N[j]? = some x->sX x=0
 len:N'.length=N.length\/N'.length=N.length+1/\j=N.length/\∀(q:Nat) (x:Int⊕DNode),N[q]? = some x->sX x≠0
 use:sX (.inr n)≠0->used N'=used N+1
theorem Fr2.take {N N2 N':NL}{I K:List Nat}{c:Nat}(f:Fr2 N N2 I K c){n:DNode}{j:Nat}(t:TakeP N2 n N' j)(hn:n.kind≠0)(hc:wy n=0)(hK:∀q∈K,∃x,N2[q]? = some x/\sX x≠0):Fr2 N N' I (j::K) (c+1):=by
 have hu:=t.use hn
 have hjN:∀x:Int⊕DNode,N[j]? = some x->sX x=0:=λx hx=>by
  by_cases h0:sX x=0
  . exact h0
  . obtain⟨y,hy,hyk⟩:=f.kept j x hx h0;exact absurd (t.free y hy) hyk
 have hlen:N2.length<=N'.length:=by rcases t.len with h|⟨h,_⟩ <;> omega
 refine⟨U_ f.len hlen,?_,by rw[hu];have:=f.use;omega,λq x hq hx hxk=>?_,λq x hx hxk=>?_,λq hq=>?_,λq x hx hxk=>?_,P_.2 ⟨λhj=>?_,f.nodup⟩,λm hm=>?_,λq hq=>?_⟩
 . rcases t.len with h|⟨h,_,ha⟩
   . rw[h,hu];have:=f.cap;omega
   . have:=JL ha;rw[hu,h,this];omega
 . have h1:=f.out q x hq hx hxk;by_cases hqj:q=j
   . subst hqj;exact absurd (hjN x hx) hxk
   . rw[t.same q hqj];exact h1
 . obtain⟨y,hy,hyk⟩:=f.kept q x hx hxk;by_cases hqj:q=j
   . subst hqj;exact⟨_,t.at_,hn⟩
   . exact⟨y,by rw[t.same q hqj];exact hy,hyk⟩
 . rcases g_.1 hq with rfl|hq
   . exact .inr hjN
   . exact f.new q hq
 . by_cases hqj:q=j
   . subst hqj;exact .inl f_
   . rw[t.same q hqj] at hx;exact(f.all q x hx hxk).imp (B_ _) id
 . obtain⟨x,hx,hxk⟩:=hK j hj;exact hxk (t.free x hx)
 . obtain⟨x,hx,rfl⟩:=u_.1 hm;obtain⟨q,hq⟩:=J_.1 hx;by_cases hqj:q=j
   . subst hqj;rw[t.at_] at hq;obtain rfl:=y_.inj hq;exact hc
   . rw[t.same q hqj] at hq;exact f.chk _ (u_.2 ⟨x,q_ hq,rfl⟩)
 . by_cases hqj:q=j
   . subst hqj;rw[t.at_] at hq;cases hq
   . rw[t.same q hqj] at hq;exact f.zero q hq
end
section
def HB (F:Nat)(N:NL)(n:DNode):Option ((List (Int⊕DNode))×Int):=(iter (σ:=Int) (ρ:=(Unit)⊕((List (Int⊕DNode))×Int)) (λx16=>bif decide (x16<(N.length:Int)) then (su N x16).bind λkd4=>bif (kd4==0) then (kJ N x16).bind λu15=>some (.inr (.inr ((jb N x16 n),x16))) else some (.inl (IntKind.i64.wrap (x16+1))) else some (.inr (.inl ()))) F 0).bind λz=>match z with
  |.inl _=>(sY 104 (N.length+1)).bind λu16=>some ((N++[(I_ n:Int⊕DNode)]),IntKind.i64.wrap (((N++[(I_ n:Int⊕DNode)]).length:Int)-1))
  |.inr q=>some q
def KR (F:Nat)(l:List DElem)(e:DElem):Option Int:=iter (σ:=Int) (ρ:=Int) (λx15=>(bif decide (x15<(l.length:Int)) then (idx l x15).bind λe28=>(i8 e28).bind λr68=>(i8 e).bind λr69=>(ji r68 r69).bind λr70=>some (decide (r70<0)) else some false:Option (Bool)).bind λz131=>bif z131 then some (.inl (IntKind.i64.wrap (x15+1))) else some (.inr x15)) F 0
abbrev InsT:=(List (Int⊕DNode))×Int×Int×Int×Int×Int×Bool
def EI (F:Nat)(e:DElem)(rf4:NL×Int->Option InsT)(x13:NL)(x14:Int)(n31:DNode):Option ((List DElem)×(List Int)×(List DSpot)×(List Int)×(List (Int⊕DNode))):=bif (n31.kind==1) then (KR F n31.elems e).bind λz130=>(tz 56 n31.elems z130 e).bind λ_=>some ((jo n31.elems z130.toNat e),n31.kids,n31.seps,n31.tids,(iL x13 x14)) else (i8 e).bind λr71=>(mF F n31 r71).bind λr72=>(idx n31.kids r72).bind λe29=>(rf4 ((iL x13 x14),e29)).bind λz=>match z with
    |(z132,z133,z134,z135,z136,z137,z138)=>(idx n31.kids r72).bind λe30=>(j9 z132 e30).bind λn32=>(iZ F n32).bind λr73=>(idx n31.tids r72).bind λe31=>bif z138 then (tz 8 n31.kids (IntKind.i64.wrap (r72+1)) z137).bind λ_=>(tz 32 n31.seps r72 (DSpot.mk (DKey.mk z133 z134 z135) z136)).bind λ_=>(j9 z132 z137).bind λn33=>(iZ F n33).bind λr74=>(tz 8 (n31.tids.set r72.toNat r73) (IntKind.i64.wrap (r72+1)) r74).bind λ_=>some (n31.elems,(jo n31.kids (IntKind.i64.wrap (r72+1)).toNat z137),(jo n31.seps r72.toNat (DSpot.mk (DKey.mk z133 z134 z135) z136)),(jo (n31.tids.set r72.toNat r73) (IntKind.i64.wrap (r72+1)).toNat r74),z132) else some (n31.elems,n31.kids,n31.seps,(n31.tids.set r72.toNat r73),z132)
def Ae (k:Int)(z125:List DElem)(z126:List Int)(z127:List DSpot)(z128:List Int):Option ((List Int)×(List DSpot)×(List Int)×(List DElem)×(List DElem)×(List Int)×(List DSpot)×(List Int)×Int×Int×Int×Int×Int):=bif (k==1) then (iT z125 4 (z125.length:Int)).bind λs25=>(grow 56 ([]:List DElem) s25).bind λ_=>(iT z125 0 4).bind λs26=>(idx s25 0).bind λe33=>(i8 e33).bind λr76=>some ([],[],[],s25,s26,z126,z127,z128,r76.key.pfs,r76.key.obj,r76.key.off,r76.made,1) else (iT z126 4 (z126.length:Int)).bind λs27=>(iT z127 4 (z127.length:Int)).bind λs28=>(iT z128 4 (z128.length:Int)).bind λs29=>(grow 8 ([]:List Int) s27).bind λy37=>(grow 32 ([]:List DSpot) s28).bind λy38=>(grow 8 ([]:List Int) s29).bind λy39=>(idx z127 3).bind λe34=>(iT z126 0 4).bind λs30=>(iT z127 0 3).bind λs31=>(iT z128 0 4).bind λs32=>some (s29,s28,s27,[],z125,s30,s31,s32,e34.key.pfs,e34.key.obj,e34.key.off,e34.made,2)
def Bk (F:Nat)(e:DElem)(rf4:NL×Int->Option InsT)(x:NL×Int):Option InsT:=match x with
  |(x13,x14)=>(j9 x13 x14).bind λn31=>(EI F e rf4 x13 x14 n31).bind λz=>match z with
     |(z125,z126,z127,z128,z129)=>bif decide ((IntKind.i64.wrap ((z125.length:Int)+(z126.length:Int)))<=8) then (kJ z129 x14).bind λu13=>some ((jb z129 x14 (DNode.mk n31.kind z125 z126 z127 z128)),0,0,0,0,0,false) else (Ae n31.kind z125 z126 z127 z128).bind λz=>match z with
        |(z139,z140,z141,z142,z143,z144,z145,z146,z147,z148,z149,z150,z151)=>(kJ z129 x14).bind λu14=>(HB F (jb z129 x14 (DNode.mk n31.kind z143 z144 z145 z146)) (DNode.mk z151 z142 z141 z140 z139)).bind λz=>match z with
          |(z152,z153)=>some (z152,z147,z148,z149,z150,z153,true)
def Gi (F:Nat)(e:DElem)(N:NL)(root:Int):Option (Int×NL):=(qD (σ:=(List (Int⊕DNode))×Int) (ρ:=InsT) (Bk F e) F (N,root)).bind λz=>match z with
  |(z39,z40,z41,z42,z43,z44,z45)=>bif (!z45) then some (root,z39) else (j9 z39 root).bind λn41=>(j9 z39 z44).bind λn42=>(iZ F n41).bind λr84=>(iZ F n42).bind λr85=>(HB F z39 (DNode.mk 2 [] [root,z44] [(DSpot.mk (DKey.mk z40 z41 z42) z43)] [r84,r85])).bind λz=>match z with
     |(z154,z155)=>some (z155,z154)
variable {F:Nat} [Big F]
theorem GF {N:NL}{k:Nat}{x:Int⊕DNode}(h:N[k]? = some x):su N (k:Int)=some (sX x):=by unfold su;rw[if_neg o_,l_,h];rfl
theorem Gd {N:NL}(n:DNode)(hl:N.length<=1000):∃N' j,HB F N n=some (N',((j:Nat):Int))/\TakeP N n N' j:=by
 unfold HB;rw[tD (ρ:=Unit⊕(List (Int⊕DNode)×Int)) N (λk x=>if sX x=0 then some (.inr (jb N (k:Int) n,(k:Int))) else none) (.inl ()) o_ rfl ?hs ?he]
 case hs =>
  intro k x hk _;have hkl:=(ggs.1 hk).1;rw[decide_eq_true o_,cond_true,GF hk,obs];by_cases h:sX x=0
  . rw[show (sX x==0)=true by simpa using h,cond_true,zr ⟨by omega,by omega⟩,obs,if_pos h]
  . rw[show (sX x==0)=false by simpa using h,cond_false,if_neg h,w64 o_ o_]
 case he=>rw[decide_eq_false o_,cond_false]
 rw[obs]
 cases hf:N.zipIdx.findSome? (λp=>if sX p.1=0 then some (I_ (jb N (p.2:Int) n,(p.2:Int)):Unit⊕(List (Int⊕DNode)×Int)) else none) with
 |some r =>
  obtain⟨k,x,hk,hr⟩:=vp (w:=λk x=>if sX x=0 then some (I_ (jb N (k:Int) n,(k:Int)):Unit⊕(List (Int⊕DNode)×Int)) else none) hf;have hkl:=(ggs.1 hk).1;split at hr
  . rename_i h0;obtain rfl:=y_.inj hr;refine⟨jb N (k:Int) n,k,rfl,⟨?_,λq hq=>?_,λy hy=>?_,.inl (wj _ _ _),λhn=>?_⟩⟩
    . have:=wL N (i:=(k:Int)) (n:=n) (by rw[l_];exact hkl);rwa[l_] at this
    . exact ww N (by rw[l_];exact hq)
    . rw[hk] at hy;obtain rfl:=y_.inj hy;exact h0
    . unfold jb;rw[l_];have:=DG (.inr n) hk;rw[if_neg (λh=>yt.1 h h0),if_pos (yt.2 hn)] at this;omega
  . cases hr
 |none =>
  have hn:=(vo (w:=λk x=>if sX x=0 then some (I_ (jb N (k:Int) n,(k:Int)):Unit⊕(List (Int⊕DNode)×Int)) else none)).1 hf;have hall:∀(q:Nat) (x:Int⊕DNode),N[q]? = some x->sX x≠0:=λq x hx h0=>by have:=hn q x hx;rw[if_pos h0] at this;cases this
  refine⟨N++[.inr n],N.length,?_,⟨by rw[m0 (v_ _)];simp,λq hq=>?_,λx hx=>?_,.inr ⟨by simp,rfl,hall⟩,λhk=>?_⟩⟩
  . have hr:sY 104 (N.length+1)=some ():=by unfold sY;rw[if_pos ⟨by omega,by unfold maxLen;omega⟩]
    dsimp only[Option.getD_none];rw[hr,obs,t_,D_,w64 o_ o_];congr 2;omega
  . rcases Nat.lt_or_ge q N.length with h|h
    . rw[L4 h]
    . rw[t6 (by rw[t_,D_];omega),t6 h]
  . have:=(ggs.1 hx).1;omega
  . unfold used;rw[List.countP_append,List.countP_singleton,if_pos (yt.2 hk)]
theorem JJ {α:Type}{p:α->Bool}{x:α}:∀ {l:List α},x∈l.takeWhile p->p x=true
 |[],h=>by simp at h
 |a::l,h=>by
  cases ha:p a with
  |true =>
   rw[M3 ha] at h;rcases g_.1 h with rfl|h
   . exact ha
   . exact JJ h
  |false=>rw[M4 (by simp[ha])] at h;cases h
theorem J9 (l:List DElem)(e:DElem)(hl:l.length<=1000):∃w:Nat,KR F l e=some (w:Int)/\w<=l.length/\(∀x∈l.take w,cmpS (wg x) (wg e)<0)/\∀x,l[w]? = some x->¬ cmpS (wg x) (wg e)<0:=by
 obtain⟨w1,w2⟩:(∀x∈l.takeWhile (λx=>decide (cmpS (wg x) (wg e)<0)),cmpS (wg x) (wg e)<0)/\∀x,l[(l.takeWhile (λx=>decide (cmpS (wg x) (wg e)<0))).length]? = some x->¬ cmpS (wg x) (wg e)<0:=by
  refine⟨λx hx=>by simpa using JJ hx,?_⟩;clear hl
  induction l with
  |nil=>intro x hx;simp at hx
  |cons a l ih =>
   intro x hx;by_cases h:cmpS (wg a) (wg e)<0
   . rw[M3 (by simpa using h),C6,m4] at hx;exact ih x hx
   . rw[M4 (by simpa using h)] at hx;obtain rfl:a=x:=(by simpa using hx);exact h
 have hpre:l.takeWhile (λx=>decide (cmpS (wg x) (wg e)<0)) <+: l:=List.takeWhile_prefix _;have hle:=hpre.length_le;have ht:l.take (l.takeWhile (λx=>decide (cmpS (wg x) (wg e)<0))).length=l.takeWhile (λx=>decide (cmpS (wg x) (wg e)<0)):=(List.prefix_iff_eq_take.1 hpre).symm
 generalize hw:(l.takeWhile (λx=>decide (cmpS (wg x) (wg e)<0))).length=w at *
 refine⟨w,?_,hle,by rw[ht];exact w1,w2⟩;unfold KR;refine qi (λk=>(k:Int)) w rfl o_ (λk hk=>?_) ?_
 . have hkl:k<l.length:=o_;have hg:l[k]? = some l[k]:=gge hkl;have hmem:l[k]∈l.take w:=q_ (by rw[L9 hk];exact hg);rw[decide_eq_true o_,cond_true,vD,hg,obs,wr,obs,wr,obs,wH,obs,decide_eq_true (w1 _ (by rw[<-ht];exact hmem)),obs,cond_true,w64 o_ o_];rfl
 . by_cases h:w<l.length
   . have hg:l[w]? = some l[w]:=gge h;rw[decide_eq_true o_,cond_true,vD,hg,obs,wr,obs,wr,obs,wH,obs,decide_eq_false (w2 _ hg),obs,cond_false]
   . rw[decide_eq_false o_,cond_false,obs,cond_false]
theorem EH {l:List DElem}{e:DElem}{w:Nat}(ho:l.Pairwise SpO)(hw:w<=l.length)(h1:∀x∈l.take w,cmpS (wg x) (wg e)<0)(h2:∀x,l[w]? = some x->¬ cmpS (wg x) (wg e)<0)(hne:∀x∈l,wg x≠wg e) :
 (jo l w e).Pairwise SpO/\∀x,x∈jo l w e↔x=e\/x∈l:=by
 have ho':=ho;rw[<-K_ w l] at ho';obtain⟨o1,o2,o3⟩:=F_.1 ho'
 have hd:∀x∈l.drop w,SpO e x:=λx hx=>by
  have h0:∀y,l[w]? = some y->SpO e y:=λy hy=>by have h3:=h2 y hy;have h4:=hne y (q_ hy);have h5:cmpS (wg y) (wg e)≠0:=λh=>h4 ((wq.zero _ _).1 h);have h6:=wq.neg (wg y) (wg e);show cmpS (wg e) (wg y)<0;omega
  obtain⟨q,hq⟩:=J_.1 hx;rw[m9] at hq
  cases q with
  |zero=>exact h0 x (by simpa using hq)
  |succ q=>have hlt:=(ggs.1 hq).1;have hg:l[w]? = some l[w]:=gge o_;exact(h0 _ hg).trans (xl ho o_ hg hq)
 unfold jo;refine⟨F_.2 ⟨o1,z_.2 ⟨hd,o2⟩,λa ha b hb=>?_⟩,λx=>?_⟩
 . rcases g_.1 hb with rfl|hb
   . exact h1 a ha
   . exact o3 a ha b hb
 . conv=>rhs;rw[<-K_ w l]
   rw[j_,g_,j_];constructor
   . rintro(h|h|h)
     . exact .inr (.inl h)
     . exact .inl h
     . exact .inr (.inr h)
   . rintro(h|h|h)
     . exact .inr (.inl h)
     . exact .inl h
     . exact .inr (.inr h)
structure InsPost (e:DElem) (N N':NL) (h:Nat) (i:Int) (s:Span) (m:Nat) (R:List Int) (X:List DSpot):Prop where
 fr:Fr2 N N' (ids (fN N) h i) (R.flatMap (ids (fN N') h)) (h+1)
 ch:Ch (λk t s'=>wx (fN N') h k m s'/\wo (nd (fN N') k)=t) X s R (R.map λk=>wo (nd (fN N') k))
 elems:∀x,x∈R.flatMap (wb (fN N') h)↔x=e\/x∈wb (fN N) h i
theorem xw {N N':NL}{h:Nat}{X:List DSpot}{s:Span}{Ks Ts:List Int}(hl:N.length<=N'.length)(c:Ch (BD (fN N) h) X s Ks Ts)(hj:∀j∈Ks.flatMap (ids (fN N) h),N'[j]? = N[j]?) :
 Ch (BD (fN N') h) X s Ks Ts/\Ks.flatMap (ids (fN N') h)=Ks.flatMap (ids (fN N) h)/\Ks.flatMap (wb (fN N') h)=Ks.flatMap (wb (fN N) h):=by
 have key:∀k∈Ks,∀ {m:Nat} {s:Span},wx (fN N) h k m s->wx (fN N') h k m s/\ids (fN N') h k=ids (fN N) h k/\wb (fN N') h k=wb (fN N) h k/\nd (fN N') k=nd (fN N) k:=λk hk {m s} x =>
  x.agree hl λj hjk=>hj j (E_.2 ⟨k,hk,hjk⟩)
 refine⟨c.mono λk t s' hk x=>⟨(key k hk x.1).1,by rw[(key k hk x.1).2.2.2];exact x.2⟩,ym λk hk=>?_,wI λk hk=>?_⟩
 . obtain⟨t,s',x,_⟩:=c.mem k hk;exact(key k hk x.1).2.1
 . obtain⟨t,s',x,_⟩:=c.mem k hk;exact(key k hk x.1).2.2.1
theorem Ch.tmem {P:Int->Int->Span->Prop}:∀ {xs:List DSpot} {s:Span} {ks ts:List Int},Ch P xs s ks ts->∀t∈ts,∃k s',k∈ks/\P k t s'
 |[],s,ks,ts,⟨k,t,h1,h2,c⟩,q,hq=>by subst h1 h2;rw[W_.1 hq];exact⟨k,s,f_,c⟩
 |x::xs,s,ks,ts,⟨k,ks',t,ts',h1,h2,h3,h4,c⟩,q,hq=>by
  subst h1 h2;rcases g_.1 hq with rfl|hq
  . exact⟨k,_,f_,h4⟩
  . obtain⟨k',s',i1,i2⟩:=c.tmem q hq;exact⟨k',s',B_ _ i1,i2⟩
theorem ye {N:NL}(hc:xr N)(hl:N.length<=400){h:Nat}{X:List DSpot}{s:Span}{Ks Ts:List Int}(c:Ch (BD (fN N) h) X s Ks Ts)(h2:2<=Ks.length)(h8:Ks.length<=8)(ho:X.Pairwise SpotO)(hx:∀x∈X,wm (zE x)=0) :
 Inner ⟨2,[],Ks,X,Ts⟩:=by
 have hlen:=c.lens;refine⟨rfl,h2,h8,hlen.1,hlen.2,λk hk=>?_,λt ht=>?_,hx,ho⟩
 . obtain⟨t,s',x,_⟩:=c.mem k hk;have:=x.1.range;rw[wn] at this;omega
 . obtain⟨k,s',_,x⟩:=c.tmem t ht;rw[<-x.2];exact Ar (zu hc x.1.range)
theorem wx.some_elem {ns:List DNode}(hns:∀n∈ns,wy n=0){h:Nat}{i:Int}{s:Span}(c:wx ns h i 4 s):∃e,e∈wb ns h i:=by have h0:=(CU hns h i 1 s c_).2 (by unfold mOf;rw[if_pos c_];exact c);have:=Gu hns h i 1 s h0 c_;have h1:0<4 ^ (h+1):=Nat.pow_pos c_;exact List.exists_mem_of_length_pos o_
theorem GA {l:List DElem}(hl:l.length=9)(ks:List Int)(xs:List DSpot)(ts:List Int):∃x,l[4]? = some x/\Ae 1 l ks xs ts=some ([],[],[],l.drop 4,l.take 4,ks,xs,ts,(wg x).key.pfs,(wg x).key.obj,(wg x).key.off,(wg x).made,1):=by
 have hg:l[4]? = some l[4]:=gge o_;refine⟨_,hg,?_⟩;unfold Ae;have h1:iT l 4 (l.length:Int)=some (l.drop 4):=uT (k:=4) o_;have h2:iT l 0 4=some (l.take 4):=vu (k:=4) o_;have h3:idx (l.drop 4) 0=some l[4]:=by rw[show (0:Int)=((0:Nat):Int) from rfl,vD,m9];exact hg
 rw[show ((1:Int)==1)=true from rfl,cond_true,h1,obs,vM (by simp[hl]) (by simp[hl]),obs,h2,obs,h3,obs,wr,obs]
theorem FE {ks:List Int}{xs:List DSpot}{ts:List Int}(hk:ks.length=9)(hx:xs.length=8)(ht:ts.length=9)(l:List DElem):∃x,xs[3]? = some x/\Ae 2 l ks xs ts=some (ts.drop 4,xs.drop 4,ks.drop 4,[],l,ks.take 4,xs.take 3,ts.take 4,x.key.pfs,x.key.obj,x.key.off,x.made,2):=by
 have hg:xs[3]? = some xs[3]:=gge o_;refine⟨_,hg,?_⟩;unfold Ae;have h1:iT ks 4 (ks.length:Int)=some (ks.drop 4):=uT (k:=4) o_;have h2:iT xs 4 (xs.length:Int)=some (xs.drop 4):=uT (k:=4) o_;have h3:iT ts 4 (ts.length:Int)=some (ts.drop 4):=uT (k:=4) o_;have h4:iT ks 0 4=some (ks.take 4):=vu (k:=4) o_;have h5:iT xs 0 3=some (xs.take 3):=vu (k:=3) o_;have h6:iT ts 0 4=some (ts.take 4):=vu (k:=4) o_;have h7:idx xs 3=some xs[3]:=by rw[show (3:Int)=((3:Nat):Int) from rfl,vD];exact hg
 rw[show ((2:Int)==1)=false from rfl,cond_false,h1,obs,h2,obs,h3,obs,vM (by simp[hk]) (by simp[hk]),obs,vM (by simp[hx]) (by simp[hx]),obs,vM (by simp[ht]) (by simp[ht]),obs,h7,obs,h4,obs,h5,obs,h6,obs]
end
section
variable {F:Nat} [Big F]
theorem Fr2.cong {N N':NL}{I I' K K':List Nat}{c:Nat}(f:Fr2 N N' I K c)(h1:I=I')(h2:K=K'):Fr2 N N' I' K' c:=by subst h1 h2;exact f
theorem Af {N:NL}{i:Int}{n:DNode}(h:N[i.toNat]? = some (.inr n)):nd (fN N) i=n:=by unfold nd;rw[Am,h];rfl
def Gg (F:Nat)(e:DElem)(N:NL)(h mf:Nat)(i:Int)(s:Span)(m:Nat):Prop:=∃(N':NL) (sp:DSpot) (r:Int) (b:Bool),qD (Bk F e) mf (N,i)=some (N',sp.key.pfs,sp.key.obj,sp.key.off,sp.made,r,b)/\((b=false/\InsPost e N N' h i s m [i] [])\/(b=true/\wm (zE sp)=0/\InsPost e N N' h i s 4 [i,r] [sp]))
def z0:DSpot:=⟨⟨0,0,0⟩,0⟩
omit [Big F] in
theorem Dl {e:DElem}{rf:NL×Int->Option InsT}{N N2:NL}{i:Int}{n:DNode}{l:List DElem}{ks:List Int}{xs:List DSpot}{ts:List Int}(hn:j9 N i=some n)(hm:EI F e rf N i n=some (l,ks,xs,ts,N2))(h8:l.length+ks.length<=8)(hi:0<=i/\i<(N2.length:Int)) :
 Bk F e rf (N,i)=some (jb N2 i ⟨n.kind,l,ks,xs,ts⟩,0,0,0,0,0,false):=by
 unfold Bk;dsimp only;rw[hn,obs,hm,obs];dsimp only;rw[w64 o_ o_,decide_eq_true o_,cond_true,zr hi,obs]
theorem Dk {e:DElem}{rf:NL×Int->Option InsT}{N N2:NL}{i:Int}{n:DNode}{l:List DElem}{ks:List Int}{xs:List DSpot}{ts:List Int}(hn:j9 N i=some n)(hm:EI F e rf N i n=some (l,ks,xs,ts,N2))(h8:l.length+ks.length=9)(hi:0<=i/\i<(N2.length:Int))(hl:N2.length<=1000)
 {r1:List Int} {r2:List DSpot} {r3:List Int} {r4 l1:List DElem} {l2:List Int} {l3:List DSpot} {l4:List Int} {sp:DSpot} {k:Int} (hh:Ae n.kind l ks xs ts=some (r1,r2,r3,r4,l1,l2,l3,l4,sp.key.pfs,sp.key.obj,sp.key.off,sp.made,k)) :
 ∃N' j,Bk F e rf (N,i)=some (N',sp.key.pfs,sp.key.obj,sp.key.off,sp.made,((j:Nat):Int),true)/\TakeP (jb N2 i ⟨n.kind,l1,l2,l3,l4⟩) ⟨k,r4,r3,r2,r1⟩ N' j:=by
 obtain⟨N',j,h1,h2⟩:=Gd (F:=F) (N:=jb N2 i ⟨n.kind,l1,l2,l3,l4⟩) ⟨k,r4,r3,r2,r1⟩ (by rw[wj];exact hl);refine⟨N',j,?_,h2⟩;unfold Bk;dsimp only;rw[hn,obs,hm,obs];dsimp only;rw[w64 o_ o_,decide_eq_false o_,cond_false,hh,obs];dsimp only;rw[zr hi,obs,h1,obs]
theorem Jd {e:DElem}(he:wm e=0){mf:Nat}{N:NL}{i:Int}{m:Nat}{s:Span}(hm:0<mf)(hc:xr N)(hl:N.length<=400)(c:wx (fN N) 0 i m s)(hs:inS s (wg e)=true)(hne:∀x∈wb (fN N) 0 i,wg x≠wg e):Gg F e N 0 mf i s m:=by
 obtain⟨mf,rfl⟩:∃q,mf=q+1:=⟨mf-1,by omega⟩;have L:=c.leaf hc;have hr:=c.range;rw[wn] at hr;obtain⟨hnode,hat⟩:=c.node;have hk0:=c.kind;obtain⟨_,hk1,hmk,hin⟩:=c;have hne':∀x∈(nd (fN N) i).elems,wg x≠wg e:=hne;have hel:∀x,x∈wb (fN N) 0 i↔x∈(nd (fN N) i).elems:=λx=>Iff.rfl
 generalize hnn:nd (fN N) i=n at *
 obtain⟨w,hw,hwl,hw1,hw2⟩:=J9 (F:=F) n.elems e (by have:=L.len;omega);obtain⟨so,sm⟩:=EH L.ord hwl hw1 hw2 hne';have hlen:=kG e hwl;have h8:=L.len
 generalize hl':jo n.elems w e=l' at *
 have hok:∀x∈l',wm x=0:=λx hx=>by
  rcases(sm x).1 hx with rfl|hx
  . exact he
  . exact L.ok x hx
 have hin':∀x∈l',inS s (wg x)=true:=λx hx=>by
  rcases(sm x).1 hx with rfl|hx
  . exact hs
  . exact hin x hx
 have hM:∀rf,EI F e rf N i n=some (l',[],[],[],iL N i):=λrf=>by unfold EI;rw[hk1,show ((1:Int)==1)=true from rfl,cond_true,hw,obs];unfold tz;rw[if_pos ⟨by omega,by omega,by omega,by unfold maxLen;omega⟩,obs,l_,hl',L.kids,L.seps,L.tids]
 have fr0:=Fr2.start hc hat hk0;have hat1:∃x,(iL N i)[i.toNat]? = some x/\sX x≠0:=by have:=za N i i.toNat;rw[zh hat] at this;obtain⟨x,hx,hxk⟩:=Ho this;exact⟨x,hx,by rw[hxk];exact hk0⟩
 obtain⟨x1,hx1,hxk1⟩:=hat1;have hI:ids (fN N) 0 i=[i.toNat]:=rfl;by_cases hs8:l'.length<=8
 . have Lf:Leaf ⟨1,l',[],[],[]⟩:=⟨rfl,rfl,rfl,hs8,hok,so⟩;have hck:=yz (n:=⟨1,l',[],[],[]⟩) rfl Lf;have hnd:nd (fN (jb (iL N i) i ⟨1,l',[],[],[]⟩)) i=⟨1,l',[],[],[]⟩:=Cm (by rw[wh];exact hr);refine⟨jb (iL N i) i ⟨1,l',[],[],[]⟩,z0,0,false,?_,.inl ⟨rfl,⟨?_,?_,?_⟩⟩⟩
   . show Bk F e (qD (Bk F e) mf) (N,i)=_;rw[Dl hnode (hM _) (by simpa using hs8) (by rw[wh];exact hr),hk1];rfl
   . exact((fr0.put f_ f_ hx1 hxk1 (show (1:Int)≠0 by decide) hck).more (Nat.zero_le _)).cong rfl (by simp[ids])
   . refine⟨i,_,rfl,rfl,⟨?_,by rw[hnd],by rw[hnd];show m<=l'.length;omega,by rw[hnd];exact hin'⟩,rfl⟩;rw[wn,wj,wh];exact hr
   . intro x;rw[hel,<-sm x,C_];show x∈(nd _ i).elems↔_;rw[hnd]
 . have h9:l'.length=9:=o_;obtain⟨x,hx,hh⟩:=GA h9 [] [] [];rw[<-hk1] at hh;obtain⟨N',j,hB,tk⟩:=Dk (sp:=wg x) hnode (hM (qD (Bk F e) mf)) (by simpa using h9) (by rw[wh];exact hr) (by rw[wh];omega) hh;rw[hk1] at tk;have e48:l'=l'.take 4++l'.drop 4:=(K_ 4 l').symm;have hso:=so;rw[e48] at hso;obtain⟨o1,o2,o3⟩:=F_.1 hso;have hl1:(l'.take 4).length=4:=by rw[p_];omega
   have hl2:(l'.drop 4).length=5:=(by rw[G_];omega);have hxd:∃r,l'.drop 4=x::r:=(by have h4:4<l'.length:=o_;rw[gge h4] at hx;obtain rfl:=y_.inj hx;exact⟨_,T_ h4⟩);obtain⟨rr,hrr⟩:=hxd;have Lf1:Leaf ⟨1,l'.take 4,[],[],[]⟩:=⟨rfl,rfl,rfl,by show (l'.take 4).length<=8;omega,λy hy=>hok y (g8 hy),o1⟩;have Lf2:Leaf ⟨1,l'.drop 4,[],[],[]⟩:=⟨rfl,rfl,rfl,by show (l'.drop 4).length<=8;omega,λy hy=>hok y (R_ hy),o2⟩;have hck1:=yz (n:=⟨1,l'.take 4,[],[],[]⟩) rfl Lf1;have hck2:=yz (n:=⟨1,l'.drop 4,[],[],[]⟩) rfl Lf2;have fr1:=fr0.put f_ f_ hx1 hxk1 (n:=⟨1,l'.take 4,[],[],[]⟩) (show (1:Int)≠0 by decide) hck1;have hat2:(jb (iL N i) i ⟨1,l'.take 4,[],[],[]⟩)[i.toNat]? = some (.inr ⟨1,l'.take 4,[],[],[]⟩):=wL _ (by rw[wh];omega);have fr2:=fr1.take tk (show (1:Int)≠0 by decide) hck2 λq hq=>by obtain rfl:q=i.toNat:=(by simpa using hq);exact⟨_,hat2,show (1:Int)≠0 by decide⟩
   have hij:i.toNat≠j:=λh=>by subst h;exact absurd (tk.free _ hat2) (show (1:Int)≠0 by decide)
   have hNi:N'[i.toNat]? = some (.inr ⟨1,l'.take 4,[],[],[]⟩):=(by rw[tk.same _ hij];exact hat2);have hnd1:nd (fN N') i=⟨1,l'.take 4,[],[],[]⟩:=Af hNi;have hnd2:nd (fN N') (j:Int)=⟨1,l'.drop 4,[],[],[]⟩:=BX (by rw[Am,tk.at_];rfl);have hjl:j<N'.length:=(ggs.1 tk.at_).1;have hil:i.toNat<N'.length:=(ggs.1 hNi).1;have hxs:inS s (wg x)=true:=hin' x (R_ (by rw[hrr];exact f_));refine⟨N',wg x,(j:Int),true,hB,.inr ⟨rfl,EY (hok x (R_ (by rw[hrr];exact f_))),⟨?_,?_,?_⟩⟩⟩
   . refine((fr2.more o_).perm (K':=[i.toNat,j]) (List.Perm.swap _ _ _)).cong rfl ?_;simp[ids]
   . refine⟨i,[(j:Int)],_,_,rfl,rfl,hxs,⟨⟨?_,by rw[hnd1],by rw[hnd1];show 4<=(l'.take 4).length;omega,?_⟩,rfl⟩,(j:Int),_,rfl,rfl,⟨?_,by rw[hnd2],by rw[hnd2];show 4<=(l'.drop 4).length;omega,?_⟩,rfl⟩
     . rw[wn];omega
     . rw[hnd1];intro y hy;exact xG.2 ⟨(wK.1 (hin' y (g8 hy))).1,o3 y hy x (by rw[hrr];exact f_)⟩
     . rw[wn];omega
     . rw[hnd2];intro y hy;refine yO.2 ⟨?_,(wK.1 (hin' y (R_ hy))).2⟩;have hy':y∈x::rr:=(by rw[<-hrr];exact hy);rw[hrr] at o2;rcases g_.1 hy' with rfl|hy'
       . rw[wq.refl];decide
       . have:cmpS (wg x) (wg y)<0:=(z_.1 o2).1 y hy';omega
   . intro y;rw[hel,<-sm y,a_,C_];show y∈(nd _ i).elems++(nd _ (j:Int)).elems↔_;rw[hnd1,hnd2];show y∈l'.take 4++l'.drop 4↔_;rw[<-e48]
theorem Cs (l:List DElem)(a:List Int)(b:List DSpot)(c:List Int):(DNode.mk 2 l a b c).kind≠0:=show (2:Int)≠0 by decide
theorem J2 {e:DElem}{N N2:NL}{h mf:Nat}{i:Int}{m:Nat}{s:Span}{n:DNode}{Ks:List Int}{Xs:List DSpot}{Ts:List Int}(hnode:j9 N i=some n)(hk2:n.kind=2)(hM:EI F e (qD (Bk F e) mf) N i n=some ([],Ks,Xs,Ts,N2))(hi:0<=i/\i<(N2.length:Int))(hl2:N2.length<=400)
 (fr:Fr2 N N2 (ids (fN N) (h+1) i) (i.toNat::Ks.flatMap (ids (fN N2) h)) (h+1)) (hole:∃x,N2[i.toNat]? = some x/\sX x≠0) (c:Ch (BD (fN N2) h) Xs s Ks Ts) (h2:2<=Ks.length) (h9:Ks.length<=9) (hm:m<=Ks.length) (ho:Xs.Pairwise SpotO) (hx:∀x∈Xs,wm (zE x)=0)
 (el:∀x,x∈Ks.flatMap (wb (fN N2) h)↔x=e\/x∈wb (fN N) (h+1) i):Gg F e N (h+1) (mf+1) i s m:=by
 have hI:i.toNat∈ids (fN N) (h+1) i:=wx.head _ _;have hc2:=fr.chk;obtain⟨x1,hx1,hxk1⟩:=hole;have hiK:i.toNat∉Ks.flatMap (ids (fN N2) h):=(P_.1 fr.nodup).1;have hlens:=c.lens;by_cases h8:Ks.length<=8
 . have hck:=wN (n:=⟨2,[],Ks,Xs,Ts⟩) rfl (ye hc2 hl2 c h2 h8 ho hx);have hnd:nd (fN (jb N2 i ⟨2,[],Ks,Xs,Ts⟩)) i=⟨2,[],Ks,Xs,Ts⟩:=Cm hi;obtain⟨a1,a2,a3⟩:=xw (N':=jb N2 i ⟨2,[],Ks,Xs,Ts⟩) (by rw[wj];exact v_ _) c λj hj=>ww N2 (show j≠i.toNat from λh=>hiK (by rw[<-h];exact hj));refine⟨jb N2 i ⟨2,[],Ks,Xs,Ts⟩,z0,0,false,?_,.inl ⟨rfl,⟨?_,?_,?_⟩⟩⟩
   . show Bk F e (qD (Bk F e) mf) (N,i)=_;rw[Dl hnode hM (by simpa using h8) hi,hk2];rfl
   . refine((fr.put hI f_ hx1 hxk1 (Cs _ _ _ _) hck).more o_).cong rfl ?_;rw[C_,ids,hnd,a2]
   . refine⟨i,_,rfl,rfl,⟨?_,by rw[hnd],by rw[hnd];exact hm,by rw[hnd];exact a1⟩,rfl⟩;rw[wn,wj];exact hi
   . intro x;rw[C_,wb,hnd,a3];exact el x
 . have hk9:Ks.length=9:=o_;obtain⟨sp,hsp,hh⟩:=FE hk9 (show Xs.length=8 by omega) (show Ts.length=9 by omega) [];rw[<-hk2] at hh;obtain⟨N',j,hB,tk⟩:=Dk hnode hM (by simpa using hk9) hi o_ hh;rw[hk2] at tk;have h3:3<Xs.length:=o_;have hspx:Xs[3]=sp:=by rw[gge h3] at hsp;exact y_.inj hsp
   have eX:Xs=Xs.take 3++sp::Xs.drop 4:=(by rw[<-hspx];exact zV Xs h3);have eK:Ks=Ks.take 4++Ks.drop 4:=(K_ 4 Ks).symm;have eT:Ts=Ts.take 4++Ts.drop 4:=(K_ 4 Ts).symm;have l1:(Ks.take 4).length=4:=(by rw[p_];omega);have l2:(Xs.take 3).length=3:=(by rw[p_];omega);have l3:(Ts.take 4).length=4:=(by rw[p_];omega);have l4:(Ks.drop 4).length=5:=(by rw[G_];omega);have c':=c;rw[eX,eK,eT] at c';have ho':=ho;rw[eX] at ho';obtain⟨s1,s2,s3⟩:=Ch.split o_ o_ ho' c';obtain⟨o1,o2,o3⟩:=F_.1 ho';have hck1:=wN (n:=⟨2,[],Ks.take 4,Xs.take 3,Ts.take 4⟩) rfl (ye hc2 hl2 s2 o_ o_ o1 λx h=>hx x (g8 h));have hck2:=wN (n:=⟨2,[],Ks.drop 4,Xs.drop 4,Ts.drop 4⟩) rfl (ye hc2 hl2 s3 o_ o_ (z_.1 o2).2 λx h=>hx x (R_ h));have fr1:=fr.put hI f_ hx1 hxk1 (Cs [] (Ks.take 4) (Xs.take 3) (Ts.take 4)) hck1;have hat2:(jb N2 i ⟨2,[],Ks.take 4,Xs.take 3,Ts.take 4⟩)[i.toNat]? = some (.inr ⟨2,[],Ks.take 4,Xs.take 3,Ts.take 4⟩):=wL _ o_;have hKu:∀q∈Ks.flatMap (ids (fN N2) h),∃n:DNode,N2[q]? = some (.inr n)/\n.kind≠0:=λq hq=>by obtain⟨k,hk,hq⟩:=E_.1 hq;obtain⟨t,s',x,_⟩:=c.mem k hk;exact x.1.used q hq
   have hne:∀q∈Ks.flatMap (ids (fN N2) h),q≠i.toNat:=λq hq h=>hiK (by rw[<-h];exact hq)
   have fr2:=fr1.take tk (Cs _ _ _ _) hck2 λq hq=>by
    rcases g_.1 hq with rfl|hq
    . exact⟨_,hat2,Cs _ _ _ _⟩
    . obtain⟨y,hy,hyk⟩:=hKu q hq;exact⟨.inr y,by rw[ww N2 (hne q hq)];exact hy,hyk⟩
   have hij:i.toNat≠j:=λh=>by subst h;exact absurd (tk.free _ hat2) (Cs _ _ _ _)
   have hNi:N'[i.toNat]? = some (.inr ⟨2,[],Ks.take 4,Xs.take 3,Ts.take 4⟩):=(by rw[tk.same _ hij];exact hat2);have hnd1:nd (fN N') i=⟨2,[],Ks.take 4,Xs.take 3,Ts.take 4⟩:=Af hNi;have hnd2:nd (fN N') (j:Int)=⟨2,[],Ks.drop 4,Xs.drop 4,Ts.drop 4⟩:=Af (by rw[l_];exact tk.at_);have hjl:j<N'.length:=(ggs.1 tk.at_).1;have hil:i.toNat<N'.length:=(ggs.1 hNi).1;have hlen:N2.length<=N'.length:=by rcases tk.len with h|⟨h,_⟩ <;> rw[wj] at h <;> omega
   have hag:∀q∈Ks.flatMap (ids (fN N2) h),N'[q]? = N2[q]?:=λq hq=>by
    have hqj:q≠j:=λh=>by subst h;obtain⟨y,hy,hyk⟩:=hKu q hq;exact absurd (tk.free (.inr y) (by rw[ww N2 (hne q hq)];exact hy)) hyk
    rw[tk.same q hqj,ww N2 (hne q hq)]
   have sub1:∀q∈(Ks.take 4).flatMap (ids (fN N2) h),q∈Ks.flatMap (ids (fN N2) h):=λq hq=>by rw[eK,d_];exact Q_ _ hq
   have sub2:∀q∈(Ks.drop 4).flatMap (ids (fN N2) h),q∈Ks.flatMap (ids (fN N2) h):=λq hq=>by rw[eK,d_];exact X_ _ hq
   obtain⟨a1,a2,a3⟩:=xw hlen s2 λq hq=>hag q (sub1 q hq);obtain⟨b1,b2,b3⟩:=xw hlen s3 λq hq=>hag q (sub2 q hq);refine⟨N',sp,(j:Int),true,hB,.inr ⟨rfl,hx sp (by rw[eX];simp),⟨?_,?_,?_⟩⟩⟩
   . refine(fr2.perm (K':=i.toNat::((Ks.take 4).flatMap (ids (fN N2) h)++j::(Ks.drop 4).flatMap (ids (fN N2) h))) ?_).cong rfl ?_
     . rw[show Ks.flatMap (ids (fN N2) h)=(Ks.take 4).flatMap (ids (fN N2) h)++(Ks.drop 4).flatMap (ids (fN N2) h) by rw[<-d_,<-eK]];exact(List.Perm.swap _ _ _).trans (List.Perm.cons _ n9.symm)
     . rw[a_,C_,ids,ids,hnd1,hnd2,a2,b2,l_];rfl
   . refine⟨i,[(j:Int)],_,_,rfl,rfl,s1,⟨⟨?_,by rw[hnd1],by rw[hnd1];show 4<=(Ks.take 4).length;omega,by rw[hnd1];exact a1⟩,rfl⟩,(j:Int),_,rfl,rfl,⟨?_,by rw[hnd2],by rw[hnd2];show 4<=(Ks.drop 4).length;omega,by rw[hnd2];exact b1⟩,rfl⟩
     . rw[wn];omega
     . rw[wn];omega
   . intro x;rw[<-el x,a_,C_,wb,wb,hnd1,hnd2];show x∈(Ks.take 4).flatMap _++(Ks.drop 4).flatMap _↔_;rw[a3,b3,<-d_,<-eK]
theorem EX (sp:DSpot):DSpot.mk (DKey.mk sp.key.pfs sp.key.obj sp.key.off) sp.made=sp:=rfl
theorem Jc {e:DElem}(he:wm e=0):∀(h mf:Nat) (N:NL) (i:Int) (m:Nat) (s:Span),h<mf->xr N->N.length<=400->used N+(h+1)<=400->wx (fN N) h i m s->(ids (fN N) h i).Nodup->inS s (wg e)=true->(∀x∈wb (fN N) h i,wg x≠wg e) ->
 Gg F e N h mf i s m:=by
 intro h
 induction h with
 |zero=>exact λmf N i m s hm hc hl _ c _ hs hne=>Jd he hm hc hl c hs hne
 |succ h ih =>
  intro mf N i m s hm hc hl hu c hn hs hne;obtain⟨mf,rfl⟩:∃q,mf=q+1:=⟨mf-1,by omega⟩;have L:=c.inner hc;have hr:=c.range;rw[wn] at hr;have hus:=c.used;obtain⟨hnode,hat⟩:=c.node;have hk0:=c.kind;obtain⟨_,hk2,hmk,hch⟩:=c;obtain⟨A,k,B,XA,XB,TA,t,TB,s',f⟩:=Gz L.seps L.tids L.ord hch hs;have hids:ids (fN N) (h+1) i=i.toNat::(A.flatMap (ids (fN N) h)++(ids (fN N) h k++B.flatMap (ids (fN N) h))):=by rw[ids,f.kids,d_,a_]
  have hels:wb (fN N) (h+1) i=A.flatMap (wb (fN N) h)++(wb (fN N) h k++B.flatMap (wb (fN N) h)):=by rw[wb,f.kids,d_,a_]
  generalize hnn:nd (fN N) i=n at *
  have hn0:=hn;rw[ids,hnn,f.kids] at hn;obtain⟨d1,d2,d3⟩:=Av hn;have hN1:∀j∈ids (fN N) h k,(iL N i)[j]? = N[j]?:=λj hj=>wF N (λe=>d1 (e▸hj));obtain⟨q1,q2,q3,q4⟩:=wx.agree (N':=iL N i) (by rw[wh];exact v_ _) f.here.1 hN1;obtain⟨N2,sp,r,b,hrun,hpost⟩:=ih mf (iL N i) k 4 s' o_ (hc.out i) (by rw[wh];exact hl) (by rw[B9];omega) q1 (by rw[q2];exact d2) f.in_ (λx hx=>hne x (by rw[hels,<-q3];simp[hx]));have hw:yE n.seps (wg e)=A.length:=f.way;have hkl:n.kids.length=A.length+B.length+1:=by rw[f.kids];simp;omega
  have h8:=L.eight;have hta:=f.ta;have hxa:=f.xa
  obtain⟨R,X,P,hXp,hXc,hRl,hXo,hM⟩:∃R X,InsPost e (iL N i) N2 h k s' 4 R X/\(∀x∈X,wm (zE x)=0)/\X.length+1=R.length/\R.length<=2/\(XA++(X++XB)).Pairwise SpotO /\
   EI F e (qD (Bk F e) mf) N i n=some ([],A++(R++B),XA++(X++XB),TA++(R.map (λk=>wo (nd (fN N2) k))++TB),N2):=by
   have hord:=L.ord;rw[f.seps] at hord;have hcall:∀(K:InsT->Option ((List DElem)×(List Int)×(List DSpot)×(List Int)×(List (Int⊕DNode)))),True:=λ_=>trivial;rcases hpost with ⟨rfl,P⟩|⟨rfl,hsp,P⟩
   . refine⟨[k],[],P,by simp,rfl,by simp,by simpa using hord,?_⟩;obtain⟨k',t',e1,e2,x⟩:=P.ch;obtain rfl:k=k':=(by simpa using e1);unfold EI;rw[hk2,show ((2:Int)==1)=false from rfl,cond_false,wr,obs,yA n _ (xp (wN hk2 L)),obs,hw,f.kids,xO,obs,hrun,obs];dsimp only;rw[obs,x.1.node.1,obs,xc P.fr.chk x.1.range,obs,f.tids,<-hta,xO,obs,cond_false,l_,zo,L.elems,f.seps];simp
   . obtain⟨k',ks',t',ts',e1,e2,i1,x,k2,t2,e3,e4,y⟩:=P.ch;obtain⟨rfl,rfl⟩:k=k'/\[r]=ks':=(by simpa using e1);obtain rfl:r=k2:=(by simpa using e3);refine⟨[k,r],[sp],P,by simpa using hsp,rfl,by simp,?_,?_⟩
     . obtain⟨p1,p2,p3⟩:=F_.1 hord;obtain⟨y0,hy0⟩:=x.1.some_elem P.fr.chk;have hy1:=(xG.1 ((x.1.elems P.fr.chk).2 y0 hy0).1);have hy2:=xQ i1 ((x.1.elems P.fr.chk).2 y0 hy0).1;have hlo:∀z∈XA,SpotO z sp:=λz hz=>Bd (f.loX z hz _ hy2) hy1.2;have hhi:∀z∈XB,SpotO sp z:=λz hz=>f.hiX z hz sp i1;refine F_.2 ⟨p1,z_.2 ⟨hhi,p2⟩,λa ha b hb=>?_⟩;rcases g_.1 hb with rfl|hb
       . exact hlo a ha
       . exact p3 a ha b hb
     . have hXl:n.seps.length=A.length+B.length:=(by have:=L.seps;omega);have htl:(TA++wo (nd (fN N2) k)::TB).length=A.length+B.length+1:=(by have:=f.tb;simp;omega);unfold EI;rw[hk2,show ((2:Int)==1)=false from rfl,cond_false,wr,obs,yA n _ (xp (wN hk2 L)),obs,hw,f.kids,xO,obs,hrun,obs];dsimp only;rw[obs,x.1.node.1,obs,xc P.fr.chk x.1.range,obs,f.tids,show idx (TA++t::TB) (A.length:Int)=some t by rw[<-hta];exact xO _ _ _,obs,cond_true,w64 o_ o_,l_,show (TA++t::TB).set A.length (wo (nd (fN N2) k))=TA++wo (nd (fN N2) k)::TB by rw[<-hta];exact zo _ _ _ _,EX];have hi1:tz 8 (A++k::B) ((A.length:Int)+1) r=some (A++(k::r::B)):=(by unfold tz;rw[if_pos ⟨by omega,by simp;omega,by simp;omega,by unfold maxLen;simp;omega⟩,show ((A.length:Int)+1).toNat=A.length+1 by omega];unfold jo;rw[show A++k::B=(A++[k])++B by simp,o8 s_,p6 s_];simp);have hi2:tz 32 n.seps (A.length:Int) sp=some (XA++sp::XB):=by unfold tz;rw[if_pos ⟨by omega,by omega,by omega,by unfold maxLen;omega⟩,l_];unfold jo;rw[f.seps,o8 hxa,p6 hxa]
       have hi3:tz 8 (TA++wo (nd (fN N2) k)::TB) ((A.length:Int)+1) (wo (nd (fN N2) r))=some (TA++(wo (nd (fN N2) k)::wo (nd (fN N2) r)::TB)):=(by unfold tz;rw[if_pos ⟨by omega,by omega,by omega,by unfold maxLen;omega⟩,show ((A.length:Int)+1).toNat=A.length+1 by omega];unfold jo;rw[show TA++wo (nd (fN N2) k)::TB=(TA++[wo (nd (fN N2) k)])++TB by simp,o8 (by simp;omega),p6 (by simp;omega)];simp);obtain⟨_,_,_,_,j1⟩:=nL hi1;obtain⟨_,_,_,_,j2⟩:=nL hi2;obtain⟨_,_,_,_,j3⟩:=nL hi3;rw[l_] at j2;rw[hi1,obs,hi2,obs,y.1.node.1,obs,xc P.fr.chk y.1.range,obs,hi3,obs,j1,j2,j3,L.elems];simp
  have hl2:N2.length<=400:=by have h1:=P.fr.cap;have h2:=P.fr.use;rw[wh] at h1;rw[B9] at h2;omega
  have hr2:0<=i/\i<(N2.length:Int):=by have:=P.fr.len;rw[wh] at this;omega
  have hab:∀a,a∈A\/a∈B->∀j∈ids (fN N) h a,N2[j]? = N[j]?:=λa ha j hj=>by
   obtain⟨x1,x2⟩:=d3 a ha
   obtain⟨y,hy,hyk⟩:=hus j (by
    rw[hids];rcases ha with ha|ha
    . simp only[g_,j_,E_];exact .inr (.inl ⟨a,ha,hj⟩)
    . simp only[g_,j_,E_];exact .inr (.inr (.inr ⟨a,ha,hj⟩)))
   have hji:j≠i.toNat:=λe=>x1 (e▸hj);rw[P.fr.out j (.inr y) (by rw[q2];exact x2 j hj) (by rw[wF N hji];exact hy) hyk,hy]
  have hlen2:N.length<=N2.length:=by have:=P.fr.len;rwa[wh] at this
  have other:∀a,a∈A\/a∈B->∀ {m:Nat} {s:Span},wx (fN N) h a m s->_:=λa ha m s c=>wx.agree (N:=N) (N':=N2) hlen2 c (hab a ha);have c2:=f.turn (BD (fN N2) h) (λa t' s'' ha x=>⟨(other a ha x.1).1,by rw[(other a ha x.1).2.2.2];exact x.2⟩) R X _ P.ch
  have hkids:∀a,a∈A\/a∈B->∃t' s'',wx (fN N) h a 4 s'':=λa ha=>by
   rcases ha with ha|ha
   . obtain⟨t',s'',x1,_⟩:=f.lo a ha;exact⟨t',s'',x1.1⟩
   . obtain⟨t',s'',x1,_⟩:=f.hi a ha;exact⟨t',s'',x1.1⟩
  have flat:∀(l:List Int),(∀a∈l,a∈A\/a∈B)->l.flatMap (ids (fN N2) h)=l.flatMap (ids (fN N) h)/\l.flatMap (wb (fN N2) h)=l.flatMap (wb (fN N) h):=λl hl=>by
   constructor
   . exact ym λa ha=>by obtain⟨t',s'',x1⟩:=hkids a (hl a ha);exact(other a (hl a ha) x1).2.1
   . exact wI λa ha=>by obtain⟨t',s'',x1⟩:=hkids a (hl a ha);exact(other a (hl a ha) x1).2.2.1
  have fr:=P.fr.up (i:=i.toNat) (I1:=A.flatMap (ids (fN N) h)) (I3:=B.flatMap (ids (fN N) h)) rfl (by rw[q2,<-hids];exact hn0) (λj hj=>hus j (by rw[hids,<-q2];exact hj));rw[q2,<-hids] at fr;have hK:(A++(R++B)).flatMap (ids (fN N2) h)=A.flatMap (ids (fN N) h)++(R.flatMap (ids (fN N2) h)++B.flatMap (ids (fN N) h)):=by rw[d_,d_,(flat A λa ha=>.inl ha).1,(flat B λa ha=>.inr ha).1]
  refine J2 hnode hk2 hM hr2 hl2 (fr.cong rfl (by rw[hK])) (fr.kept _ _ hat hk0) c2 ?_ ?_ ?_ hXo ?_ ?_
  . have:=L.two;simp;omega
  . simp;omega
  . simp;omega
  . intro x hx;rcases j_.1 hx with hx|hx
    . exact L.ok x (by rw[f.seps];exact Q_ _ hx)
    . rcases j_.1 hx with hx|hx
      . exact hXp x hx
      . exact L.ok x (by rw[f.seps];exact X_ _ hx)
  . intro x;have hp:=P.elems x;rw[q3] at hp;rw[d_,d_,(flat A λa ha=>.inl ha).2,(flat B λa ha=>.inr ha).2,hels,j_,j_,hp,j_,j_];constructor
    . rintro(h|(h|h)|h)
      . exact .inr (.inl h)
      . exact .inl h
      . exact .inr (.inr (.inl h))
      . exact .inr (.inr (.inr h))
    . rintro(h|h|h|h)
      . exact .inr (.inl (.inl h))
      . exact .inl h
      . exact .inr (.inl (.inr h))
      . exact .inr (.inr h)
end
section
variable {F:Nat} [Big F] {α:Type}
theorem GJ {f:Int->Option (Int⊕(Unit⊕Int))}(l:List α)(p:α->Bool)(hn:l.length<=9223372036854775807)
 (hs:∀(k:Nat) (x:α),l[k]? = some x->f (k:Int)=some (if p x then .inr (.inr (k:Int)) else .inl ((k:Int)+1)))
 (he:f (l.length:Int)=some (.inr (.inl ()))):iter f F 0=some (match l.findIdx? p with|some i=>.inr (i:Int)|none=>.inl ()):=by
 cases h:l.findIdx? p with
 |none=>rw[M5] at h;refine qi (λk=>(k:Int)) l.length (show (0:Int)=_ from rfl) hn (λk hk=>?_) he;rw[hs k _ (gge hk),h _ (List.getElem_mem hk)];rfl
 |some i =>
  rw[M6] at h;obtain⟨hi,h1,h2⟩:=h;refine qi (λk=>(k:Int)) i (show (0:Int)=_ from rfl) o_ (λk hk=>?_) ?_
  . rw[hs k _ (gge o_),if_neg (h2 k hk)];rfl
  . show f (i:Int)=_;rw[hs i _ (gge hi),if_pos h1]
def dst (q:α->Bool)(l:List α)(i0:Nat):Nat->List α×Nat
 |0=>(l,i0)
 |k+1=>match l[i0+1+k]? with
  |some x=>if q x then ((dst q l i0 k).1.set (dst q l i0 k).2 x,(dst q l i0 k).2+1) else dst q l i0 k
  |none=>dst q l i0 k
theorem Hh (q:α->Bool)(l:List α)(i0:Nat)(h0:(l.take (i0+1)).filter q=l.take i0)(hi:i0<l.length):∀k,i0+1+k<=l.length ->
 (dst q l i0 k).1.length=l.length/\(dst q l i0 k).2<i0+1+k/\(dst q l i0 k).1.take (dst q l i0 k).2=(l.take (i0+1+k)).filter q/\(dst q l i0 k).1.drop (i0+1+k)=l.drop (i0+1+k)
 |0,_=>⟨rfl,by show i0<_;omega,by show l.take i0=_;exact h0.symm,rfl⟩
 |k+1,hk=>by
  obtain⟨h1,h2,h3,h4⟩:=Hh q l i0 h0 hi k o_;have hlt:i0+1+k<l.length:=o_;have hx:=gge hlt;have ht:l.take (i0+1+(k+1))=l.take (i0+1+k)++[l[i0+1+k]]:=by rw[show i0+1+(k+1)=(i0+1+k)+1 by omega,Y_,hx];rfl
  have h5:(dst q l i0 k).1.drop (i0+1+(k+1))=l.drop (i0+1+(k+1)):=by rw[show i0+1+(k+1)=(i0+1+k)+1 by omega,<-E5,h4,E5]
  rw[dst,hx];dsimp only;rw[ht,B3];by_cases hq:q l[i0+1+k]=true
  . rw[if_pos hq];dsimp only;refine⟨by rw[p8,h1],by omega,?_,?_⟩
    . rw[Y_,List.take_set_of_le (v_ _),h3,List.getElem?_set,if_pos rfl,if_pos o_];simp[hq]
    . rw[List.drop_set_of_lt o_,h5]
  . rw[if_neg hq];refine⟨h1,by omega,?_,h5⟩;rw[h3];simp[hq]
theorem H5 {f:List α×Int×Int->Option ((List α×Int×Int)⊕(List α×Int))}(l:List α)(q:α->Bool)(i0:Nat)(hi:i0<l.length)(hn:l.length<=9223372036854775806)(h0:(l.take (i0+1)).filter q=l.take i0)
 (hs:∀(A:List α) (i j:Nat) (x:α),A.length=l.length->i<j->A[j]? = some x->f (A,(i:Int),(j:Int))=some (.inl (if q x then A.set i x else A,if q x then (i:Int)+1 else (i:Int),(j:Int)+1)))
 (he:∀(A:List α) (i:Nat),A.length=l.length->f (A,(i:Int),(l.length:Int))=some (.inr (A,(i:Int)))) :
 ∃(A:List α) (i:Nat),iter f F (l,(i0:Int),(i0:Int)+1)=some (A,(i:Int))/\A.length=l.length/\i<=l.length/\A.take i=l.filter q:=by
 have inv:=Hh q l i0 h0 hi;obtain⟨e1,e2,e3,e4⟩:=inv (l.length-(i0+1)) o_;refine⟨_,_,qi (λk=>((dst q l i0 k).1,((dst q l i0 k).2:Int),((i0+1+k:Nat):Int))) (l.length-(i0+1)) (r:=((dst q l i0 (l.length-(i0+1))).1,((dst q l i0 (l.length-(i0+1))).2:Int))) rfl o_ (λk hk=>?_) ?_,e1,by omega,?_⟩
 . obtain⟨h1,h2,h3,h4⟩:=inv k o_;have hlt:i0+1+k<l.length:=o_;have hx:(dst q l i0 k).1[i0+1+k]? = some l[i0+1+k]:=by have:=congrArg (λm=>m[0]?) h4;simp only[m9,w7] at this;rw[this,gge hlt]
   rw[hs _ _ _ _ h1 h2 hx]
   have hd:dst q l i0 (k+1)=if q l[i0+1+k] then ((dst q l i0 k).1.set (dst q l i0 k).2 l[i0+1+k],(dst q l i0 k).2+1) else dst q l i0 k:=by
    conv=>lhs;rw[dst,gge hlt]
   rw[hd];by_cases hq:q l[i0+1+k]=true
   . simp only[hq,if_true];rfl
   . simp only[hq,if_false];rfl
 . rw[show i0+1+(l.length-(i0+1))=l.length by omega];exact he _ _ e1
 . rw[e3,show i0+1+(l.length-(i0+1))=l.length by omega,w6]
theorem ED {l:List α}{q:α->Bool}{i:Nat}(h:l.findIdx? (λx=>!q x)=some i):i<l.length/\(l.take (i+1)).filter q=l.take i:=by
 rw[M6] at h;obtain⟨hi,h1,h2⟩:=h;refine⟨hi,?_⟩;rw[Y_,gge hi,B3];have hq:q l[i]=false:=by simpa using h1
 have:(l.take i).filter q=l.take i:=by rw[E6];intro x hx;obtain⟨j,hj,rfl⟩:=List.getElem_of_mem hx;rw[p_] at hj;rw[List.getElem_take];simpa using h2 j o_
 rw[this];simp[hq]
theorem Iu (A m:List α)(i:Nat)(h:i<=A.length):(over A i m).take i=A.take i:=by unfold over;rw[x_,List.take_append_of_le_length (by rw[p_];omega),List.take_take,Nat.min_self]
end
section
abbrev RemT:=(List Int)×(List DSpot)×(List Int)×(List (Int⊕DNode))
def JS (F:Nat)(l:List DElem)(p1:DSpot):Option (List DElem):=(((iter (σ:=Int) (ρ:=(Unit)⊕Int) (λx3=>bif decide (x3<(l.length:Int)) then (idx l x3).bind λe1=>((i8 e1).bind λr8=>some (r8==p1):Option (Bool)).bind λz6=>bif z6 then some (.inr (.inr x3)) else some (.inl (IntKind.i64.wrap (x3+1))) else some (.inr (.inl ()))) F 0).bind λz=>match z with
    |.inl _=>some (-1)
    |.inr q=>some q:Option (Int)).bind λz5=>bif (z5==(-1)) then some l else (iter (σ:=(List DElem)×Int×Int) (ρ:=(List DElem)×Int) (λx=>match x with
     |(x4,x5,x6)=>bif decide (x6<(x4.length:Int)) then ((idx x4 x6).bind λe2=>((i8 e2).bind λr9=>some (r9==p1):Option (Bool)).bind λz11=>bif (!z11) then (idx x4 x5).bind λe3=>some ((x4.set x5.toNat e2),IntKind.i64.wrap (x5+1)) else some (x4,x5):Option ((List DElem)×Int)).bind λz=>match z with
        |(z9,z10)=>some (.inl (z9,z10,IntKind.i64.wrap (x6+1))) else some (.inr (x4,x5))) F (l,z5,IntKind.i64.wrap (z5+1))).bind λz=>match z with
     |(z7,z8)=>(iT z7 z8 (z7.length:Int)).bind λs2=>(iT (over z7 z8.toNat (t7 s2.length ((DElem.mk (DKey.mk 0 0 0) 0 0 (ByteArray.mk #[])):DElem))) 0 z8).bind λs3=>some s3:Option ((List DElem)))
def FJ (n5 n6:DNode)(e10:DSpot):Option (List DSpot):=((grow 56 n5.elems n6.elems).bind λ_=>(bif (n5.kind==2) then (grow 32 n5.seps [e10]).bind λy4=>(grow 32 (n5.seps++[e10]) n6.seps).bind λy5=>some ((n5.seps++[e10])++n6.seps) else some n5.seps:Option ((List DSpot))).bind λz23=>(grow 8 n5.kids n6.kids).bind λ_=>(grow 8 n5.tids n6.tids).bind λ_=>some z23:Option ((List DSpot)))
def Jm (F:Nat)(n1:DNode)(r10 r11:Int)(z12:NL)(z21 e8 e9:Int)(n5 n6:DNode)(z22:List DSpot):Option RemT:=bif decide ((8:Int)<(IntKind.i64.wrap (((n5.elems++n6.elems).length:Int)+((n5.kids++n6.kids).length:Int)))) then (Ae n5.kind (n5.elems++n6.elems) (n5.kids++n6.kids) z22 (n5.tids++n6.tids)).bind λz=>match z with
   |(z28,z29,z30,z31,z32,z33,z34,z35,z36,z37,z38,z39,z40)=>(kJ (iL z12 e8) e8).bind λu2=>(kJ (jb (iL z12 e8) e8 (DNode.mk n5.kind z32 z33 z34 z35)) e9).bind λu3=>(idx n1.seps z21).bind λe15=>(iZ F (DNode.mk z40 z31 z30 z29 z28)).bind λr25=>(idx (n1.tids.set r10.toNat r11) (IntKind.i64.wrap (z21+1))).bind λe16=>some (n1.kids,(n1.seps.set z21.toNat (DSpot.mk (DKey.mk z36 z37 z38) z39)),((n1.tids.set r10.toNat r11).set ((IntKind.i64.wrap (z21+1)).toNat) r25),(jb (jb (iL z12 e8) e8 (DNode.mk n5.kind z32 z33 z34 z35)) e9 (DNode.mk z40 z31 z30 z29 z28))) else (kJ (iL z12 e8) e8).bind λu4=>(kJ (jb (iL z12 e8) e8 (DNode.mk n5.kind (n5.elems++n6.elems) (n5.kids++n6.kids) z22 (n5.tids++n6.tids))) e9).bind λu5=>(t8 n1.kids (IntKind.i64.wrap (z21+1)) (IntKind.i64.wrap (z21+2))).bind λ_=>(t8 n1.seps z21 (IntKind.i64.wrap (z21+1))).bind λ_=>(t8 (n1.tids.set r10.toNat r11) (IntKind.i64.wrap (z21+1)) (IntKind.i64.wrap (z21+2))).bind λ_=>some ((jR n1.kids (IntKind.i64.wrap (z21+1)).toNat (IntKind.i64.wrap (z21+2)).toNat),(jR n1.seps z21.toNat (IntKind.i64.wrap (z21+1)).toNat),(jR (n1.tids.set r10.toNat r11) (IntKind.i64.wrap (z21+1)).toNat (IntKind.i64.wrap (z21+2)).toNat),(jb (jb (iL z12 e8) e8 (DNode.mk n5.kind (n5.elems++n6.elems) (n5.kids++n6.kids) z22 (n5.tids++n6.tids))) e9 (DNode.mk 0 [] [] [] [])))
def Df (F:Nat)(n1:DNode)(r10 r11:Int)(z12:NL):Option RemT:=((bif (r10==(IntKind.i64.wrap ((n1.kids.length:Int)-1))) then some (IntKind.i64.wrap (r10-1)) else some r10:Option (Int)).bind λz21=>(idx n1.kids z21).bind λe8=>(idx n1.kids (IntKind.i64.wrap (z21+1))).bind λe9=>(j9 z12 e8).bind λn5=>(j9 (iL z12 e8) e9).bind λn6=>(idx n1.seps z21).bind λe10=>(FJ n5 n6 e10).bind λz22=>(Jm F n1 r10 r11 z12 z21 e8 e9 n5 n6 z22).bind λz=>match z with
    |(z24,z25,z26,z27)=>(j9 z27 e8).bind λn13=>(iZ F n13).bind λr30=>(idx z26 z21).bind λe19=>some (z24,z25,(z26.set z21.toNat r30),z27):Option RemT)
def Ke (F:Nat)(n1 n4:DNode)(r10 r11:Int)(z12:NL):Option RemT:=bif decide ((IntKind.i64.wrap ((n4.elems.length:Int)+(n4.kids.length:Int)))<4) then (Df F n1 r10 r11 z12).bind λz=>match z with
   |(z17,z18,z19,z20)=>some (z17,z18,z19,z20) else some (n1.kids,n1.seps,(n1.tids.set r10.toNat r11),z12)
def CM (F:Nat)(p1:DSpot)(rf1:NL×Int->Option NL)(x:NL×Int):Option NL:=match x with
  |(x1,x2)=>(j9 x1 x2).bind λn1=>bif (n1.kind==1) then (JS F n1.elems p1).bind λz4=>(kJ (iL x1 x2) x2).bind λu1=>some (jb (iL x1 x2) x2 (DNode.mk n1.kind z4 n1.kids n1.seps n1.tids)) else (mF F n1 p1).bind λr10=>(idx n1.kids r10).bind λe5=>(rf1 ((iL x1 x2),e5)).bind λz12=>(idx n1.kids r10).bind λe6=>(j9 z12 e6).bind λn4=>(iZ F n4).bind λr11=>(idx n1.tids r10).bind λe7=>(Ke F n1 n4 r10 r11 z12).bind λz=>match z with
      |(z13,z14,z15,z16)=>(kJ z16 x2).bind λu6=>some (jb z16 x2 (DNode.mk n1.kind n1.elems z13 z14 z15))
def Id (F:Nat)(p1:DSpot)(N:NL)(root:Int):Option (NL×Int):=(qD (σ:=(List (Int⊕DNode))×Int) (ρ:=(List (Int⊕DNode))) (CM F p1) F (N,root)).bind λq2=>((j9 q2 root).bind λn15=>bif ((n15.kids.length:Int)==1) then (kJ (iL q2 root) root).bind λu7=>(idx n15.kids 0).bind λe22=>some (e22,(jb (iL q2 root) root (DNode.mk 0 [] [] [] []))) else some (root,(jb (iL q2 root) root n15)):Option (Int×(List (Int⊕DNode)))).bind λz=>match z with
   |(z41,z42)=>some (z42,z41)
variable {F:Nat} [Big F]
def yG (sp:DSpot)(e:DElem):Bool:=!(wg e==sp)
theorem JT (l:List DElem)(sp:DSpot)(hl:l.length<=1000):JS F l sp=some (l.filter (yG sp)):=by
 unfold JS;rw[GJ l (λx=>wg x==sp) o_ (λn x hx=>?_) s_]
 . rw[obs];have hq:(λx:DElem=>wg x==sp)=λx=>!(yG sp x):=by funext x;simp[yG]
   cases hf:l.findIdx? (λx=>wg x==sp) with
   |none=>dsimp only;rw[obs,show ((-1:Int)==-1)=true from rfl,cond_true,E6.2 λx hx=>?_];rw[M5] at hf;simpa[yG] using hf x hx
   |some n =>
    dsimp only;rw[obs,show ((n:Int)==-1)=false by rw[beq_eq_false_iff_ne];omega,cond_false];rw[hq] at hf;obtain⟨hn,h0⟩:=ED hf;rw[w64 (n:=(n:Int)+1) o_ o_]
    obtain⟨A,m,e1,e2,e3,e4⟩:=H5 (F:=F) (f:=λx=>match x with
     |(x4,x5,x6) =>
      bif decide (x6<(x4.length:Int)) then
       (
        (idx x4 x6).bind λe2 =>
         (
          (i8 e2).bind λr9 =>
           some (r9==sp):Option (Bool)).bind λz11 =>
         bif (!z11) then
          (idx x4 x5).bind λe3 =>
          some ((x4.set x5.toNat e2),IntKind.i64.wrap (x5+1))
         else
          some (x4,x5):Option ((List DElem)×Int)).bind λz=>match z with
        |(z9,z10) =>
         some (.inl (z9,z10,IntKind.i64.wrap (x6+1)))
       else
        some (.inr (x4,x5))) l (yG sp) n hn o_ h0 (λA i j x hA hij hx=>by
     have hjl:=(ggs.1 hx).1;dsimp only;rw[decide_eq_true o_,cond_true,vD,vD,hx,obs,wr,obs,obs,gge (show i<A.length by omega),obs,w64 o_ o_,w64 o_ o_,l_];unfold yG
     cases wg x==sp <;> rfl) (λA i hA=>by
     dsimp only
     rw[decide_eq_false o_];rfl)
    refine Eq.trans (congrArg (λz=>E7 z _) e1) ?_;rw[obs];dsimp only;rw[qG o_ o_ o_,obs,l_,vu (by rw[jW _ _ _ (by simp;omega)];omega),obs,Iu _ _ _ o_,e4]
 . have hnl:=(ggs.1 hx).1;rw[decide_eq_true o_,cond_true,vD,hx,obs,wr,obs,obs,w64 o_ o_];cases wg x==sp <;> rfl
theorem FF {l:List DElem}(hl:5<=l.length)(hl':l.length<=100)(ks:List Int)(xs:List DSpot)(ts:List Int):∃x,l[4]? = some x/\Ae 1 l ks xs ts=some ([],[],[],l.drop 4,l.take 4,ks,xs,ts,(wg x).key.pfs,(wg x).key.obj,(wg x).key.off,(wg x).made,1):=by
 have hg:l[4]? = some l[4]:=gge o_;refine⟨_,hg,?_⟩;unfold Ae;have h1:iT l 4 (l.length:Int)=some (l.drop 4):=uT (k:=4) o_;have h2:iT l 0 4=some (l.take 4):=vu (k:=4) o_;have h3:idx (l.drop 4) 0=some l[4]:=by rw[show (0:Int)=((0:Nat):Int) from rfl,vD,m9];exact hg
 rw[show ((1:Int)==1)=true from rfl,cond_true,h1,obs,vM (by simp;omega) (by simp;omega),obs,h2,obs,h3,obs,wr,obs]
theorem EG {ks:List Int}{xs:List DSpot}{ts:List Int}(hk:5<=ks.length)(hk':ks.length<=100)(hx:xs.length+1=ks.length)(ht:ts.length=ks.length)(l:List DElem):∃x,xs[3]? = some x/\Ae 2 l ks xs ts=some (ts.drop 4,xs.drop 4,ks.drop 4,[],l,ks.take 4,xs.take 3,ts.take 4,x.key.pfs,x.key.obj,x.key.off,x.made,2):=by
 have hg:xs[3]? = some xs[3]:=gge o_;refine⟨_,hg,?_⟩;unfold Ae;have h1:iT ks 4 (ks.length:Int)=some (ks.drop 4):=uT (k:=4) o_;have h2:iT xs 4 (xs.length:Int)=some (xs.drop 4):=uT (k:=4) o_;have h3:iT ts 4 (ts.length:Int)=some (ts.drop 4):=uT (k:=4) o_;have h4:iT ks 0 4=some (ks.take 4):=vu (k:=4) o_;have h5:iT xs 0 3=some (xs.take 3):=vu (k:=3) o_;have h6:iT ts 0 4=some (ts.take 4):=vu (k:=4) o_;have h7:idx xs 3=some xs[3]:=by rw[show (3:Int)=((3:Nat):Int) from rfl,vD];exact hg
 rw[show ((2:Int)==1)=false from rfl,cond_false,h1,obs,h2,obs,h3,obs,vM (by simp;omega) (by simp;omega),obs,vM (by simp;omega) (by simp;omega),obs,vM (by simp;omega) (by simp;omega),obs,h7,obs,h4,obs,h5,obs,h6,obs]
def put2 (N:NL)(k1 k2:Int)(a b:DNode):NL:=jb (jb (iL N k1) k1 a) k2 b
omit [Big F] in
theorem wZ (N:NL)(k1 k2:Int)(a b:DNode):(put2 N k1 k2 a b).length=N.length:=by unfold put2;rw[wj,wj,wh]
theorem AA (N:NL){k1 k2:Int}(a b:DNode){j:Nat}(h1:j≠k1.toNat)(h2:j≠k2.toNat):(put2 N k1 k2 a b)[j]? = N[j]?:=by unfold put2;rw[ww _ h2,ww _ h1,wF _ h1]
theorem B6 {N:NL}{k1 k2:Int}(a b:DNode)(hne:k1.toNat≠k2.toNat)(h:k1.toNat<N.length):(put2 N k1 k2 a b)[k1.toNat]? = some (.inr a):=by unfold put2;rw[ww _ hne,wL _ (by rw[wh];exact h)]
theorem AB {N:NL}{k1 k2:Int}(a b:DNode)(h:k2.toNat<N.length):(put2 N k1 k2 a b)[k2.toNat]? = some (.inr b):=by unfold put2;rw[wL _ (by rw[wj,wh];exact h)]
theorem xr.put2 {N:NL}(h:xr N){k1 k2:Int}{a b:DNode}(ha:wy a=0)(hb:wy b=0):xr (put2 N k1 k2 a b):=((h.out k1).put ha).put hb
theorem Ha:wy zN=0:=by decide
theorem GO {N:NL}{k1 k2:Int}(hne:k2.toNat≠k1.toNat):j9 (iL N k1) k2=j9 N k2:=by unfold j9;rw[wF N hne]
structure PairPost (N2 N3:NL) (h:Nat) (k1 k2:Int) (s:Span) (K:List Int) (X:List DSpot):Prop where
 len:N3.length=N2.length
 out:∀j:Nat,j≠k1.toNat->j≠k2.toNat->N3[j]? = N2[j]?
 chk:xr N3
 ch:Ch (BD (fN N3) h) X s K (K.map λk=>wo (nd (fN N3) k))
 ok:∀x∈X,wm (zE x)=0
 perm:∃Z,(ids (fN N2) h k1++ids (fN N2) h k2).Perm (Z++K.flatMap (ids (fN N3) h))/\∀j∈Z,N3[j]? = some (.inr zN)
 elems:K.flatMap (wb (fN N3) h)=wb (fN N2) h k1++wb (fN N2) h k2
def Eu (N2:NL)(h:Nat)(k1 k2:Int)(s:Span)(n5 n6:DNode)(x:DSpot):Prop:=∃z22,FJ n5 n6 x=some z22/\((((n5.elems++n6.elems).length:Int)+((n5.kids++n6.kids).length:Int)<=8/\PairPost N2 (put2 N2 k1 k2 ⟨n5.kind,n5.elems++n6.elems,n5.kids++n6.kids,z22,n5.tids++n6.tids⟩ zN) h k1 k2 s [k1] [])\/(8<((n5.elems++n6.elems).length:Int)+((n5.kids++n6.kids).length:Int)/\∃(y:DSpot) (r1:List Int) (r2:List DSpot) (r3:List Int) (r4 l1:List DElem) (l2:List Int) (l3:List DSpot) (l4:List Int) (kd:Int),Ae n5.kind (n5.elems++n6.elems) (n5.kids++n6.kids) z22 (n5.tids++n6.tids)=some (r1,r2,r3,r4,l1,l2,l3,l4,y.key.pfs,y.key.obj,y.key.off,y.made,kd)/\PairPost N2 (put2 N2 k1 k2 ⟨n5.kind,l1,l2,l3,l4⟩ ⟨kd,r4,r3,r2,r1⟩) h k1 k2 s [k1,k2] [y]))
omit [Big F] in
theorem FK {n5 n6:DNode}(x:DSpot)(h5:wy n5=0)(h6:wy n6=0):FJ n5 n6 x=some (bif n5.kind==2 then n5.seps++x::n6.seps else n5.seps):=by
 obtain⟨a1,a2⟩:=yq h5;obtain⟨b1,b2⟩:=yq h6
 have sm:∀ {n:DNode},wy n=0->n.seps.length<=8/\n.tids.length<=8:=λ{n} h=>by
  have:=yq h;rcases wE.1 h with h|h|h
  . rw[h.2.2.2.1,h.2.2.2.2];simp
  . rw[h.2.seps,h.2.tids];simp
  . have:=h.2.seps;have:=h.2.tids;omega
 obtain⟨a3,a4⟩:=sm h5;obtain⟨b3,b4⟩:=sm h6;unfold FJ;rw[vM o_ o_,obs,vM (l:=n5.kids) o_ o_,vM (l:=n5.tids) o_ o_]
 cases n5.kind==2 with
 |true=>rw[cond_true,cond_true,vM (by simp;omega) (by simp;omega),obs,vM (by simp;omega) (by simp;omega),obs,obs,obs,obs,x_];rfl
 |false=>rw[cond_false,cond_false,obs,obs,obs]
omit [Big F] in
theorem Ig {N2:NL}(hc:xr N2){k1 k2:Int}{s:Span}{x:DSpot}(hx:inS s x=true)(hne:k1.toNat≠k2.toNat)(c1:wx (fN N2) 0 k1 3 (hiS s x))(c2:wx (fN N2) 0 k2 3 (loS s x))(hfew:(nd (fN N2) k1).elems.length+(nd (fN N2) k2).elems.length<=12) :
 Eu N2 0 k1 k2 s (nd (fN N2) k1) (nd (fN N2) k2) x:=by
 have L1:=c1.leaf hc;have L2:=c2.leaf hc;have r1:=c1.range;have r2:=c2.range;have g1:=zu hc r1;have g2:=zu hc r2;rw[wn] at r1 r2;have hz:=FK x g1 g2;obtain⟨_,hk1,hm1,hin1⟩:=c1;obtain⟨_,hk2,hm2,hin2⟩:=c2;have e1:wb (fN N2) 0 k1=(nd (fN N2) k1).elems:=rfl;have e2:wb (fN N2) 0 k2=(nd (fN N2) k2).elems:=rfl
 generalize nd (fN N2) k1=n5 at *
 generalize nd (fN N2) k2=n6 at *
 rw[hk1,show ((1:Int)==2)=false from rfl,cond_false,L1.seps] at hz;have h8:=L1.len;have h8':=L2.len;obtain⟨l,hl⟩:∃l,l=n5.elems++n6.elems:=⟨_,rfl⟩;have so:l.Pairwise SpO:=by rw[hl];refine F_.2 ⟨L1.ord,L2.ord,λa ha b hb=>?_⟩;have q1:=(xG.1 (hin1 a ha)).2;have q2:=(yO.1 (hin2 b hb)).1;exact xP q1 q2
 have hin:∀y∈l,inS s (wg y)=true:=λy hy=>by
  rw[hl] at hy;rcases j_.1 hy with hy|hy
  . exact xQ hx (hin1 y hy)
  . exact yo hx (hin2 y hy)
 have hok:∀y∈l,wm y=0:=λy hy=>by
  rw[hl] at hy;rcases j_.1 hy with hy|hy
  . exact L1.ok y hy
  . exact L2.ok y hy
 have hlen:l.length=n5.elems.length+n6.elems.length:=by rw[hl,t_]
 refine⟨_,hz,?_⟩;rw[L1.kids,L2.kids,L1.tids,L2.tids,<-hl,hk1];by_cases ht:l.length<=8
 . refine .inl ⟨by simp;omega,?_⟩;have hck:=yz (n:=⟨1,l,[],[],[]⟩) rfl ⟨rfl,rfl,rfl,ht,hok,so⟩;have hnd:=Af (B6 (N:=N2) (k1:=k1) (k2:=k2) ⟨1,l,[],[],[]⟩ zN hne o_);refine⟨wZ _ _ _ _ _,λj h1 h2=>AA N2 _ _ h1 h2,hc.put2 hck Ha,⟨k1,_,rfl,rfl,⟨?_,by rw[M_,hnd],by rw[M_,hnd];show 4<=l.length;omega,by rw[M_,hnd];exact hin⟩,rfl⟩,by simp,⟨[k2.toNat],?_,λj hj=>?_⟩,?_⟩
   . rw[wn,wZ];exact r1
   . simp only[ids,C_,G0];exact List.Perm.swap _ _ _
   . rw[W_.1 hj,M_];exact AB _ _ o_
   . rw[C_,e1,e2,<-hl];show (nd _ _).elems=_;rw[M_,hnd]
 . have hl8:8<l.length:=o_;refine .inr ⟨by simp;omega,?_⟩;obtain⟨y,hy,hh⟩:=FF (l:=l) o_ o_ ([]++[]) [] ([]++[]);refine⟨wg y,_,_,_,_,_,_,_,_,_,hh,?_⟩;have e48:l=l.take 4++l.drop 4:=(K_ 4 l).symm;have hso:=so;rw[e48] at hso;obtain⟨o1,o2,o3⟩:=F_.1 hso;have hl1:(l.take 4).length=4:=by rw[p_];omega
   have hl2:(l.drop 4).length=l.length-4:=(by rw[G_]);have hxd:∃r,l.drop 4=y::r:=(by have h4:4<l.length:=o_;rw[gge h4] at hy;obtain rfl:=y_.inj hy;exact⟨_,T_ h4⟩);obtain⟨rr,hrr⟩:=hxd;have hyl:y∈l:=R_ (by rw[hrr];exact f_);have hck1:=yz (n:=⟨1,l.take 4,[],[],[]⟩) rfl ⟨rfl,rfl,rfl,by show (l.take 4).length<=8;omega,λy hy=>hok y (g8 hy),o1⟩;have hck2:=yz (n:=⟨1,l.drop 4,[],[],[]⟩) rfl ⟨rfl,rfl,rfl,by show (l.drop 4).length<=8;omega,λy hy=>hok y (R_ hy),o2⟩;have hnd1:=Af (B6 (N:=N2) (k1:=k1) (k2:=k2) ⟨1,l.take 4,[],[],[]⟩ ⟨1,l.drop 4,[],[],[]⟩ hne o_);have hnd2:=Af (AB (N:=N2) (k1:=k1) (k2:=k2) ⟨1,l.take 4,[],[],[]⟩ ⟨1,l.drop 4,[],[],[]⟩ o_);rw[M_];refine⟨wZ _ _ _ _ _,λj h1 h2=>AA N2 _ _ h1 h2,hc.put2 hck1 hck2,⟨k1,[k2],_,_,rfl,rfl,hin y hyl,⟨⟨?_,by rw[hnd1],by rw[hnd1];show 4<=(l.take 4).length;omega,?_⟩,rfl⟩,k2,_,rfl,rfl,⟨?_,by rw[hnd2],by rw[hnd2];show 4<=(l.drop 4).length;omega,?_⟩,rfl⟩,?_,⟨[],?_,by simp⟩,?_⟩
   . rw[wn,wZ];exact r1
   . rw[hnd1];intro z hz;exact xG.2 ⟨(wK.1 (hin z (g8 hz))).1,o3 z hz y (by rw[hrr];exact f_)⟩
   . rw[wn,wZ];exact r2
   . rw[hnd2];intro z hz;refine yO.2 ⟨?_,(wK.1 (hin z (R_ hz))).2⟩;have hz':z∈y::rr:=(by rw[<-hrr];exact hz);rw[hrr] at o2;rcases g_.1 hz' with rfl|hz'
     . rw[wq.refl];decide
     . have:cmpS (wg y) (wg z)<0:=(z_.1 o2).1 z hz';omega
   . intro z hz;rw[W_.1 hz];exact EY (hok y hyl)
   . simp[ids]
   . rw[a_,C_,e1,e2,<-hl];show (nd _ _).elems++(nd _ _).elems=_;rw[hnd1,hnd2];exact e48.symm
omit [Big F] in
theorem F8 {N:NL}(hc:xr N){h:Nat}{X:List DSpot}{s:Span}{Ks Ts:List Int}{x:DSpot}(hx:inS s x=true)(c:Ch (BD (fN N) h) X (loS s x) Ks Ts)(ho:X.Pairwise SpotO):∀y∈X,SpotO x y:=by
 cases X with
 |nil=>intro y hy;cases hy
 |cons z X =>
  obtain⟨k,ks,t,ts,e1,e2,i1,i2,c'⟩:=c;obtain⟨e,he⟩:=i2.1.some_elem hc;have hs:=xG.1 ((i2.1.elems hc).2 e he).1;have hz:cmpS x z<0:=Bd (hs.1 rfl) hs.2;intro y hy;rcases g_.1 hy with rfl|hy
  . exact hz
  . exact wq.lt_trans hz ((z_.1 ho).1 y hy)
omit [Big F] in
theorem GX {N2:NL}(hc:xr N2)(hl:N2.length<=400){h:Nat}{k1 k2:Int}{s:Span}{x:DSpot}(hx:inS s x=true)(hxo:wm (zE x)=0)(c1:wx (fN N2) (h+1) k1 3 (hiS s x))(c2:wx (fN N2) (h+1) k2 3 (loS s x))(hn:(ids (fN N2) (h+1) k1++ids (fN N2) (h+1) k2).Nodup)
 (hfew:((nd (fN N2) k1).kids.length+(nd (fN N2) k2).kids.length)<=12) :
 Eu N2 (h+1) k1 k2 s (nd (fN N2) k1) (nd (fN N2) k2) x:=by
 have L1:=c1.inner hc;have L2:=c2.inner hc;have r1:=c1.range;have r2:=c2.range;have hz:=FK x (zu hc r1) (zu hc r2);rw[wn] at r1 r2;obtain⟨_,hk1,hm1,ch1⟩:=c1;obtain⟨_,hk2,hm2,ch2⟩:=c2;have i1:ids (fN N2) (h+1) k1=k1.toNat::(nd (fN N2) k1).kids.flatMap (ids (fN N2) h):=rfl;have i2:ids (fN N2) (h+1) k2=k2.toNat::(nd (fN N2) k2).kids.flatMap (ids (fN N2) h):=rfl;have e1:wb (fN N2) (h+1) k1=(nd (fN N2) k1).kids.flatMap (wb (fN N2) h):=rfl;have e2:wb (fN N2) (h+1) k2=(nd (fN N2) k2).kids.flatMap (wb (fN N2) h):=rfl
 generalize nd (fN N2) k1=n5 at *
 generalize nd (fN N2) k2=n6 at *
 rw[hk1,show ((2:Int)==2)=true from rfl,cond_true] at hz;have cc:=Ch.join hx ch1 ch2;have hlens:=cc.lens
 have hord:(n5.seps++x::n6.seps).Pairwise SpotO:=by
  have q2:=F8 hc hx ch2 L2.ord;refine F_.2 ⟨L1.ord,z_.2 ⟨q2,L2.ord⟩,λa ha b hb=>?_⟩;have q1:cmpS a x<0:=(xG.1 (ch1.seps a ha)).2;rcases g_.1 hb with rfl|hb
  . exact q1
  . exact wq.lt_trans q1 (q2 b hb)
 have hxs:∀y∈n5.seps++x::n6.seps,wm (zE y)=0:=λy hy=>by
  rcases j_.1 hy with hy|hy
  . exact L1.ok y hy
  . rcases g_.1 hy with rfl|hy
    . exact hxo
    . exact L2.ok y hy
 have hin:∀y∈n5.seps++x::n6.seps,inS s y=true:=cc.seps;have hK:(n5.kids++n6.kids).length=n5.kids.length+n6.kids.length:=t_;have t1:=L1.two;have t2:=L2.two;have hfl:(n5.kids++n6.kids).flatMap (ids (fN N2) h)=n5.kids.flatMap (ids (fN N2) h)++n6.kids.flatMap (ids (fN N2) h):=d_;have hfe:(n5.kids++n6.kids).flatMap (wb (fN N2) h)=n5.kids.flatMap (wb (fN N2) h)++n6.kids.flatMap (wb (fN N2) h):=d_;rw[i1,i2] at hn;have hn':(k1.toNat::k2.toNat::(n5.kids++n6.kids).flatMap (ids (fN N2) h)).Nodup:=by refine(List.Perm.nodup_iff ?_).1 hn;rw[hfl,V_];exact List.Perm.cons _ n9
 obtain⟨n1,n2⟩:=P_.1 hn';obtain⟨n3,n4⟩:=P_.1 n2;have hne:k1.toNat≠k2.toNat:=λe=>n1 (by rw[e];exact f_);refine⟨_,hz,?_⟩;rw[L1.elems,L2.elems,hk1]
 generalize hKs:n5.kids++n6.kids=Ks at *
 generalize hXs:n5.seps++x::n6.seps=Xs at *
 generalize hTs:n5.tids++n6.tids=Ts at *
 have agree:∀(a b:DNode),∀q∈Ks.flatMap (ids (fN N2) h),(put2 N2 k1 k2 a b)[q]? = N2[q]?:=λa b q hq=>AA N2 a b (λe=>n1 (by rw[<-e];exact B_ _ hq)) (λe=>n3 (by rw[<-e];exact hq));have hperm:(k1.toNat::n5.kids.flatMap (ids (fN N2) h)++k2.toNat::n6.kids.flatMap (ids (fN N2) h)).Perm (k2.toNat::k1.toNat::Ks.flatMap (ids (fN N2) h)):=by rw[hfl,V_];exact(List.Perm.cons _ n9).trans (List.Perm.swap _ _ _)
 by_cases ht:Ks.length<=8
 . refine .inl ⟨by simp;omega,?_⟩;have hck:=wN (n:=⟨2,[],Ks,Xs,Ts⟩) rfl (ye hc hl cc o_ ht hord hxs);have hnd:=Af (B6 (N:=N2) (k1:=k1) (k2:=k2) ⟨2,[],Ks,Xs,Ts⟩ zN hne o_);obtain⟨a1,a2,a3⟩:=xw (N':=put2 N2 k1 k2 ⟨2,[],Ks,Xs,Ts⟩ zN) (by rw[wZ];exact v_ _) cc λj hj=>agree _ _ j hj;rw[M_];refine⟨wZ _ _ _ _ _,λj h1 h2=>AA N2 _ _ h1 h2,hc.put2 hck Ha,⟨k1,_,rfl,rfl,⟨?_,by rw[hnd],by rw[hnd];show 4<=Ks.length;omega,by rw[hnd];exact a1⟩,rfl⟩,by simp,⟨[k2.toNat],?_,λj hj=>?_⟩,?_⟩
   . rw[wn,wZ];exact r1
   . rw[C_,i1,i2,ids,hnd];show List.Perm _ (k2.toNat::k1.toNat::Ks.flatMap _);rw[a2];exact hperm
   . rw[W_.1 hj];exact AB _ _ o_
   . rw[C_,e1,e2,wb,hnd,<-hfe];exact a3
 . refine .inr ⟨by simp;omega,?_⟩;obtain⟨y,hy,hh⟩:=EG (ks:=Ks) (xs:=Xs) (ts:=Ts) o_ o_ hlens.1 hlens.2 [];rw[M_];refine⟨y,_,_,_,_,_,_,_,_,_,hh,?_⟩;have h3:3<Xs.length:=o_;have hspx:Xs[3]=y:=by rw[gge h3] at hy;exact y_.inj hy
   have eX:Xs=Xs.take 3++y::Xs.drop 4:=(by rw[<-hspx];exact zV Xs h3);have eK:Ks=Ks.take 4++Ks.drop 4:=(K_ 4 Ks).symm;have eT:Ts=Ts.take 4++Ts.drop 4:=(K_ 4 Ts).symm;have l1:(Ks.take 4).length=4:=(by rw[p_];omega);have l2:(Xs.take 3).length=3:=(by rw[p_];omega);have l3:(Ts.take 4).length=4:=(by rw[p_];omega);have l4:(Ks.drop 4).length=Ks.length-4:=(by rw[G_]);have c':=cc;rw[eX,eK,eT] at c';have ho':=hord;rw[eX] at ho';obtain⟨s1,s2,s3⟩:=Ch.split o_ o_ ho' c';obtain⟨o1,o2,o3⟩:=F_.1 ho';have hck1:=wN (n:=⟨2,[],Ks.take 4,Xs.take 3,Ts.take 4⟩) rfl (ye hc hl s2 o_ o_ o1 λx h=>hxs x (g8 h));have hck2:=wN (n:=⟨2,[],Ks.drop 4,Xs.drop 4,Ts.drop 4⟩) rfl (ye hc hl s3 o_ o_ (z_.1 o2).2 λx h=>hxs x (R_ h));have hnd1:=Af (B6 (N:=N2) (k1:=k1) (k2:=k2) ⟨2,[],Ks.take 4,Xs.take 3,Ts.take 4⟩ ⟨2,[],Ks.drop 4,Xs.drop 4,Ts.drop 4⟩ hne o_);have hnd2:=Af (AB (N:=N2) (k1:=k1) (k2:=k2) ⟨2,[],Ks.take 4,Xs.take 3,Ts.take 4⟩ ⟨2,[],Ks.drop 4,Xs.drop 4,Ts.drop 4⟩ o_);have ag:=agree ⟨2,[],Ks.take 4,Xs.take 3,Ts.take 4⟩ ⟨2,[],Ks.drop 4,Xs.drop 4,Ts.drop 4⟩;have hlen:=wZ N2 k1 k2 ⟨2,[],Ks.take 4,Xs.take 3,Ts.take 4⟩ ⟨2,[],Ks.drop 4,Xs.drop 4,Ts.drop 4⟩;have hckL:xr (put2 N2 k1 k2 ⟨2,[],Ks.take 4,Xs.take 3,Ts.take 4⟩ ⟨2,[],Ks.drop 4,Xs.drop 4,Ts.drop 4⟩):=hc.put2 hck1 hck2
   have hget:∀j:Nat,j≠k1.toNat->j≠k2.toNat->(put2 N2 k1 k2 ⟨2,[],Ks.take 4,Xs.take 3,Ts.take 4⟩ ⟨2,[],Ks.drop 4,Xs.drop 4,Ts.drop 4⟩)[j]? = N2[j]?:=λj h1 h2=>AA N2 _ _ h1 h2
   generalize put2 N2 k1 k2 ⟨2,[],Ks.take 4,Xs.take 3,Ts.take 4⟩ ⟨2,[],Ks.drop 4,Xs.drop 4,Ts.drop 4⟩=N3 at *
   have sub1:∀q∈(Ks.take 4).flatMap (ids (fN N2) h),q∈Ks.flatMap (ids (fN N2) h):=λq hq=>by rw[eK,d_];exact Q_ _ hq
   have sub2:∀q∈(Ks.drop 4).flatMap (ids (fN N2) h),q∈Ks.flatMap (ids (fN N2) h):=λq hq=>by rw[eK,d_];exact X_ _ hq
   obtain⟨a1,a2,a3⟩:=xw o_ s2 λq hq=>ag q (sub1 q hq);obtain⟨b1,b2,b3⟩:=xw o_ s3 λq hq=>ag q (sub2 q hq);refine⟨hlen,hget,hckL,⟨k1,[k2],_,_,rfl,rfl,s1,⟨⟨?_,by rw[hnd1],by rw[hnd1];show 4<=(Ks.take 4).length;omega,by rw[hnd1];exact a1⟩,rfl⟩,k2,_,rfl,rfl,⟨?_,by rw[hnd2],by rw[hnd2];show 4<=(Ks.drop 4).length;omega,by rw[hnd2];exact b1⟩,rfl⟩,?_,⟨[],?_,by simp⟩,?_⟩
   . rw[wn,hlen];exact r1
   . rw[wn,hlen];exact r2
   . intro z hz;rw[W_.1 hz];exact hxs y (by rw[eX];simp)
   . rw[a_,C_,i1,i2,ids,ids,hnd1,hnd2,List.nil_append];show List.Perm _ (k1.toNat::(Ks.take 4).flatMap _++k2.toNat::(Ks.drop 4).flatMap _);rw[a2,b2];refine hperm.trans ((List.Perm.swap _ _ _).trans ?_);rw[V_];refine List.Perm.cons _ ?_
     conv=>lhs;rw[eK,d_]
     exact n9.symm
   . rw[a_,C_,e1,e2,wb,wb,hnd1,hnd2,<-hfe];show (Ks.take 4).flatMap _++(Ks.drop 4).flatMap _=_;rw[a3,b3,<-d_,<-eK]
def HE (ns:List DNode)(h:Nat)(k:Int):Int->Int->Span->Prop:=λa t s=>wx ns h a 3 s/\(a≠k->BD ns h a t s)
structure EvenPost (N2 N3:NL) (h:Nat) (s:Span) (n:DNode) (K:List Int) (X:List DSpot) (T:List Int):Prop where
 len:N3.length=N2.length
 out:∀j:Nat,j∉n.kids.flatMap (ids (fN N2) h)->N3[j]? = N2[j]?
 chk:xr N3
 ch:Ch (BD (fN N3) h) X s K T
 more:n.kids.length<=K.length+1
 few:K.length<=n.kids.length
 ord:X.Pairwise SpotO
 ok:∀x∈X,wm (zE x)=0
 perm:∃Z,(n.kids.flatMap (ids (fN N2) h)).Perm (Z++K.flatMap (ids (fN N3) h))/\∀j∈Z,N3[j]? = some (.inr zN)
 elems:K.flatMap (wb (fN N3) h)=n.kids.flatMap (wb (fN N2) h)
omit [Big F] in
theorem FP {α:Type}(l:List α){z:Nat}(h:z+1<l.length):∃a b,l[z]? = some a/\l[z+1]? = some b/\l=l.take z++a::b::l.drop (z+2):=by refine⟨l[z],l[z+1],gge _,gge _,?_⟩;have:=zV l (w:=z) o_;rw[T_ h] at this;exact this
omit [Big F] in
theorem I0 {N2 N3:NL}{h:Nat}{n:DNode}{s s':Span}{k k1 k2:Int}{A B:List Int}{XA XB:List DSpot}{TA TB K:List Int}{X:List DSpot}{x:DSpot}
 (hkids:n.kids=A++k1::k2::B) (hseps:n.seps=XA++x::XB) (hk:k=k1\/k=k2) (hnd:(n.kids.flatMap (ids (fN N2) h)).Nodup) (ho:n.seps.Pairwise SpotO) (hxok:∀x∈n.seps,wm (zE x)=0)
 (loX:∀x∈XA,∀y,inS s' y=true->cmpS x y<=0) (hiX:∀x∈XB,∀y,inS s' y=true->cmpS y x<0)
 (wc:∀a,a∈A\/a∈B->∃t s'',HE (fN N2) h k a t s'')
 (turn:∀Q:Int->Int->Span->Prop,(∀a t s',a∈A\/a∈B->HE (fN N2) h k a t s'->Q a t s')->∀M' XM' TM',Ch Q XM' s' M' TM'->Ch Q (XA++(XM'++XB)) s (A++(M'++B)) (TA++(TM'++TB)))
 (P:PairPost N2 N3 h k1 k2 s' K X) (hsh:(K=[k1]/\X=[])\/(K=[k1,k2]/\∃y,X=[y])) :
 EvenPost N2 N3 h s n (A++(K++B)) (XA++(X++XB)) (TA++(K.map (λk=>wo (nd (fN N3) k))++TB)):=by
 have hfl:n.kids.flatMap (ids (fN N2) h)=A.flatMap (ids (fN N2) h)++((ids (fN N2) h k1++ids (fN N2) h k2)++B.flatMap (ids (fN N2) h)):=by rw[hkids,d_,a_,a_,x_]
 rw[hfl] at hnd;obtain⟨n1,n2,n3⟩:=H_.1 hnd;obtain⟨n4,n5,n6⟩:=H_.1 n2
 have dis:∀a,a∈A\/a∈B->∀j∈ids (fN N2) h a,j∉ids (fN N2) h k1/\j∉ids (fN N2) h k2:=λa ha j hj=>by
  rcases ha with ha|ha
  . have hjA:j∈A.flatMap (ids (fN N2) h):=E_.2 ⟨a,ha,hj⟩;exact⟨λh=>n3 j hjA j (by simp[h]) rfl,λh=>n3 j hjA j (by simp[h]) rfl⟩
  . have hjB:j∈B.flatMap (ids (fN N2) h):=E_.2 ⟨a,ha,hj⟩;exact⟨λh=>n6 j (by simp[h]) j hjB rfl,λh=>n6 j (by simp[h]) j hjB rfl⟩
 have hak:∀a,a∈A\/a∈B->a≠k:=λa ha e=>by
  obtain⟨d1,d2⟩:=dis a ha a.toNat (wx.head h a);rcases hk with rfl|rfl
  . exact d1 (by rw[<-e];exact wx.head h a)
  . exact d2 (by rw[<-e];exact wx.head h a)
 have agr:∀a,a∈A\/a∈B->∀j∈ids (fN N2) h a,N3[j]? = N2[j]?:=λa ha j hj=>by obtain⟨d1,d2⟩:=dis a ha j hj;exact P.out j (λe=>d1 (by rw[e];exact wx.head h k1)) (λe=>d2 (by rw[e];exact wx.head h k2))
 have other:∀a,a∈A\/a∈B->∀ {m:Nat} {s:Span},wx (fN N2) h a m s->_:=λa ha m s c=>wx.agree (N:=N2) (N':=N3) (by rw[P.len];exact v_ _) c (agr a ha)
 have flat:∀(l:List Int),(∀a∈l,a∈A\/a∈B)->l.flatMap (ids (fN N3) h)=l.flatMap (ids (fN N2) h)/\l.flatMap (wb (fN N3) h)=l.flatMap (wb (fN N2) h):=λl hl=>by
  constructor
  . exact ym λa ha=>by obtain⟨t',s'',x1⟩:=wc a (hl a ha);exact(other a (hl a ha) x1.1).2.1
  . exact wI λa ha=>by obtain⟨t',s'',x1⟩:=wc a (hl a ha);exact(other a (hl a ha) x1.1).2.2.1
 have hch:=turn (BD (fN N3) h) (λa t s'' ha q=>by
  have c:=q.2 (hak a ha)
  exact⟨(other a ha c.1).1,by rw[(other a ha c.1).2.2.2];exact c.2⟩) K X _ P.ch
 have hKl:n.kids.length=A.length+2+B.length:=by rw[hkids];simp;omega
 rw[hseps] at ho;obtain⟨p1,p2,p3⟩:=F_.1 ho;obtain⟨p4,p5⟩:=z_.1 p2;refine⟨P.len,λj hj=>?_,P.chk,hch,?_,?_,?_,λy hy=>?_,?_,?_⟩
 . rw[hfl] at hj;simp only[j_,not_or] at hj;exact P.out j (λe=>hj.2.1.1 (by rw[e];exact wx.head h k1)) (λe=>hj.2.1.2 (by rw[e];exact wx.head h k2))
 . rcases hsh with ⟨rfl,_⟩|⟨rfl,_⟩ <;> simp <;> omega
 . rcases hsh with ⟨rfl,_⟩|⟨rfl,_⟩ <;> simp <;> omega
 . rcases hsh with ⟨_,rfl⟩|⟨rfl,y,rfl⟩
   . exact F_.2 ⟨p1,p5,λa ha b hb=>p3 a ha b (B_ _ hb)⟩
   . obtain⟨a1,al,t1,ts,e1,e2,i1,i2,c'⟩:=P.ch;obtain⟨e,he⟩:=i2.1.some_elem P.chk;have hs1:=((i2.1.elems P.chk).2 e he).1;have hs2:=xG.1 hs1;have hs3:=xQ i1 hs1;refine F_.2 ⟨p1,z_.2 ⟨λb hb=>hiX b hb y i1,p5⟩,λa ha b hb=>?_⟩;rcases g_.1 hb with rfl|hb
     . exact Bd (loX a ha _ hs3) hs2.2
     . exact p3 a ha b (B_ _ hb)
 . rcases j_.1 hy with hy|hy
   . exact hxok y (by rw[hseps];exact Q_ _ hy)
   . rcases j_.1 hy with hy|hy
     . exact P.ok y hy
     . exact hxok y (by rw[hseps];simp[hy])
 . obtain⟨Z,hZ,hz⟩:=P.perm;refine⟨Z,?_,hz⟩;rw[hfl,d_,d_,(flat A λa ha=>.inl ha).1,(flat B λa ha=>.inr ha).1];refine((hZ.append_right _).append_left _).trans ?_;rw[x_];exact M7 _ _ _
 . rw[d_,d_,(flat A λa ha=>.inl ha).2,(flat B λa ha=>.inr ha).2,P.elems,hkids,d_,a_,a_,x_]
omit [Big F] in
theorem JZ {α:Type}(A:List α)(x y:α)(B:List α):idx (A++x::y::B) ((A.length:Int)+1)=some y:=by rw[show ((A.length:Int)+1)=((A.length+1:Nat):Int) by omega,vD,m0 o_];simp
omit [Big F] in
theorem EB {α:Type}{l:List α}{i j:Nat}(h1:i<j)(h2:j<=l.length):t8 l (i:Int) (j:Int)=some (jR l i j):=by unfold t8;rw[if_pos ⟨by omega,by omega,by omega⟩,l_,l_]
omit [Big F] in
theorem Hg {α:Type}(A:List α)(x y:α)(B:List α):jR (A++x::y::B) (A.length+1) (A.length+2)=A++x::B:=by unfold jR;rw[show A++x::y::B=(A++[x])++y::B by simp,o8 s_,show (A++[x])++y::B=(A++[x,y])++B by simp,p6 s_];simp
omit [Big F] in
theorem JU {α:Type}(A:List α)(x:α)(B:List α):jR (A++x::B) A.length (A.length+1)=A++B:=by unfold jR;rw[o8 rfl,show A++x::B=(A++[x])++B by simp,p6 s_]
omit [Big F] in
theorem Kl {α:Type}(A:List α)(x y z:α)(B:List α):(A++x::y::B).set (A.length+1) z=A++x::z::B:=by rw[M1 _ _ o_];simp
theorem JX {N2:NL}(hc:xr N2)(hl:N2.length<=400){h:Nat}{n:DNode}{r10 r11:Int}{s:Span}{k:Int}{z:Nat}{tids':List Int}
 (ht:n.tids.set r10.toNat r11=tids') (hz:z+1<n.kids.length) (h8:n.kids.length<=8) (hs:n.seps.length+1=n.kids.length) (htl:tids'.length=n.kids.length)
 (hk:n.kids[z]? = some k\/n.kids[z+1]? = some k) (hzz:(bif (r10==(IntKind.i64.wrap ((n.kids.length:Int)-1))) then some (IntKind.i64.wrap (r10-1)) else some r10:Option Int)=some (z:Int))
 (ho:n.seps.Pairwise SpotO) (hxok:∀x∈n.seps,wm (zE x)=0) (wc:Ch (HE (fN N2) h k) n.seps s n.kids tids') (hnd:(n.kids.flatMap (ids (fN N2) h)).Nodup)
 (hlow:(nd (fN N2) k).elems.length+(nd (fN N2) k).kids.length<4) :
 ∃K X T N3,Df F n r10 r11 N2=some (K,X,T,N3)/\EvenPost N2 N3 h s n K X T:=by
 obtain⟨k1,k2,hk1,hk2,eK⟩:=FP n.kids hz;obtain⟨t1,t2,ht1,ht2,eT⟩:=FP tids' (z:=z) o_;obtain⟨x,eX⟩:∃x,n.seps=n.seps.take z++x::n.seps.drop (z+1):=⟨_,zV n.seps (w:=z) o_⟩;have lA:(n.kids.take z).length=z:=by rw[p_];omega
 have lX:(n.seps.take z).length=z:=by rw[p_];omega
 have lT:(tids'.take z).length=z:=by rw[p_];omega
 have lB:(n.kids.drop (z+2)).length=n.kids.length-(z+2):=G_;have lXB:(n.seps.drop (z+1)).length=n.seps.length-(z+1):=G_;have lTB:(tids'.drop (z+2)).length=tids'.length-(z+2):=G_
 generalize n.kids.take z=A at *
 generalize n.kids.drop (z+2)=B at *
 generalize n.seps.take z=XA at *
 generalize n.seps.drop (z+1)=XB at *
 generalize tids'.take z=TA at *
 generalize tids'.drop (z+2)=TB at *
 have hkk:k=k1\/k=k2:=by
  rcases hk with h|h
  . rw[hk1] at h;exact .inl (y_.inj h).symm
  . rw[hk2] at h;exact .inr (y_.inj h).symm
 have wc':=wc;rw[eK,eX,eT] at wc';have ho':=ho;rw[eX] at ho';obtain⟨s',i1,i2,i3,i4,i5,i6⟩:=Ch.focus (XA:=XA) (XM:=[x]) (XB:=XB) (A:=A) (M:=[k1,k2]) (B:=B) (TA:=TA) (TM:=[t1,t2]) (TB:=TB) o_ o_ rfl rfl o_ o_ ho' wc';obtain⟨k1',ks',t1',ts',e1,e2,hx,p1,k2',t2',e3,e4,p2⟩:=i1;obtain⟨rfl,rfl⟩:k1=k1'/\[k2]=ks':=by simpa using e1
 obtain rfl:k2=k2':=by simpa using e3
 have hfl:n.kids.flatMap (ids (fN N2) h)=A.flatMap (ids (fN N2) h)++((ids (fN N2) h k1++ids (fN N2) h k2)++B.flatMap (ids (fN N2) h)):=by rw[eK,d_,a_,a_,x_]
 have hn12:(ids (fN N2) h k1++ids (fN N2) h k2).Nodup:=by rw[hfl] at hnd;exact(H_.1 (H_.1 hnd).2.1).1
 have hne:k1.toNat≠k2.toNat:=λe=>(H_.1 hn12).2.2 _ (wx.head h k1) _ (wx.head h k2) e;have b1:=yq (zu hc p1.1.range);have b2:=yq (zu hc p2.1.range);have b3:(nd (fN N2) k1).elems.length+(nd (fN N2) k2).elems.length<=12/\(nd (fN N2) k1).kids.length+(nd (fN N2) k2).kids.length<=12:=by rcases hkk with rfl|rfl <;> omega
 have hpo:Eu N2 h k1 k2 s' (nd (fN N2) k1) (nd (fN N2) k2) x:=by
  cases h with
  |zero=>exact Ig hc hx hne p1.1 p2.1 b3.1
  |succ h=>exact GX hc hl hx (hxok x (by rw[eX];simp)) p1.1 p2.1 hn12 b3.2
 obtain⟨z22,hz22,hpair⟩:=hpo;have r1:=p1.1.range;have r2:=p2.1.range;rw[wn] at r1 r2
 have wcm:∀a,a∈A\/a∈B->∃t s'',HE (fN N2) h k a t s'':=λa ha=>by
  obtain⟨t,s'',q,_⟩:=wc.mem a (by
   rw[eK];rcases ha with ha|ha
   . exact Q_ _ ha
   . simp[ha])
  exact⟨t,s'',q⟩
 have fin:=λ{N3:NL} {K:List Int} {X:List DSpot} (P:PairPost N2 N3 h k1 k2 s' K X) hsh=>I0 (TA:=TA) (TB:=TB) eK eX hkk hnd ho hxok i3 i4 wcm i6 P hsh;have hi1:idx n.kids (z:Int)=some k1:=by rw[vD];exact hk1
 have hi2:idx n.kids ((z:Int)+1)=some k2:=by rw[show ((z:Int)+1)=((z+1:Nat):Int) by omega,vD];exact hk2
 have hi3:idx n.seps (z:Int)=some x:=by have:=xO XA x XB;rwa[lX,<-eX] at this
 have hd1:t8 n.kids ((z:Int)+1) ((z:Int)+2)=some (A++k1::B):=by have:=EB (l:=n.kids) (i:=z+1) (j:=z+2) o_ o_;rw[show ((z+1:Nat):Int)=(z:Int)+1 by omega,show ((z+2:Nat):Int)=(z:Int)+2 by omega] at this;rw[this,eK];have:=Hg A k1 k2 B;rw[lA] at this;rw[this]
 have hd2:t8 n.seps (z:Int) ((z:Int)+1)=some (XA++XB):=by have:=EB (l:=n.seps) (i:=z) (j:=z+1) o_ o_;rw[show ((z+1:Nat):Int)=(z:Int)+1 by omega] at this;rw[this,eX];have:=JU XA x XB;rw[lX] at this;rw[this]
 have hd3:t8 tids' ((z:Int)+1) ((z:Int)+2)=some (TA++t1::TB):=by have:=EB (l:=tids') (i:=z+1) (j:=z+2) o_ o_;rw[show ((z+1:Nat):Int)=(z:Int)+1 by omega,show ((z+2:Nat):Int)=(z:Int)+2 by omega] at this;rw[this,eT];have:=Hg TA t1 t2 TB;rw[lT] at this;rw[this]
 obtain⟨_,_,_,_,j1⟩:=oV hd1;obtain⟨_,_,_,_,j2⟩:=oV hd2;obtain⟨_,_,_,_,j3⟩:=oV hd3;have hset:∀(l:List Int) (a b:Int),(TA++a::l).set z b=TA++b::l:=λl a b=>by have:=zo TA a b l;rwa[lT] at this
 unfold Df;rw[hzz,obs,hi1,obs,w64 (n:=(z:Int)+1) o_ o_,hi2,obs,p1.1.node.1,obs,GO (Ne.symm hne),p2.1.node.1,obs,hi3,obs,hz22,obs];unfold Jm;rw[ht]
 generalize nd (fN N2) k1=n5 at *
 generalize nd (fN N2) k2=n6 at *
 rw[w64 (n:=((n5.elems++n6.elems).length:Int)+((n5.kids++n6.kids).length:Int)) o_ (by simp only[t_];omega),w64 (n:=(z:Int)+1) o_ o_];rcases hpair with ⟨hle,P⟩|⟨hgt,y,q1,q2,q3,q4,l1,l2,l3,l4,kd,hh,P⟩
 . obtain⟨a1,u1,e5,e6,c1⟩:=P.ch;obtain rfl:k1=a1:=by simpa using e5
   have hnode:=c1.1.node.1;have hgr:=xc (F:=F) P.chk c1.1.range;have hE:=fin P (.inl ⟨rfl,rfl⟩);refine⟨_,_,_,_,?_,hE⟩;rw[decide_eq_false o_,cond_false,zr (by rw[wh];exact r1),obs,zr (by rw[wj,wh];exact r2),obs,w64 (n:=(z:Int)+2) o_ o_,hd1,obs,hd2,obs,hd3,obs,obs];dsimp only;rw[j1,j2,j3];refine Eq.trans (congrArg (λq=>E7 q _) hnode) ?_;rw[obs,hgr,obs];have hm:=xO TA t1 TB;rw[lT] at hm;rw[hm,obs,l_,hset];rfl
 . obtain⟨a1,al,u1,us,e5,e6,i7,c1,a2,u2,e7,e8,c2⟩:=P.ch;obtain⟨rfl,rfl⟩:k1=a1/\[k2]=al:=by simpa using e5
   obtain rfl:k2=a2:=(by simpa using e7);have hnode:=c1.1.node.1;have hgr:=xc (F:=F) P.chk c1.1.range;have hgr2:=xc (F:=F) P.chk c2.1.range;have hnd2:=Af (AB (N:=N2) (k1:=k1) (k2:=k2) ⟨n5.kind,l1,l2,l3,l4⟩ ⟨kd,q4,q3,q2,q1⟩ o_);have hgr3:iZ F ⟨kd,q4,q3,q2,q1⟩=some (wo (nd (fN (put2 N2 k1 k2 ⟨n5.kind,l1,l2,l3,l4⟩ ⟨kd,q4,q3,q2,q1⟩)) k2)):=(by rw[<-hgr2,hnd2]);have hE:=fin P (.inr ⟨rfl,y,rfl⟩);refine⟨_,_,_,_,?_,hE⟩;rw[decide_eq_true o_,cond_true,hh,obs];dsimp only;rw[zr (by rw[wh];exact r1),obs,zr (by rw[wj,wh];exact r2),obs,hi3,obs,hgr3,obs];have hm:=JZ TA t1 t2 TB;rw[lT,<-eT] at hm;rw[hm,obs,obs];dsimp only;refine Eq.trans (congrArg (λq=>E7 q _) hnode) ?_;rw[obs,hgr,obs];have hst:=Kl TA t1 t2 (wo (nd (fN (put2 N2 k1 k2 ⟨n5.kind,l1,l2,l3,l4⟩ ⟨kd,q4,q3,q2,q1⟩)) k2)) TB;rw[lT,<-eT] at hst;have hm2:=xO TA t1 (wo (nd (fN (put2 N2 k1 k2 ⟨n5.kind,l1,l2,l3,l4⟩ ⟨kd,q4,q3,q2,q1⟩)) k2)::TB);rw[lT] at hm2;have hsx:n.seps.set z y=XA++y::XB:=(by have:=zo XA x y XB;rw[lX,<-eX] at this;exact this);rw[show ((z:Int)+1).toNat=z+1 by omega,hst,hm2,obs,l_,hset,EX,hsx,eK];rfl
structure RemPost (sp:DSpot) (N N':NL) (h:Nat) (i:Int) (s:Span) (m:Nat):Prop where
 len:N'.length=N.length
 out:∀j:Nat,j∉ids (fN N) h i->N'[j]? = N[j]?
 chk:xr N'
 sub:wx (fN N') h i (m-1) s
 perm:∃Z,(ids (fN N) h i).Perm (Z++ids (fN N') h i)/\∀j∈Z,N'[j]? = some (.inr zN)
 elems:wb (fN N') h i=(wb (fN N) h i).filter (yG sp)
structure RemMid (sp:DSpot) (N N3:NL) (h:Nat) (i:Int) (s:Span) (n:DNode) (K:List Int) (X:List DSpot) (T:List Int):Prop where
 len:N3.length=N.length
 hole:N3[i.toNat]? = (iL N i)[i.toNat]?
 out:∀j:Nat,j∉ids (fN N) (h+1) i->N3[j]? = N[j]?
 chk:xr N3
 ch:Ch (BD (fN N3) h) X s K T
 more:n.kids.length<=K.length+1
 few:K.length<=n.kids.length
 ord:X.Pairwise SpotO
 ok:∀x∈X,wm (zE x)=0
 perm:∃Z,(n.kids.flatMap (ids (fN N) h)).Perm (Z++K.flatMap (ids (fN N3) h))/\∀j∈Z,N3[j]? = some (.inr zN)
 elems:K.flatMap (wb (fN N3) h)=(n.kids.flatMap (wb (fN N) h)).filter (yG sp)
def IB (F:Nat)(sp:DSpot)(h:Nat):Prop:=∀(mf:Nat) (N:NL) (i:Int) (m:Nat) (s:Span),h<mf->xr N->N.length<=400->(h=0\/3<=m)->wx (fN N) h i m s->(ids (fN N) h i).Nodup->inS s sp=true->∃N',qD (CM F sp) mf (N,i)=some N'/\RemPost sp N N' h i s m
omit [Big F] in
theorem BZ {sp:DSpot}{l:List DElem}(h:∀x∈l,wg x≠sp):l.filter (yG sp)=l:=E6.2 λx hx=>by unfold yG;simpa using h x hx
theorem Jx (sp:DSpot):IB F sp 0:=by
 intro mf N i m s hm hc hl _ c hn hs;obtain⟨mf,rfl⟩:∃q,mf=q+1:=⟨mf-1,by omega⟩;have L:=c.leaf hc;have hr:=c.range;rw[wn] at hr;obtain⟨hnode,hat⟩:=c.node;obtain⟨_,hk1,hmk,hin⟩:=c;have hel:wb (fN N) 0 i=(nd (fN N) i).elems:=rfl
 generalize nd (fN N) i=n at *
 have hlen:n.elems.length<=(n.elems.filter (yG sp)).length+1:=by
  have key:∀l:List DElem,l.Pairwise SpO->l.length<=(l.filter (yG sp)).length+1:=by
   intro l
   induction l with
   |nil=>intro _;simp
   |cons a l ih =>
    intro ho;rw[z_] at ho;by_cases h:wg a=sp
    . have:l.filter (yG sp)=l:=BZ λx hx e=>by have:=ho.1 x hx;unfold SpO at this;rw[h,e,wq.refl] at this;omega
      rw[List.filter_cons];split <;> rw[this] <;> simp
    . have:=ih ho.2;rw[List.filter_cons,if_pos (by unfold yG;simpa using h)];simpa using this
  exact key _ L.ord
 obtain⟨n',hn'⟩:∃n':DNode,n'=⟨1,n.elems.filter (yG sp),[],[],[]⟩:=⟨_,rfl⟩;have hck:wy n'=0:=by rw[hn'];exact yz rfl ⟨rfl,rfl,rfl,by have:=List.length_filter_le (yG sp) n.elems;have:=L.len;show (n.elems.filter (yG sp)).length<=8;omega,λx hx=>L.ok x ((List.mem_filter.1 hx).1),L.ord.filter _⟩
 have hnd:nd (fN (jb (iL N i) i n')) i=n':=Cm (by rw[wh];exact hr);refine⟨jb (iL N i) i n',?_,⟨by rw[wj,wh],λj hj=>?_,(hc.out i).put hck,⟨?_,by rw[hnd,hn'],?_,?_⟩,⟨[],?_,by simp⟩,?_⟩⟩
 . show CM F sp (qD (CM F sp) mf) (N,i)=_;unfold CM;dsimp only;rw[hnode,obs,hk1,show ((1:Int)==1)=true from rfl,cond_true,JT _ _ (by have:=L.len;omega),obs,zr (by rw[wh];exact hr),obs,L.kids,L.seps,L.tids,hn']
 . have hji:j≠i.toNat:=by simpa[ids] using hj
   rw[ww _ hji,wF _ hji]
 . rw[wn,wj,wh];exact hr
 . rw[hnd,hn'];show m-1<=(n.elems.filter (yG sp)).length;omega
 . rw[hnd,hn'];intro x hx;exact hin x ((List.mem_filter.1 hx).1)
 . simp[ids]
 . rw[hel];show (nd _ i).elems=_;rw[hnd,hn']
omit [Big F] in
theorem wx.count {ns:List DNode}(hns:∀n∈ns,wy n=0){h:Nat}{i:Int}{m m':Nat}{s:Span}(c:wx ns h i m s)(hm:m'<=(nd ns i).elems.length+(nd ns i).kids.length):wx ns h i m' s:=by
 cases h with
 |zero=>have L:=c.leaf hns;rw[L.kids] at hm;exact⟨c.1,c.2.1,by simpa using hm,c.2.2.2⟩
 |succ h=>have L:=c.inner hns;rw[L.elems] at hm;exact⟨c.1,c.2.1,by simpa using hm,c.2.2.2⟩
theorem Hu {sp:DSpot}{h:Nat}(ih:IB F sp h){mf:Nat}{N:NL}{i:Int}{m:Nat}{s:Span}(hm:h<mf)(hc:xr N)(hl:N.length<=400)(c:wx (fN N) (h+1) i m s)(hn:(ids (fN N) (h+1) i).Nodup)(hs:inS s sp=true) :
 ∃N3 K X T,qD (CM F sp) (mf+1) (N,i)=some (jb N3 i ⟨2,[],K,X,T⟩)/\RemMid sp N N3 h i s (nd (fN N) i) K X T:=by
 have L:=c.inner hc;have hr:=c.range;rw[wn] at hr;obtain⟨hnode,hat⟩:=c.node;have hus:=c.used;obtain⟨_,hk2,hmk,hch⟩:=c;obtain⟨A,k,B,XA,XB,TA,t,TB,s',f⟩:=Gz L.seps L.tids L.ord hch hs;have hids:ids (fN N) (h+1) i=i.toNat::(nd (fN N) i).kids.flatMap (ids (fN N) h):=rfl
 generalize hnn:nd (fN N) i=n at *
 have hflN:n.kids.flatMap (ids (fN N) h)=A.flatMap (ids (fN N) h)++(ids (fN N) h k++B.flatMap (ids (fN N) h)):=by rw[f.kids,d_,a_]
 have hn0:=hn;rw[hids] at hn0;rw[ids,hnn,f.kids] at hn;obtain⟨d1,d2,d3⟩:=Av hn;have hN1:∀j∈ids (fN N) h k,(iL N i)[j]? = N[j]?:=λj hj=>wF N (λe=>d1 (e▸hj));obtain⟨q1,q2,q3,q4⟩:=wx.agree (N':=iL N i) (by rw[wh];exact v_ _) f.here.1 hN1;obtain⟨N2,hrun,P2⟩:=ih mf (iL N i) k 4 s' hm (hc.out i) (by rw[wh];exact hl) (.inr o_) q1 (by rw[q2];exact d2) f.in_;have hlen2:N2.length=N.length:=by rw[P2.len,wh]
 obtain⟨Z2,hZ2,hz2⟩:=P2.perm;rw[q2] at hZ2;have hout2:∀j:Nat,j≠i.toNat->j∉ids (fN N) h k->N2[j]? = N[j]?:=λj h1 h2=>by rw[P2.out j (by rw[q2];exact h2),wF N h1]
 have other:∀a,a∈A\/a∈B->∀ {m:Nat} {s:Span},wx (fN N) h a m s->_:=λa ha m s c=>wx.agree (N:=N) (N':=N2) (by rw[hlen2];exact v_ _) c λj hj=>by obtain⟨x1,x2⟩:=d3 a ha;exact hout2 j (λe=>x1 (e▸hj)) (x2 j hj)
 have hkids:∀a,a∈A\/a∈B->∃t' s'',wx (fN N) h a 4 s''/\(∀x∈wb (fN N) h a,wg x≠sp):=λa ha=>by
  rcases ha with ha|ha
  . obtain⟨t',s'',x1,x2⟩:=f.lo a ha;exact⟨t',s'',x1.1,λx hx e=>by have:=x2 _ ((x1.1.elems hc).2 x hx).1;rw[e,wq.refl] at this;omega⟩
  . obtain⟨t',s'',x1,x2⟩:=f.hi a ha;exact⟨t',s'',x1.1,λx hx e=>by have:=x2 _ ((x1.1.elems hc).2 x hx).1;rw[e,wq.refl] at this;omega⟩
 have flat:∀(l:List Int),(∀a∈l,a∈A\/a∈B)->l.flatMap (ids (fN N2) h)=l.flatMap (ids (fN N) h) /\
  l.flatMap (wb (fN N2) h)=(l.flatMap (wb (fN N) h)).filter (yG sp):=λl hl=>by
  constructor
  . exact ym λa ha=>by obtain⟨t',s'',x1,_⟩:=hkids a (hl a ha);exact(other a (hl a ha) x1).2.1
  . rw[List.filter_flatMap];exact wI λa ha=>by obtain⟨t',s'',x1,x2⟩:=hkids a (hl a ha);rw[(other a (hl a ha) x1).2.2.1];exact(BZ x2).symm
 have hfl2:n.kids.flatMap (ids (fN N2) h)=A.flatMap (ids (fN N) h)++(ids (fN N2) h k++B.flatMap (ids (fN N) h)):=by rw[f.kids,d_,a_,(flat A λa ha=>.inl ha).1,(flat B λa ha=>.inr ha).1]
 have hperm:(n.kids.flatMap (ids (fN N) h)).Perm (Z2++n.kids.flatMap (ids (fN N2) h)):=by rw[hflN,hfl2];refine((hZ2.append_right _).append_left _).trans ?_;rw[x_];exact M7 _ _ _
 obtain⟨n1,n2⟩:=P_.1 hn0;have hnp:=hperm.nodup_iff.1 n2;obtain⟨m1,m2,m3⟩:=H_.1 hnp;have hsub:∀j∈n.kids.flatMap (ids (fN N2) h),j∈n.kids.flatMap (ids (fN N) h):=λj hj=>hperm.mem_iff.2 (X_ _ hj);have hi2:i.toNat∉n.kids.flatMap (ids (fN N2) h):=λhj=>n1 (hsub _ hj);have hw:yE n.seps sp=A.length:=f.way;have hta:=f.ta;have hxa:=f.xa;have htb:=f.tb;have hxb:=f.xb;have hkl:n.kids.length=A.length+B.length+1:=by rw[f.kids];simp;omega
 have h8:=L.eight;have h2:=L.two;have hsl:=L.seps;have htl:=L.tids;obtain⟨g,hg⟩:∃g,g=wo (nd (fN N2) k):=⟨_,rfl⟩;have htids:n.tids.set A.length g=TA++g::TB:=by rw[f.tids,<-hta,zo]
 have hgr:=xc (F:=F) P2.chk P2.sub.range
 have hE:∃K X T N3,Ke F n (nd (fN N2) k) (A.length:Int) g N2=some (K,X,T,N3)/\EvenPost N2 N3 h s n K X T:=by
  obtain⟨b1,b2⟩:=yq (zu P2.chk P2.sub.range);unfold Ke;rw[w64 o_ o_,l_,htids];by_cases hlow:(nd (fN N2) k).elems.length+(nd (fN N2) k).kids.length<4
  . have wc:=f.turn (HE (fN N2) h k) (λa t' s'' ha x=>⟨((other a ha x.1).1).weak o_,λ_=>⟨(other a ha x.1).1,by rw[(other a ha x.1).2.2.2];exact x.2⟩⟩) [k] [] [g] ⟨k,_,rfl,rfl,⟨P2.sub,λhne=>absurd rfl hne⟩⟩;have wc':Ch (HE (fN N2) h k) n.seps s n.kids (TA++g::TB):=by rw[f.seps,f.kids];simpa using wc
    have hev:∀z:Nat,z+1<n.kids.length->(n.kids[z]? = some k\/n.kids[z+1]? = some k)->(bif ((A.length:Int)==(IntKind.i64.wrap ((n.kids.length:Int)-1))) then some (IntKind.i64.wrap ((A.length:Int)-1)) else some (A.length:Int):Option Int)=some (z:Int) ->
     ∃K X T N3,Df F n (A.length:Int) g N2=some (K,X,T,N3)/\EvenPost N2 N3 h s n K X T:=λz z1 z2 z3 =>
     JX P2.chk o_ (by rw[l_];exact htids) z1 h8 hsl (by simp;omega) z2 z3 L.ord L.ok wc' m2 hlow
    have hAk:n.kids[A.length]? = some k:=by rw[f.kids,m0 (v_ _)];simp
    obtain⟨K,X,T,N3,e1,e2⟩:∃K X T N3,Df F n (A.length:Int) g N2=some (K,X,T,N3)/\EvenPost N2 N3 h s n K X T:=by
     by_cases hB:B.length=0
     . refine hev (A.length-1) o_ (.inr (by rw[show A.length-1+1=A.length by omega];exact hAk)) ?_;rw[w64 o_ o_,show ((A.length:Int)==(n.kids.length:Int)-1)=true by rw[beq_iff_eq];omega,cond_true,w64 o_ o_];congr 1;omega
     . refine hev A.length o_ (.inl hAk) ?_;rw[w64 o_ o_,show ((A.length:Int)==(n.kids.length:Int)-1)=false by rw[beq_eq_false_iff_ne];omega,cond_false]
    refine⟨K,X,T,N3,?_,e2⟩;rw[decide_eq_true o_,cond_true,e1,obs]
  . have hsub4:wx (fN N2) h k 4 s':=P2.sub.count P2.chk o_;have cc:=f.turn (BD (fN N2) h) (λa t' s'' ha x=>⟨(other a ha x.1).1,by rw[(other a ha x.1).2.2.2];exact x.2⟩) [k] [] [g] ⟨k,_,rfl,rfl,⟨hsub4,hg.symm⟩⟩;refine⟨n.kids,n.seps,TA++g::TB,N2,?_,⟨rfl,λ_ _=>rfl,P2.chk,by rw[f.seps,f.kids];simpa using cc,by omega,v_ _,L.ord,L.ok,⟨[],by simp,by simp⟩,rfl⟩⟩;rw[decide_eq_false o_,cond_false]
 obtain⟨K,X,T,N3,hM,E⟩:=hE;have hlen3:N3.length=N.length:=by rw[E.len,hlen2]
 refine⟨N3,K,X,T,?_,⟨hlen3,?_,λj hj=>?_,E.chk,E.ch,E.more,E.few,E.ord,E.ok,?_,?_⟩⟩
 . show CM F sp (qD (CM F sp) mf) (N,i)=_;generalize qD (CM F sp) mf=rf at hrun;have hix:idx n.kids (A.length:Int)=some k:=by rw[f.kids];exact xO _ _ _
   have hit:idx n.tids (A.length:Int)=some t:=(by rw[f.tids,<-hta];exact xO _ _ _);unfold CM;dsimp only;rw[hnode,obs,hk2,show ((2:Int)==1)=false from rfl,cond_false,yA n _ (xp (wN hk2 L)),obs,hw,hix,obs,hrun,obs,obs,P2.sub.node.1,obs,hgr,obs,hit,obs,<-hg,hM,obs];dsimp only;rw[zr (by rw[hlen3];exact hr),obs,L.elems]
 . rw[E.out _ hi2,P2.out _ (by rw[q2];exact d1)]
 . rw[hids,g_,not_or] at hj;rw[E.out j (λhh=>hj.2 (hsub j hh)),hout2 j hj.1 (λhh=>hj.2 (by rw[hflN];simp[hh]))]
 . obtain⟨Z3,hZ3,hz3⟩:=E.perm;refine⟨Z2++Z3,?_,λj hj=>?_⟩
   . rw[x_];exact hperm.trans (hZ3.append_left _)
   . rcases j_.1 hj with hj|hj
     . rw[E.out j (λhh=>m3 j hj j hh rfl)];exact hz2 j hj
     . exact hz3 j hj
 . rw[E.elems,f.kids,d_,a_,d_,a_,B3,B3,(flat A λa ha=>.inl ha).2,(flat B λa ha=>.inr ha).2,P2.elems,q3]
theorem Hv {sp:DSpot}{N N3:NL}{h:Nat}{i:Int}{s:Span}{m:Nat}{K:List Int}{X:List DSpot}{T:List Int}(hl:N.length<=400)(c:wx (fN N) (h+1) i m s)(hc:xr N)(hn:(ids (fN N) (h+1) i).Nodup)(M:RemMid sp N N3 h i s (nd (fN N) i) K X T)(h2:2<=K.length) :
 RemPost sp N (jb N3 i ⟨2,[],K,X,T⟩) (h+1) i s m:=by
 have L:=c.inner hc;have hr:=c.range;rw[wn] at hr;have hmk:=c.2.2.1;have hids:ids (fN N) (h+1) i=i.toNat::(nd (fN N) i).kids.flatMap (ids (fN N) h):=rfl;have hels:wb (fN N) (h+1) i=(nd (fN N) i).kids.flatMap (wb (fN N) h):=rfl;obtain⟨Z,hZ,hz⟩:=M.perm;have hmore:=M.more;have hfew:=M.few;rw[hids] at hn;obtain⟨n1,n2⟩:=P_.1 hn;have hik:i.toNat∉K.flatMap (ids (fN N3) h):=λhh=>n1 (hZ.mem_iff.2 (X_ _ hh));have hck:=wN (n:=⟨2,[],K,X,T⟩) rfl (ye M.chk (by rw[M.len];exact hl) M.ch h2 (by have:=L.eight;omega) M.ord M.ok);have hnd:nd (fN (jb N3 i ⟨2,[],K,X,T⟩)) i=⟨2,[],K,X,T⟩:=Cm (by rw[M.len];exact hr);obtain⟨a1,a2,a3⟩:=xw (N':=jb N3 i ⟨2,[],K,X,T⟩) (by rw[wj];exact v_ _) M.ch λj hj=>ww N3 (show j≠i.toNat from λh=>hik (by rw[<-h];exact hj));refine⟨by rw[wj,M.len],λj hj=>?_,M.chk.put hck,⟨?_,by rw[hnd],by rw[hnd];show m-1<=K.length;omega,by rw[hnd];exact a1⟩,⟨Z,?_,λj hj=>?_⟩,?_⟩
 . have:=M.out j hj;rw[hids,g_,not_or] at hj;rw[ww N3 hj.1,this]
 . rw[wn,wj,M.len];exact hr
 . rw[hids,ids,hnd];show List.Perm _ (Z++i.toNat::K.flatMap _);rw[a2];exact(List.Perm.cons _ hZ).trans n9.symm
 . rw[ww N3 (show j≠i.toNat from λe=>n1 (hZ.mem_iff.2 (Q_ _ (by rw[<-e];exact hj))))];exact hz j hj
 . rw[hels,wb,hnd,<-M.elems];exact a3
theorem F4 (sp:DSpot):∀h,IB F sp h:=by
 intro h
 induction h with
 |zero=>exact Jx sp
 |succ h ih=>intro mf N i m s hm hc hl h3 c hn hs;obtain⟨mf,rfl⟩:∃q,mf=q+1:=⟨mf-1,by omega⟩;obtain⟨N3,K,X,T,h1,M⟩:=Hu (mf:=mf) ih o_ hc hl c hn hs;have h4:m<=(nd (fN N) i).kids.length:=c.2.2.1;have h5:=M.more;exact⟨_,h1,Hv hl c hc hn M o_⟩
end
end
end Go.Proofs.YtnofgfobljadbaaGreat
