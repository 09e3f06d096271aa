/- Rules for lists with room behind them: loops by so many rounds, stores behind a list, rows that a call hands on. Its conditions: none. -/
import Derived.Test.YtnofgfobljadbaaGreatPLoopO
import Derived.Test.YtnofgfobljadbaaGreatNodeLO
open List renaming mem_of_getElem?→a_, length_append→d_, take_of_length_le→f_
namespace Go.Proofs.YtnofgfobljadbaaGreat
set_option linter.unusedSimpArgs false
set_option linter.unusedVariables false
section
open Go.RowKit
section
variable {rl:Option Nat} {P:Program} {N:Sz} {w0:World} {V:View} {H:List HObj} {M:List (Nat×Value)} {Q:Exit->Act->World->Prop} {c:Code}
theorem T.pK {id:Nat} {Q:Exit->Act->World->Prop} (h:T N w0 V H M (Q .normal)):T N w0 V H M (Exit.inBlock id Q (.exit id)):=λa w hf hh=>by show (if id=id then _ else _);rw[if_pos rfl];exact h a w hf hh
theorem T.qJ (n:Nat) (I:Nat->Act->World->Prop) (h0:T N w0 V H M (I 0)) (step:∀k,k<n->∀a w,I k a w->c.wpIn (RF rl) 0 P (Exit.then (I (k + 1)) Q) a w)
 (stop:∀a w,I n a w->c.wpIn (RF rl) 0 P (Exit.then (λ_ _=>False) Q) a w):T N w0 V H M ((Code.loop c).wpIn (RF rl) 0 P Q):=λa w hf hh=>by
 refine wpIn_loop_rounds (n + 1) ?_
 have key:∀m k,k + m=n->∀a w,I k a w->Code.roundsIn (RF rl) 0 P c Q (m + 1) a w:=by
  intro m
  induction m with
  |zero=>intro k hk a w hi;obtain rfl:k=n:=o_;rw[roundsIn_succ];exact Go.wpIn_mono (stop a w hi) (λe a1 w1 hq=>by cases e <;> first|exact hq.elim|exact hq)
  |succ m ih=>intro k hk a w hi;rw[roundsIn_succ];exact Go.wpIn_mono (step k o_ a w hi) (λe a1 w1 hq=>by cases e <;> first|exact ih (k + 1) o_ a1 w1 hq|exact hq)
 exact key n 0 o_ a w (h0 a w hf hh)
end
section
variable {P:Program} {α:Type} {N:Sz} {w0:World} {V:View} {H:List HObj} {M:List (Nat×Value)} {ops:Array Oper} {Q:Exit->Act->World->Prop} {o:Oper} {K:Act->World->Prop} {E:Enc α} {p:Bool} {t e:TypeId} {A:Option Addr} {c:Nat} {l:List α}
theorem W1.m8 (i:Nat) (x:α) (a:Addr) {vs:List Value} {t':TypeId} {q y:Operand} {v:Value} (hi:nth H i=some (jQ p e E A c l)) (hlt:l.length<c) (hc:okO N ops M o=true) (ho:o.op=.store t' q y)
 (hq:evM M q=.pointer (some a)) (ha:a=(ij A).add (l.length * E.size)) (hy:evM M y=v) (hvs:v.cells=vs.toArray) (hs:∀w,(sizeOf t').run P w=.ok vs.length w) (h1:∀u∈vs,u.oneCell'=true)
 (hlen:vs.length=E.size) (hst:∀V,E.rep V vs x)
 (h:T N w0 V (H.set i (jQ p e E A c (l++[x]))) (ic o.dst undef M) K):W1 P Q ops o N w0 V H M K:=λa' w hf hh=>by
 obtain⟨g1,_,_,h4⟩:=iP hc;rw[i9] at hi;refine⟨iM hf g1,?_⟩;obtain⟨hlc,hcm,hrow⟩:=hh.objs _ (a_ hi);have hc0:c≠0:=o_;rcases hrow with h0|⟨g,cur,fz,xs,hrow⟩
 . exact absurd h0 hc0
 have hadr:a=⟨g,l.length * E.size,none⟩:=by rw[ha,hrow.adr];simp only[ij,Option.getD_some];unfold Addr.add;split <;> simp_all
 have hfit:l.length * E.size + vs.length<=cur.size:=by have:=Nat.mul_le_mul_right E.size (show l.length + 1<=c from hlt);rw[Nat.add_mul,Nat.one_mul] at this;rw[hrow.size,hlen];exact this
 have hsto:=jI (P:=P) g (l.length * E.size) e fz vs 0 cur w hrow.heap hrow.unfrz (by simpa using hfit) h1;simp only[Nat.add_zero] at hsto;have hrun:(execOp (evM M) o).run P w=.ok .skip (w.setRow g (cur.toList.take (l.length * E.size)++vs++cur.toList.drop (l.length * E.size + vs.length)).toArray):=by simp[execOp,ho,hq,hy,hadr,Instr.storeAt,Instr.sureAddr,storeVar,hvs,hs w,hsto]
 unfold Oper.wp;rw[ja hc hf,hrun];have hblk:∀l:List α,(jQ p e E A c l).own g:=λl=>by show iJ A c=some g;unfold iJ;rw[if_neg hc0,hrow.adr];rfl
 refine h _ _ (hf.put h4 _) (hh.turn (o:=some g) hi ?_ ?_ (λb hb=>.inl hb) (λb e=>by rw[<-Option.some.inj e];exact hblk _))
 . exact⟨rfl,rfl,rfl,by simp,λb _ hb=>setRow_other w g b _ (λe=>hb (by rw[e]))⟩
 . have hlen':(cur.toList.take (l.length * E.size)++vs++cur.toList.drop (l.length * E.size + vs.length)).length=cur.size:=by simp only[d_,List.length_take,List.length_drop,Array.length_toList];omega
   have hone:io V E vs [x]:=by
    refine⟨by rw[hlen];simp,λk z hk=>?_⟩
    cases k with
    |zero=>obtain rfl:=Option.some.inj hk;rw[Nat.zero_mul,List.drop_zero,f_ o_];exact hst V
    |succ k=>simp at hk
   refine⟨by rw[d_];exact hlt,hcm,.inr ⟨g,_,fz,_,⟨hrow.adr,setRow_heap w g cur _ e _ hrow.heap,hrow.plain,?_,?_,rfl,?_⟩⟩⟩
   . rw[List.size_toArray,hlen'];exact hrow.unfrz
   . rw[List.size_toArray,hlen'];exact hrow.size
   . refine(congrArg (λq=>io V E q (l++[x])) ?_).mp (hrow.rep.append hone);have hxl:xs.length=l.length * E.size:=hrow.rep.1;have e1:cur.toList.take (l.length * E.size)=xs:=hrow.take;have e2:(l++[x]).length * E.size=xs.length + vs.length:=(by rw[d_,hxl,hlen,Nat.add_mul];simp);simp only[List.toList_toArray];rw[e1,e2,List.append_assoc,List.take_append];simp;exact(f_ o_).symm
theorem Hp.row_some {w:World} (hh:Hp w0 V H w) {i:Nat} (hi:nth H i=some (jQ p e E A c l)) (hc:0<c):A.isSome=true:=by
 rw[i9] at hi;obtain⟨_,_,h0|⟨g,cur,fz,xs,hrow⟩⟩:=hh.objs _ (a_ hi)
 . omega
 . rw[hrow.adr];rfl
end
theorem Hp.objs_at {α:Type} {w0:World} {V:View} {H:List HObj} {w:World} {p:Bool} {e:TypeId} {E:Enc α} {A:Option Addr} {c:Nat} {l:List α} (hh:Hp w0 V H w) {i:Nat} (hi:nth H i=some (jQ p e E A c l)):l.length<=c:=by rw[i9] at hi;exact(hh.objs _ (a_ hi)).1
end
def oh (F:Nat) (p0:DTree):Option (Int):=bif decide ((400:Int)<(p0.nodes.length:Int)) then some 2 else (iter (σ:=Int) (ρ:=(Unit)⊕Int) (λx1=>bif decide (x1<(p0.nodes.length:Int)) then (idx p0.nodes x1).bind λe1=>(mc F e1).bind λr1=>bif (r1 !=0) then some (.inr (.inr r1)) else some (.inl (IntKind.i64.wrap (x1 + 1))) else some (.inr (.inl ()))) F 0).bind λz=>match z with
   |.inl _=>(qH 1 (p0.nodes.length:Int)).bind λu1=>(qD (σ:=(List Bool)×Int×Int×Int×Int×Int×Int×Int×Int×Int×Int×Int×Int×Bool×Bool) (ρ:=(List Bool)×Int×Int×Int) (λrf1 x=>match x with
     |(x2,x3,x4,x5,x6,x7,x8,x9,x10,x11,x12,x13,x14,x15,x16)=>bif (x4 !=0) then some (x2,x3,x4,0) else (bif decide (x5<0) then some true else bif decide ((p0.nodes.length:Int)<=x5) then some true else (idx x2 x5).bind λe2=>bif e2 then some true else (idx p0.nodes x5).bind λe3=>some (e3.kind==0):Option (Bool)).bind λz5=>bif z5 then (bif (x4==0) then some 3 else some x4:Option (Int)).bind λz6=>some (x2,x3,z6,0) else (idx x2 x5).bind λe4=>(idx p0.nodes x5).bind λe5=>(bif ((decide ((0:Int)<x6))&&(decide ((IntKind.i64.wrap ((e5.elems.length:Int) + (e5.kids.length:Int)))<4))) then (bif (x4==0) then some 3 else some x4:Option (Int)).bind λz8=>some z8 else some x4:Option (Int)).bind λz7=>bif (e5.kind==1) then (bif decide (x3<0) then some x6 else some x3:Option (Int)).bind λz9=>(bif (z9 !=x6) then (bif (z7==0) then some 3 else some z7:Option (Int)).bind λz11=>some z11 else some z7:Option (Int)).bind λz10=>(iter (σ:=Int×Int) (ρ:=Int) (λx=>match x with
           |(x17,x18)=>bif decide (x18<(e5.elems.length:Int)) then ((idx e5.elems x18).bind λe6=>(i8 e6).bind λr3=>((bif (!x15) then bif (!x16) then some true else (ji r3 (DSpot.mk (DKey.mk x11 x12 x13) x14)).bind λr6=>some (decide (r6<0)) else (ji (DSpot.mk (DKey.mk x7 x8 x9) x10) r3).bind λr4=>bif decide (r4<=0) then bif (!x16) then some true else (ji r3 (DSpot.mk (DKey.mk x11 x12 x13) x14)).bind λr5=>some (decide (r5<0)) else some false:Option (Bool)).bind λz15=>some z15:Option (Bool)).bind λz14=>bif (!z14) then (bif (x17==0) then some 3 else some x17:Option (Int)).bind λz16=>some z16 else some x17:Option (Int)).bind λz13=>some (.inl (z13,IntKind.i64.wrap (x18 + 1))) else some (.inr x17)) F (z10,0)).bind λz12=>(iZ F e5).bind λr7=>some ((x2.set x5.toNat true),z9,z12,r7) else (iter (σ:=(List Bool)×Int×Int×Int) (ρ:=(List Bool)×Int×Int) (λx=>match x with
           |(x19,x20,x21,x22)=>bif decide (x22<(e5.kids.length:Int)) then ((idx e5.kids x22).bind λe7=>(bif decide ((0:Int)<x22) then (idx e5.seps (IntKind.i64.wrap (x22 - 1))).bind λe8=>((bif (!x15) then bif (!x16) then some true else (ji e8 (DSpot.mk (DKey.mk x11 x12 x13) x14)).bind λr10=>some (decide (r10<0)) else (ji (DSpot.mk (DKey.mk x7 x8 x9) x10) e8).bind λr8=>bif decide (r8<=0) then bif (!x16) then some true else (ji e8 (DSpot.mk (DKey.mk x11 x12 x13) x14)).bind λr9=>some (decide (r9<0)) else some false:Option (Bool)).bind λz30=>some z30:Option (Bool)).bind λz29=>bif (!z29) then (bif (x21==0) then some 3 else some x21:Option (Int)).bind λz31=>some (e8.key.pfs,e8.key.obj,e8.key.off,e8.made,true,z31) else some (e8.key.pfs,e8.key.obj,e8.key.off,e8.made,true,x21) else some (x7,x8,x9,x10,x15,x21):Option (Int×Int×Int×Int×Bool×Int)).bind λz=>match z with
                |(z23,z24,z25,z26,z27,z28)=>(bif decide (x22<(e5.seps.length:Int)) then (idx e5.seps x22).bind λe9=>some (e9.key.pfs,e9.key.obj,e9.key.off,e9.made,true) else some (x11,x12,x13,x14,x16):Option (Int×Int×Int×Int×Bool)).bind λz=>match z with
                  |(z32,z33,z34,z35,z36)=>(idx e5.tids x22).bind λe10=>(rf1 (x19,x20,z28,e7,IntKind.i64.wrap (x6 + 1),z23,z24,z25,z26,z32,z33,z34,z35,z27,z36)).bind λz=>match z with
                    |(z37,z38,z39,z40)=>bif (z40 !=e10) then (bif (z39==0) then some 3 else some z39:Option (Int)).bind λz41=>some (z37,z38,z41) else some (z37,z38,z39):Option ((List Bool)×Int×Int)).bind λz=>match z with
              |(z20,z21,z22)=>some (.inl (z20,z21,z22,IntKind.i64.wrap (x22 + 1))) else some (.inr (x19,x20,x21))) F ((x2.set x5.toNat true),x3,z7,0)).bind λz=>match z with
           |(z17,z18,z19)=>(iZ F e5).bind λr11=>some (z17,z18,z19,r11)) F ((List.replicate ((p0.nodes.length:Int).toNat) (false:Bool)),-1,0,p0.root,0,0,0,0,0,0,0,0,0,false,false)).bind λz=>match z with
     |(z42,z43,z44,z45)=>(iter (σ:=Int×Int) (ρ:=Int) (λx=>match x with
       |(x23,x24)=>bif decide (x24<(p0.nodes.length:Int)) then ((idx p0.nodes x24).bind λe11=>(bif (e11.kind !=0) then (idx z42 x24).bind λe12=>some (!e12) else some false:Option (Bool)).bind λz48=>bif z48 then (bif (x23==0) then some 3 else some x23:Option (Int)).bind λz49=>some z49 else some x23:Option (Int)).bind λz47=>some (.inl (z47,IntKind.i64.wrap (x24 + 1))) else some (.inr x23)) F (z44,0)).bind λz46=>some z46
   |.inr q=>some q
def lF (F:Nat) (p0:DTree):Option (((List DElem))×Int):=(oh F p0).bind λr1=>bif (r1 !=0) then some ([],r1) else ((qD (σ:=(List DElem)×Int) (ρ:=(List DElem)) (λrf2 x=>match x with
    |(x1,x2)=>(idx p0.nodes x2).bind λe1=>(iter (σ:=(List DElem)×Int) (ρ:=(List DElem)) (λx=>match x with
       |(x3,x4)=>bif decide (x4<(e1.elems.length:Int)) then (idx e1.elems x4).bind λe2=>((grow 56 x3 [e2]).bind λ_=>some ():Option (Unit)).bind λ_=>some (.inl ((x3++[e2]),IntKind.i64.wrap (x4 + 1))) else some (.inr x3)) F (x1,0)).bind λz3=>(iter (σ:=(List DElem)×Int) (ρ:=(List DElem)) (λx=>match x with
       |(x5,x6)=>bif decide (x6<(e1.kids.length:Int)) then (idx e1.kids x6).bind λe3=>(rf2 (x5,e3)).bind λz5=>some (.inl (z5,IntKind.i64.wrap (x6 + 1))) else some (.inr x5)) F (z3,0)).bind λz4=>some z4) F ([],p0.root)).bind λq1=>some q1:Option ((List DElem))).bind λz1=>some (z1,0)
def oN:Option (DTree):=some (DTree.mk 0 [(DNode.mk 1 [] [] [] [])])
end Go.Proofs.YtnofgfobljadbaaGreat
