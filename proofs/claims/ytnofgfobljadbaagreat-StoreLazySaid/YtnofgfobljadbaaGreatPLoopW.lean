/- Contracts of library functions at this program, laid by the shelf in plain words. Their conditions: as each states. -/
import Derived.Shelf.Sort.Plain
import Derived.Ground.Names2Prog
import Derived.Shelf.Slices.CompactI
import Derived.Shelf.Slices.In.SortNone
import Derived.Test.YtnofgfobljadbaaGreatProg
import Derived.Test.YtnofgfobljadbaaGreatFrSLW
open List renaming getElem?_eq_getElem→a_, mem_cons_self→f_, findSome?_cons→g_, getElem?_map→i_, getElem?_eq_none→j_, getElem?_take→l_, length_map→p_, getElem?_eq_some_iff→q_, mem_zipIdx_iff_getElem?→u_, drop_eq_getElem_cons→v_
open UInt8 renaming ofNat→d_
open ByteArray renaming mk→t_
open Array renaming getElem?_toList→x_, getElem?_modify→y_
namespace Go.Proofs.YtnofgfobljadbaaGreat
open IntKind (i64)
set_option linter.unusedSimpArgs false
set_option linter.unusedVariables false
set_option maxHeartbeats 4000000
set_option maxRecDepth 100000
section
open Go.Shelf
def Tryz.lays189_ren:Go.Shelf.Ren:=⟨λ| 189=>30|125=>64|257=>63|128=>104|129=>105|294=>95|295=>96|296=>97|297=>98|298=>99|299=>100|216=>101|300=>102|301=>103|328=>127|329=>128|330=>129|331=>130|332=>131|215=>132|343=>143|n=>n,λ| 28=>66|3=>3|46=>121|0=>0|51=>169|53=>108|4=>4|183=>161|182=>160|131=>166|5=>5|9=>9|218=>199|222=>203|228=>219|229=>220|n=>n,λ| n=>n⟩
theorem Tryz.lays189:Go.Proofs.Lays.n189 Tryz.prog Tryz.lays189_ren:={
 mixed:=by kernel_rfl
 f125:=Tryz.func64.trans (congrArg some (by kernel_rfl))
 f128:=Tryz.func104.trans (congrArg some (by kernel_rfl))
 f129:=Tryz.func105.trans (congrArg some (by kernel_rfl))
 f189:=Tryz.func30.trans (congrArg some (by kernel_rfl))
 f215:=Tryz.func132.trans (congrArg some (by kernel_rfl))
 f216:=Tryz.func101.trans (congrArg some (by kernel_rfl))
 f257:=Tryz.func63.trans (congrArg some (by kernel_rfl))
 f294:=Tryz.func95.trans (congrArg some (by kernel_rfl))
 f295:=Tryz.func96.trans (congrArg some (by kernel_rfl))
 f296:=Tryz.func97.trans (congrArg some (by kernel_rfl))
 f297:=Tryz.func98.trans (congrArg some (by kernel_rfl))
 f298:=Tryz.func99.trans (congrArg some (by kernel_rfl))
 f299:=Tryz.func100.trans (congrArg some (by kernel_rfl))
 f300:=Tryz.func102.trans (congrArg some (by kernel_rfl))
 f301:=Tryz.func103.trans (congrArg some (by kernel_rfl))
 f328:=Tryz.func127.trans (congrArg some (by kernel_rfl))
 f329:=Tryz.func128.trans (congrArg some (by kernel_rfl))
 f330:=Tryz.func129.trans (congrArg some (by kernel_rfl))
 f331:=Tryz.func130.trans (congrArg some (by kernel_rfl))
 f332:=Tryz.func131.trans (congrArg some (by kernel_rfl))
 f343:=Tryz.func143.trans (congrArg some (by kernel_rfl))
 t0:=Tryz.underlying0
 a0:=Tryz.isAgg0
 z0:=Tryz.sizeOf0
 v0:=Tryz.zeroValue0
 t3:=Tryz.underlying3
 a3:=Tryz.isAgg3
 z3:=Tryz.sizeOf3
 v3:=Tryz.zeroValue3
 t4:=Tryz.underlying4
 a4:=Tryz.isAgg4
 z4:=Tryz.sizeOf4
 v4:=Tryz.zeroValue4
 t5:=Tryz.underlying5
 a5:=Tryz.isAgg5
 z5:=Tryz.sizeOf5
 v5:=Tryz.zeroValue5
 t9:=Tryz.underlying9
 a9:=Tryz.isAgg9
 z9:=Tryz.sizeOf9
 v9:=Tryz.zeroValue9
 t28:=Tryz.underlying66
 a28:=Tryz.isAgg66
 z28:=Tryz.sizeOf66
 v28:=Tryz.zeroValue66
 t46:=Tryz.underlying121
 a46:=Tryz.isAgg121
 z46:=Tryz.sizeOf121
 v46:=Tryz.zeroValue121
 t51:=Tryz.underlying169
 a51:=Tryz.isAgg169
 z51:=Tryz.sizeOf169
 v51:=Tryz.zeroValue169
 t53:=Tryz.underlying108
 a53:=Tryz.isAgg108
 z53:=Tryz.sizeOf108
 v53:=Tryz.zeroValue108
 t131:=Tryz.underlying166
 a131:=Tryz.isAgg166
 z131:=Tryz.sizeOf166
 v131:=Tryz.zeroValue166
 t182:=Tryz.underlying160
 a182:=Tryz.isAgg160
 z182:=Tryz.sizeOf160
 v182:=Tryz.zeroValue160
 t183:=Tryz.underlying161
 a183:=Tryz.isAgg161
 z183:=Tryz.sizeOf161
 v183:=Tryz.zeroValue161
 t218:=Tryz.underlying199
 a218:=Tryz.isAgg199
 z218:=Tryz.sizeOf199
 v218:=Tryz.zeroValue199
 t222:=Tryz.underlying203
 a222:=Tryz.isAgg203
 z222:=Tryz.sizeOf203
 v222:=Tryz.zeroValue203
 t228:=Tryz.underlying219
 a228:=Tryz.isAgg219
 z228:=Tryz.sizeOf219
 v228:=Tryz.zeroValue219
 t229:=Tryz.underlying220
 a229:=Tryz.isAgg220
 z229:=Tryz.sizeOf220
 v229:=Tryz.zeroValue220 }
open Go.Sort Go.RowKit in
theorem Tryz.slices_Sort_int (blk off cap:Nat) (zs:List Int) (w:World) (hH:Holds (Value.int .i64) w blk off zs.toArray) (hblk:blk<w.heap.size) (hsz:zs.length<4611686018427387904) :
 Calls Tryz.prog 30 #[.slice (some ⟨blk,off,none⟩) zs.length cap] w λe w' =>
  e=.returned (.tuple #[])/\∃n os,w'=Go.Sort.grow (putRow (Value.int .i64) (Sort.ahead w n) blk off (zs.mergeSort λx y=>decide (x<=y)).toArray) os:=Any.slices_Sort_int Tryz.lays189 blk off cap zs w hH hblk hsz
def Tryz.laysNm220_ren:Go.Shelf.Ren:=⟨λ| 20=>31|n=>n,λ| 22=>66|3=>3|4=>4|0=>0|n=>n,λ| n=>n⟩
theorem Tryz.laysNm220:Go.Proofs.Lays2.n20 Tryz.prog Tryz.laysNm220_ren:={
 mixed:=by kernel_rfl
 f20:=Tryz.func31.trans (congrArg some (by kernel_rfl))
 t0:=Tryz.underlying0
 a0:=Tryz.isAgg0
 z0:=Tryz.sizeOf0
 v0:=Tryz.zeroValue0
 t3:=Tryz.underlying3
 a3:=Tryz.isAgg3
 z3:=Tryz.sizeOf3
 v3:=Tryz.zeroValue3
 t4:=Tryz.underlying4
 a4:=Tryz.isAgg4
 z4:=Tryz.sizeOf4
 v4:=Tryz.zeroValue4
 t22:=Tryz.underlying66
 a22:=Tryz.isAgg66
 z22:=Tryz.sizeOf66
 v22:=Tryz.zeroValue66
 i3:=by kernel_rfl }
open Go.RowKit Go.Lib Go.Sort in
open Go.RowKit Go.Lib Go.Sort in
theorem Tryz.slices_Compact_int (blk off cap:Nat) (zs:List Int) (w:World) (hH:Holds (Value.int .i64) w blk off zs.toArray) (hsz:zs.length<=9223372036854775807) (hcap:zs.length<=cap) :
 Calls Tryz.prog 31 #[.slice (some ⟨blk,off,none⟩) zs.length cap] w λe w'=>e=.returned (.slice (some ⟨blk,off,none⟩) (Lib.compact zs).length cap)/\∃q,w'=putRow (Value.int .i64) (Sort.ahead w q) blk off (Lib.compact zs++List.replicate (zs.length - (Lib.compact zs).length) 0).toArray:=Any.slices_Compact_int Tryz.laysNm220 blk off cap zs w hH hsz hcap
open Go.RowKit Go.Lib Go.Sort in
theorem Tryz.slices_Compact_int_empty (a:Option Addr) (cap:Nat) (w:World) :
 Calls Tryz.prog 31 #[.slice a 0 cap] w λe w'=>e=.returned (.slice a 0 cap)/\w'=w:=Any.slices_Compact_int_empty Tryz.laysNm220 a cap w
open Go.RowKit Go.Sort in
theorem Tryz.slices_Sort_int_none (p:Option Addr) (cap:Nat) (w:World) :
 Calls Tryz.prog 30 #[.slice p 0 cap] w λe w'=>e=.returned (.tuple #[])/\w'=w:=Any.slices_Sort_int_none Tryz.lays189 p cap w
end
section
open Go.Sort
def kp (l:List Int):List Int:=l.mergeSort λx y=>decide (x<=y)
def uA (l:List Int):Option (List Int):=if l.length<4611686018427387904 then some (kp l) else none
theorem tg {l y:List Int} (h:uA l=some y):l.length<4611686018427387904/\y=kp l:=by
 unfold uA at h;split at h
 . cases h;exact⟨by assumption,rfl⟩
 . cases h
theorem po (l:List Int):(kp l).length=l.length:=by unfold kp;simp
theorem tO {V:View} {xs:List Value} {l:List Int} (h:iH V hO xs l):xs=l.map (Value.int .i64):=by
 obtain⟨h1,h2⟩:=h;apply List.ext_getElem?;intro k;rw[i_]
 cases hk:l[k]? with
 |none=>rw[List.getElem?_eq_none_iff] at hk;rw[j_ (by rw[h1];show l.length * 1<=k;omega)];rfl
 |some x =>
  have h3:(xs.drop (k * 1)).take 1=[Value.int .i64 x]:=h2 k x hk;have h4:((xs.drop (k * 1)).take 1)[0]? = some (Value.int .i64 x):=by rw[h3];rfl
  rw[l_,if_pos o_,List.getElem?_drop] at h4;rw[show k * 1 + 0=k by omega] at h4;rw[h4];rfl
theorem uQ {V:View} (l:List Int):iH V hO (l.map (Value.int .i64)) l:=by refine⟨by rw[p_];show l.length=l.length * 1;omega,λk x hk=>?_⟩;show ((l.map (Value.int .i64)).drop (k * 1)).take 1=[Value.int .i64 x];rw[show k * 1=k by omega];have hl:k<l.length:=(q_.1 hk).1;rw[v_ (by rw[p_];exact hl),List.take_succ_cons,List.take_zero,List.getElem_map];rw[(q_.1 hk).2]
section
variable {w:World} {V:View} {G:List HObj} {w1:World} {A:Option Addr} {c:Nat} {l:List Int} {t:TypeId}
theorem sA (hh:Hp w V (row t hO A c l::G) w1) (hl:l≠[]):∃g,A=some ⟨g,0,none⟩/\Holds (Value.int .i64) w1 g 0 l.toArray/\g<w1.heap.size /\
 ∀(d:List Int) (n:Nat) (os:Array Obj),d.length=l.length->Hp w V (row t hO A c d::G) (Go.Sort.grow (putRow (Value.int .i64) (Go.Sort.ahead w1 n) g 0 d.toArray) os):=by
 obtain⟨h1,h2,h3⟩:=hh.objs _ f_;have hlp:0<l.length:=by cases l with|nil=>exact absurd rfl hl|cons=>simp
 rcases h3 with h3|⟨g,cur,fz,xs,h⟩
 . omega
 have hfz:=h.plain rfl;subst hfz;have hxs:=tO h.rep;have hsz:cur.size=c:=by rw[h.size];show c * 1=c;omega
 have hget:∀j (hj:j<l.length),cur[j]? = some (Value.int .i64 l[j]):=λj hj=>by
  have h4:(cur.toList.take (l.length * hO.size))[j]? = some (Value.int .i64 l[j]):=by rw[h.take,hxs,i_,a_ hj];rfl
  rw[l_,if_pos (show j<l.length * hO.size by show j<l.length * 1;omega)] at h4;rw[<-x_];exact h4
 have hgl:=jU h.heap;refine⟨g,h.adr,λj hj=>⟨?_,?_⟩,hgl,λd n os hd=>?_⟩
 . have hj':j<l.length:=by simpa using hj
   rw[Nat.zero_add,cell_of_row w1 g j cur t (0,0) h.heap,hget j hj'];simp[hj']
 . simp[World.frozen?,h.heap]
 . have hheap:(Go.Sort.grow (putRow (Value.int .i64) (Go.Sort.ahead w1 n) g 0 d.toArray) os).heap=(w1.heap.modify g (onCells (putCells (Value.int .i64) 0 d.toArray)))++os:=rfl;have hat:∀k,k<w1.heap.size->(Go.Sort.grow (putRow (Value.int .i64) (Go.Sort.ahead w1 n) g 0 d.toArray) os).heap[k]? = (w1.heap.modify g (onCells (putCells (Value.int .i64) 0 d.toArray)))[k]?:=λk hk=>by rw[hheap,Array.getElem?_append,if_pos (by simpa using hk)]
   have hset:=hh.turn (i:=0) (x:=row t hO A c l) (y:=row t hO A c d) (o:=some g) (w':=Go.Sort.grow (putRow (Value.int .i64) (Go.Sort.ahead w1 n) g 0 d.toArray) os) rfl
    ⟨rfl,rfl,rfl,by rw[hheap];simp,λk hk hne=>by
     rw[hat k hk,y_,if_neg (λe=>hne (by rw[e]))]⟩
    ⟨by omega,h2,.inr ⟨g,putCells (Value.int .i64) 0 d.toArray cur,(0,0),d.map (Value.int .i64),⟨h.adr,by rw[hat g hgl,y_,if_pos rfl,h.heap];rfl,λ_=>rfl,λi _=>by omega,
     by rw[<-hsz];show (putCells (Value.int .i64) 0 d.toArray cur).size=cur.size * 1;simp[putCells],?_,uQ d⟩⟩⟩
    (λb hb=>.inl hb) (λb e=>by
     injection e with e;subst e;show jd A c=some g
     unfold jd;rw[if_neg o_,h.adr];rfl)
   . exact hset
   . apply List.ext_getElem?;intro k;rw[l_,i_];show (if k<d.length * 1 then _ else _)=_;by_cases hk:k<d.length
     . rw[if_pos o_,x_];have hkc:k<cur.size:=o_;simp[putCells,hk,hkc]
     . rw[if_neg o_,j_ o_];rfl
theorem rD (hm:l.length<4611686018427387904) (hh:Hp w V (row t hO A c l::G) w1):Calls Tryz.prog 30 #[.slice A l.length c] w1 (λr w2=>r=.returned (.tuple #[])/\Hp w V (row t hO A c (kp l)::G) w2):=by
 by_cases hl:l=[]
 . subst hl;exact(Tryz.slices_Sort_int_none A c w1).mono (by rintro e w2 ⟨rfl,rfl⟩;exact⟨rfl,by simpa[kp] using hh⟩)
 . obtain⟨g,hA,hH,hg,hput⟩:=sA hh hl;subst hA;refine(Tryz.slices_Sort_int g 0 c l w1 hH hg hm).mono ?_;rintro e w2 ⟨rfl,n,os,rfl⟩;exact⟨rfl,hput _ n os (po l)⟩
theorem rX (l:List Int):(Lib.compact l).length<=l.length:=by unfold Lib.compact Lib.compactUpTo;rw[p_];exact Nat.le_trans (List.length_filter_le _ _) s_
theorem qd (hh:Hp w V (row t hO A c l::G) w1):Calls Tryz.prog 31 #[.slice A l.length c] w1 (λr w2=>r=.returned (.slice A (Lib.compact l).length c)/\Hp w V (row t hO A c (Lib.compact l)::G) w2):=by
 by_cases hl:l=[]
 . subst hl;exact(Tryz.slices_Compact_int_empty A c w1).mono (by rintro e w2 ⟨rfl,rfl⟩;exact⟨rfl,hh⟩)
 . have hlc:=(hh.objs _ f_).1;have hm:l.length<=maxLen:=by have h1:=hh.objs _ f_;exact Nat.le_trans h1.1 h1.2.1
   obtain⟨g,hA,hH,hg,hput⟩:=sA hh hl;subst hA;refine(Tryz.slices_Compact_int g 0 c l w1 hH (by unfold maxLen at hm;omega) hlc).mono ?_;rintro e w2 ⟨rfl,q,rfl⟩;refine⟨rfl,?_⟩;have h5:=hput (Lib.compact l++List.replicate (l.length - (Lib.compact l).length) 0) q #[] (by rw[List.length_append,List.length_replicate];have:=rX l;omega);rw[grow_empty] at h5;exact h5.turn (i:=0) (o:=none) rfl ⟨rfl,rfl,rfl,Nat.le_refl _,λ_ _ _=>rfl⟩ (nX (h5.objs _ f_) (List.prefix_append _ _)) (λb hb=>.inl hb) (λb e=>by cases e)
end
end
def jh (F:Nat) (p903:List DElem):Option ((List ByteArray)×Int×(List DNode)):=(nu F).bind λr1=>(iter (σ:=(List Int)×Int) (ρ:=(List Int)) (λx=>match x with
  |(x1,x2)=>bif decide (x2<(p903.length:Int)) then (idx p903 x2).bind λe1=>(grow 8 x1 [e1.made,e1.gone]).bind λ_=>some (.inl ((x1++[e1.made,e1.gone]),IntKind.i64.wrap (x2 + 1))) else some (.inr x1)) F ([],0)).bind λz4=>(uA z4).bind λ_=>(iter (σ:=Int×(List DNode)×Int) (ρ:=Int×(List DNode)) (λx=>match x with
  |(x3,x4,x5)=>bif decide (x5<((Lib.compact (kp z4)).length:Int)) then (idx (Lib.compact (kp z4)) x5).bind λe2=>(iter (σ:=Int×(List DNode)×Int) (ρ:=Int×(List DNode)) (λx=>match x with
     |(x6,x7,x8)=>bif decide (x8<(p903.length:Int)) then ((idx p903 x8).bind λe3=>bif ((e3.gone==e2)&&(decide ((0:Int)<e2))) then (lD F r1.1 [] x6 x7 e3.key e2).bind λr4=>some (r4.1,r4.2.1) else some (x6,x7):Option (Int×(List DNode))).bind λz=>match z with
        |(z9,z10)=>some (.inl (z9,z10,IntKind.i64.wrap (x8 + 1))) else some (.inr (x6,x7))) F (x3,x4,0)).bind λz=>match z with
     |(z7,z8)=>(iter (σ:=Int×(List DNode)×Int) (ρ:=Int×(List DNode)) (λx=>match x with
       |(x9,x10,x11)=>bif decide (x11<(p903.length:Int)) then ((idx p903 x11).bind λe4=>bif (e4.made==e2) then (j8 F r1.1 [] x9 x10 e4.key e4.val e2).bind λr5=>some (r5.1,r5.2.1) else some (x9,x10):Option (Int×(List DNode))).bind λz=>match z with
          |(z13,z14)=>some (.inl (z13,z14,IntKind.i64.wrap (x11 + 1))) else some (.inr (x9,x10))) F (z7,z8,0)).bind λz=>match z with
       |(z11,z12)=>some (.inl (z11,z12,IntKind.i64.wrap (x5 + 1))) else some (.inr (x3,x4))) F (r1.2.1,r1.2.2,0)).bind λz=>match z with
  |(z5,z6)=>some (r1.1,z5,z6)
theorem jt (F:Nat) (n:List DElem) (r:(List ByteArray)×Int×(List DNode)) (L:jh F n=some r) (w:World)  (q:Option Addr) (B:Nat) (aB:View) (o:List HObj) (w1:World) (ag:hJ aB eElem q B n) (b:Hp w aB o w1) :
 Calls Tryz.prog 8 #[.slice q n.length B] w1 (λe w2=>∃v,e=.returned v/\∃g A1 c1 A2 c2 V1,View.le aB V1/\hJ (made w V1) eStr A1 c1 r.1/\hJ V1 iy A2 c2 r.2.2/\v=.pointer (some ⟨g,0,none⟩)/\Hp w V1 ((box g 79 [.slice A1 r.1.length c1,.slice none 0 0,.int .i64 r.2.1,.slice A2 r.2.2.length c2])::o) w2):=by
 unfold jh at L;have cx:=b.base;refine T.iQ (l:=[sl q n B]) Tryz.func8 rfl rfl rfl ?_ b;clear b;refine au2 ?_;refine oc L λt bu L=>(T.ia (W1.cj (λd b=>qQ F t bu w aB o d (b.u)) ?_));rintro v d ⟨g,G,H,A4,c4,V2,ae,bX,rfl,b⟩;refine⟨_,_,b,?_⟩;clear b;refine au2 ?_;refine T.cb false (λh=>Bool.noConfusion h) (λ_=>?_);refine au3 ?_;let Z:=box g 79 [sl G t.1 H,sN,vi t.2.1,sl A4 t.2.2 c4];refine T.je (E:=eStr) (H':=(Z::o)) 1 b_ rfl (λ_ _ _ _ h=>h) (λQ Y bo=>?_);refine T.iM 3 hO ?_;refine oc L λk b0 L=>?_;refine T.iI (λa d=>∃y A,Fr 79 [(0,sl q n B),(3,pB g 0),(4,sl y k A)] a/\Hp w Q ((row 3 hO y A k)::Z::o) d) ?_ ?_;refine au1 ?_;refine T.iF (λs1 a d=>∃(x1:List Int) (x2:Int),s1=(x1,x2)/\∃A5 c5,Fr 79 [(0,sl q n B),(3,pB g 0),(4,sl A5 x1 c5),(16,sl q n B),(17,vi (n.length:Int)),(18,vi x2)] a/\Hp w Q ((row 3 hO A5 c5 x1)::Z::o) d) b0 ?_ ?_;exact ie;rintro s1 y1 O bS a d ⟨x1,x2,rfl,A5,c5,p,b⟩;revert p b;refine T.i ?_;(try dsimp only at O);refine au1 ?_;refine T.ik ?_;revert O;refine T.c (λbE O=>?_) (λbE O=>?_);refine au3 ?_;refine oc O λN bv O=>?_
 obtain⟨bK,bN,bk⟩:=ig bv;refine T.l (.pointer (some ((iz q).add (x2.toNat * 6)))) (λd b=>ib (e:=28) (s:=6) rfl rfl rfl k_ k_ bK bN ((hJ.mono ag (vt ae Y)).some_ bk c_)) (T.l (.agg #[vi N.key.pfs,vi N.key.obj,vi N.key.off,vi N.made,vi N.gone,.string N.val]) (λd b=>lN (λj u hj=>(b.cell_view (hJ.cellF (E:=eElem) (hJ.mono ag (vt ae Y)) bk j (λ_ _ _ h=>h) hj)))) ?_);refine T.N1 λb2=>?_;refine au1 ?_;refine T.NS λb3=>?_;refine oc O λy2 bw O=>?_;obtain⟨hb3_r,hb3_m,rfl⟩:=ii bw;refine T.ia (W1.a (E:=hO) (l:=x1) (m:=[N.made,N.gone]) 2 8 i3_ (λd b=>(hJ.sF (iE (E:=hO) (f:=(λx=>[vi x])) [N.made,N.gone] (λ_ _=>rfl) n_ (λj=>b.cellBox (i:=0) b_ j)))) hb3_r hb3_m (λA7 c7=>?_));refine au1 ?_;cases O;exact ie;refine au0 ?_;cases O;cases(bS _ rfl);exact ie;rintro a d ⟨y,A,p,b⟩;revert p b;refine T.i ?_;refine au1 ?_;refine oc L λy3 bx L=>?_;obtain⟨bZ,rfl⟩:=tg bx;refine T.ia (W1.ci 30 [sl y k A] (λv d=>v=.tuple #[]/\Hp w Q ((row 3 hO y A (kp k))::Z::o) d) (λd b=>(rD bZ (b.perm pz)).mono (by rintro e_ w_ ⟨rfl,h_⟩;exact⟨_,rfl,rfl,h_⟩)) ?_);rintro v d ⟨rfl,b⟩;refine⟨Q,((row 3 hO y A (kp k))::Z::o),b.perm pz,?_⟩;clear b;have bn:(kp k).length=k.length:=(by exact po _);refine T.io 4 (sl y (kp k) A) rfl (by simp +zetaDelta only[sl,bn]) ?_
 refine T.io 30 (sl y (kp k) A) rfl (by simp +zetaDelta only[sl,bn]) ?_;refine au2 ?_;let I:=row 3 hO y A (Lib.compact (kp k));refine T.ia (W1.ci 31 [sl y (kp k) A] (λv d=>v=.slice y (Lib.compact (kp k)).length A/\Hp w Q (I::Z::o) d) (λd b=>(qd (b.perm pz)).mono (by rintro e_ w_ ⟨rfl,h_⟩;exact⟨_,rfl,rfl,h_⟩)) ?_);rintro v d ⟨rfl,b⟩;refine⟨Q,(I::Z::o),b.perm pz,?_⟩;clear b;refine au0 ?_;refine oc L λq1 b6 L=>?_;refine T.iI (λa d=>∃(z5:Int) (z6:List DNode),q1=(z5,z6)/\∃A9 c9 V5,View.le Q V5/\hJ V5 iy A9 c9 z6/\Fr 79 [(3,pB g 0)] a/\Hp w V5 ((box g 79 [sl G t.1 H,sN,vi z5,sl A9 z6 c9])::o) d) ?_ ?_;refine au1 ?_;refine T.iF (λs2 a d=>∃(x3:Int) (x4:List DNode) (M:Int),s2=(x3,x4,M)/\∃A8 c8 V4,View.le Q V4/\hJ V4 iy A8 c8 x4/\Fr 79 [(0,sl q n B),(3,pB g 0),(33,sl y (Lib.compact (kp k)) A),(34,vi ((Lib.compact (kp k)).length:Int)),(35,vi M)] a/\Hp w V4 (I::(box g 79 [sl G t.1 H,sN,vi x3,sl A8 x4 c8])::o) d) b6 ?_ ?_;exact λa d p b=>⟨t.2.1,t.2.2,0,rfl,A4,c4,Q,vr,(hJ.mono bX (vt (iq _ _) Y)),(Fr.s p),(b.u)⟩;rintro s2 y4 K bT a d ⟨x3,x4,M,rfl,A8,c8,V4,af,cD,p,b⟩;revert p b;refine T.i ?_;(try dsimp only at K);refine au1 ?_;refine T.ik ?_;revert K;refine T.c (λbF K=>?_) (λbF K=>?_);refine au3 ?_;refine oc K λJ bz K=>?_;obtain⟨bO,bP,bl⟩:=ig bz;refine T.l (.pointer (some ((iz y).add (M.toNat * 1)))) (iR 0 (e:=3) (s:=1) bO bP bl) (T.l (vi J) (λd b=>iu rfl rfl k_ (hJ.wcellF0 (E:=hO) (b.row_slOk (i:=0) b_) bl (λ_ _ _ h=>h) rfl)) ?_);refine au2 ?_
 refine oc K λq2 b7 K=>?_;refine T.iI (λa d=>∃(z7:Int) (z8:List DNode),q2=(z7,z8)/\∃aO aV V7,View.le V4 V7/\hJ V7 iy aO aV z8/\Fr 79 [(0,sl q n B),(3,pB g 0),(8,vi J),(33,sl y (Lib.compact (kp k)) A),(34,vi ((Lib.compact (kp k)).length:Int)),(35,vi M)] a/\Hp w V7 (I::(box g 79 [sl G t.1 H,sN,vi z7,sl aO z8 aV])::o) d) ?_ ?_;refine au1 ?_;refine T.iF (λs3 a d=>∃(x6:Int) (x7:List DNode) (x8:Int),s3=(x6,x7,x8)/\∃aj am W,View.le V4 W/\hJ W iy aj am x7/\Fr 79 [(0,sl q n B),(3,pB g 0),(8,vi J),(33,sl y (Lib.compact (kp k)) A),(34,vi ((Lib.compact (kp k)).length:Int)),(35,vi M),(39,sl q n B),(40,vi (n.length:Int)),(41,vi x8)] a/\Hp w W (I::(box g 79 [sl G t.1 H,sN,vi x6,sl aj x7 am])::o) d) b7 ?_ ?_;exact ie;rintro s3 y5 U bU a d ⟨x6,x7,x8,rfl,aj,am,W,a3,bY,p,b⟩;let b9:=box g 79 [sl G t.1 H,sN,vi x6,sl aj x7 am];let cg:=I::b9::o;revert p b;refine T.i ?_;(try dsimp only at U);refine au1 ?_;refine T.ik ?_;revert U;refine T.c (λbG U=>?_) (λbG U=>?_);refine au0 ?_;refine oc U λq3 R U=>?_;refine T.iD (λa d=>∃(z9:Int) (aJ:List DNode),q3=(z9,aJ)/\∃aP aW V8,View.le W V8/\hJ V8 iy aP aW aJ/\Fr 79 [(0,sl q n B),(3,pB g 0),(8,vi J),(33,sl y (Lib.compact (kp k)) A),(34,vi ((Lib.compact (kp k)).length:Int)),(35,vi M),(39,sl q n B),(40,vi (n.length:Int)),(41,vi x8)] a/\Hp w V8 (I::(box g 79 [sl G t.1 H,sN,vi z9,sl aP aJ aW])::o) d) ?_ ?_;refine au2 ?_;refine oc R λC bA R=>?_;obtain⟨bQ,bR,bm⟩:=ig bA
 refine T.l (.pointer (some ((iz q).add (x8.toNat * 6)))) (λd b=>ib (e:=28) (s:=6) rfl rfl rfl k_ k_ bQ bR ((hJ.mono ag (vt (vt (vt ae Y) af) a3)).some_ bm c_)) ?_;let ch:=[vi C.key.pfs,vi C.key.obj,vi C.key.off,vi C.made,vi C.gone,.string C.val];refine T.l (.agg #[vi C.key.pfs,vi C.key.obj,vi C.key.off,vi C.made,vi C.gone,.string C.val]) (λd b=>lN (λj u hj=>(b.cell_view (hJ.cellF (E:=eElem) (hJ.mono ag (vt (vt (vt ae Y) af) a3)) bm j (λ_ _ _ h=>h) hj)))) ?_;refine T.N1 λb4=>?_;refine au0 ?_;let aF:=box b4 28 ch;refine T.iD (λa d=>Fr 79 [(0,sl q n B),(3,pB g 0),(8,vi J),(10,pB b4 0),(33,sl y (Lib.compact (kp k)) A),(34,vi ((Lib.compact (kp k)).length:Int)),(35,vi M),(39,sl q n B),(40,vi (n.length:Int)),(41,vi x8),(52,.bool ((C.gone==J)&&(decide ((0:Int)<J))))] a/\Hp w W (aF::cg) d) ?_ ?_;refine au1 ?_;cases cy:(C.gone==J);refine au0 ?_;exact ie;refine au0 ?_;exact ie;rintro a d ⟨p,b⟩;revert p b;refine T.i ?_;revert R;refine T.c (λbH R=>?_) (λbH R=>?_);refine au1 ?_;refine oc R λr4 bB R=>(T.ia (W1.ci 32 [pB g 0,.agg #[vi C.key.pfs,vi C.key.obj,vi C.key.off],vi J] (λv d=>∃ar aC V9,View.le W V9/\hJ V9 iy ar aC r4.2.1/\v=vi r4.2.2/\Hp w V9 ((box g 79 [sl G t.1 H,sN,vi r4.1,sl ar r4.2.1 aC])::aF::I::o) d) (λd b=>od F t.1 [] x6 x7 C.key J r4 bB w g G H none 0 aj am W (aF::I::o) d (hJ.mono bo (vt (iq _ _) (vt af a3))) (hJ.nil _ _) bY (b.ix 3 [2,0,1])) ?_));rintro v d ⟨ar,aC,V9,cw,cz,rfl,b⟩
 refine⟨V9,(aF::I::(box g 79 [sl G t.1 H,sN,vi r4.1,sl ar r4.2.1 aC])::o),b.ix 3 [1,2,0],?_⟩;clear b;refine au0 ?_;cases R;exact ie;refine au0 ?_;cases R;exact ie;rintro a d ⟨z9,aJ,rfl,aP,aW,V8,cv,cG,p,b⟩;(try dsimp only at U);revert p b;refine T.i ?_;refine au1 ?_;cases U;exact ie;refine au0 ?_;cases U;cases(bU _ rfl);exact ie;rintro a d ⟨z7,z8,rfl,aO,aV,V7,a4,cF,p,b⟩;(try dsimp only at K);revert p b;refine T.i ?_;refine au1 ?_;refine oc K λq4 b8 K=>?_;refine T.iI (λa d=>∃(a7:Int) (aK:List DNode),q4=(a7,aK)/\∃aQ aX ax,View.le V7 ax/\hJ ax iy aQ aX aK/\Fr 79 [(0,sl q n B),(3,pB g 0),(33,sl y (Lib.compact (kp k)) A),(34,vi ((Lib.compact (kp k)).length:Int)),(35,vi M)] a/\Hp w ax (I::(box g 79 [sl G t.1 H,sN,vi a7,sl aQ aK aX])::o) d) ?_ ?_;refine au1 ?_;refine T.iF (λs4 a d=>∃(x9:Int) (ao:List DNode) (ap:Int),s4=(x9,ao,ap)/\∃au aD X,View.le V7 X/\hJ X iy au aD ao/\Fr 79 [(0,sl q n B),(3,pB g 0),(8,vi J),(33,sl y (Lib.compact (kp k)) A),(34,vi ((Lib.compact (kp k)).length:Int)),(35,vi M),(59,sl q n B),(60,vi (n.length:Int)),(61,vi ap)] a/\Hp w X (I::(box g 79 [sl G t.1 H,sN,vi x9,sl au ao aD])::o) d) b8 ?_ ?_;exact ie;rintro s4 y6 V bV a d ⟨x9,ao,ap,rfl,au,aD,X,a2,bW,p,b⟩;revert p b;refine T.i ?_;(try dsimp only at V);refine au1 ?_;refine T.ik ?_;revert V;refine T.c (λbI V=>?_) (λbI V=>?_);refine au0 ?_;refine oc V λq5 S V=>?_
 refine T.iD (λa d=>∃(a8:Int) (aL:List DNode),q5=(a8,aL)/\∃aR aY ay,View.le X ay/\hJ ay iy aR aY aL/\Fr 79 [(0,sl q n B),(3,pB g 0),(8,vi J),(33,sl y (Lib.compact (kp k)) A),(34,vi ((Lib.compact (kp k)).length:Int)),(35,vi M),(59,sl q n B),(60,vi (n.length:Int)),(61,vi ap)] a/\Hp w ay (I::(box g 79 [sl G t.1 H,sN,vi a8,sl aR aL aY])::o) d) ?_ ?_;refine au2 ?_;refine oc S λD bC S=>?_;obtain⟨bL,bM,bj⟩:=ig bC;refine T.l (.pointer (some ((iz q).add (ap.toNat * 6)))) (λd b=>ib (e:=28) (s:=6) rfl rfl rfl k_ k_ bL bM ((hJ.mono ag (vt (vt (vt (vt ae Y) af) a4) a2)).some_ bj c_)) ?_;let ck:=[vi D.key.pfs,vi D.key.obj,vi D.key.off,vi D.made,vi D.gone,.string D.val];refine T.l (.agg #[vi D.key.pfs,vi D.key.obj,vi D.key.off,vi D.made,vi D.gone,.string D.val]) (λd b=>lN (λj u hj=>(b.cell_view (hJ.cellF (E:=eElem) (hJ.mono ag (vt (vt (vt (vt ae Y) af) a4) a2)) bj j (λ_ _ _ h=>h) hj)))) ?_;refine T.N1 λb5=>?_;refine au1 ?_;revert S;refine T.c (λbJ S=>?_) (λbJ S=>?_);refine au1 ?_;refine oc S λr5 bD S=>?_;let a5:=box b5 28 ck;refine T.ia (W1.ci 22 [pB g 0,.agg #[vi D.key.pfs,vi D.key.obj,vi D.key.off],.string D.val,vi J] (λv d=>∃av aE ak,View.le X ak/\hJ ak iy av aE r5.2.1/\v=vi r5.2.2/\Hp w ak ((box g 79 [sl G t.1 H,sN,vi r5.1,sl av r5.2.1 aE])::a5::I::o) d) (λd b=>kB F t.1 [] x9 ao D.key D.val J r5 bD w g G H none 0 au aD X (a5::I::o) d (hJ.mono bo (vt (iq _ _) (vt (vt af a4) a2))) (hJ.nil _ _) bW (b.ix 3 [2,0,1])) ?_)
 rintro v d ⟨av,aE,ak,ct,cC,rfl,b⟩;refine⟨ak,(a5::I::(box g 79 [sl G t.1 H,sN,vi r5.1,sl av r5.2.1 aE])::o),b.ix 3 [1,2,0],?_⟩;clear b;refine au0 ?_;cases S;exact ie;refine au0 ?_;cases S;exact ie;rintro a d ⟨a8,aL,rfl,aR,aY,ay,cs,cB,p,b⟩;(try dsimp only at V);revert p b;refine T.i ?_;refine au1 ?_;cases V;exact ie;refine au0 ?_;cases V;cases(bV _ rfl);exact ie;rintro a d ⟨a7,aK,rfl,aQ,aX,ax,cr,cA,p,b⟩;(try dsimp only at K);revert p b;refine T.i ?_;refine au1 ?_;cases K;exact ie;refine au0 ?_;cases K;cases(bT _ rfl);exact ie;rintro a d ⟨z5,z6,rfl,A9,c9,V5,cu,cE,p,b⟩;(try dsimp only at L);revert p b;refine T.i ?_;refine au1 ?_;have hres:=Option.some.inj L;subst hres;exact il
def mg (F:Nat) (p0:(List DElem)) (p1:DKey) (p2:ByteArray):Option (Bool):=(kC 1 (t_ #[97])).bind λr1=>(jh F [r1]).bind λr3=>((j6 F (DTree.mk r3.2.1 r3.2.2)).bind λr4=>some r4.1:Option ((List DElem))).bind λz1=>bif ((z1.length:Int) !=1) then some false else (((grow 16 ([]:List ByteArray) r3.1).bind λ_=>(grow 24 ([]:List DWrite) ([]:List DWrite)).bind λ_=>some ():Option (Unit)).bind λ_=>some ():Option (Unit)).bind λ_=>(j9 F (([]:List ByteArray)++r3.1) (([]:List DWrite)++([]:List DWrite))).bind λr7=>((j6 F (DTree.mk r7.2.2.1 r7.2.2.2)).bind λr9=>some r9.1:Option ((List DElem))).bind λz2=>bif ((z2.length:Int) !=0) then some false else (kV F p0).bind λr10=>bif (r10 !=0) then some true else (jh F p0).bind λr11=>(jn F r11.1 [] r11.2.1 r11.2.2).bind λr12=>bif (r12.2.2.2 !=0) then some false else (((grow 16 ([]:List ByteArray) r12.1).bind λ_=>(grow 24 ([]:List DWrite) r12.2.1).bind λ_=>some ():Option (Unit)).bind λ_=>some ():Option (Unit)).bind λ_=>(px F p0).bind λr15=>bif (r15.2 !=0) then some false else (j8 F r12.1 r12.2.1 r11.2.1 r11.2.2 p1 p2 (if (2147483647:Int)<(IntKind.i64.wrap (r15.1 + 1)) then 2147483647 else IntKind.i64.wrap (r15.1 + 1))).bind λr16=>(ld F r12.1 r12.2.1 r16.1 r16.2.1).bind λr17=>(((grow 16 ([]:List ByteArray) r12.1).bind λ_=>(grow 24 ([]:List DWrite) r12.2.1).bind λ_=>some ():Option (Unit)).bind λ_=>some ():Option (Unit)).bind λ_=>(j9 F (([]:List ByteArray)++r12.1) (([]:List DWrite)++r12.2.1)).bind λr20=>((((grow 16 ([]:List ByteArray) r12.1).bind λ_=>(grow 24 ([]:List DWrite) r12.2.1).bind λ_=>some ():Option (Unit)).bind λ_=>some ():Option (Unit)).bind λ_=>(lK F (DDisk.mk (([]:List ByteArray)++r12.1) (([]:List DWrite)++r12.2.1)) (DDisk.mk (([]:List ByteArray)++r12.1) (([]:List DWrite)++r12.2.1))).bind λr24=>bif r24 then ((j6 F (DTree.mk r20.2.2.1 r20.2.2.2)).bind λr25=>some r25.1:Option ((List DElem))).bind λz4=>(jg F z4 p0).bind λr26=>some r26 else some false:Option (Bool)).bind λz3=>some z3
theorem rK (F:Nat) (U:(List DElem)) (K:DKey) (p2:ByteArray) (r:Bool) (o:mg F U K p2=some r) (w:World) (W:Option Addr) (X:Nat) (bR:hJ (vw w) eElem W X U) :
 Calls Tryz.prog 6 #[.slice W U.length X,.agg #[.int .i64 K.pfs,.int .i64 K.obj,.int .i64 K.off],.string p2] w (jI (vSc eBool) r w):=by
 unfold mg at o;refine T.iB (l:=[sl W U X,.agg #[vi K.pfs,vi K.obj,vi K.off],.string p2]) Tryz.func6 rfl rfl rfl ?_;refine au1 ?_;refine T.N1 λb1=>?_;refine au1 ?_;refine oc o λr1 cY o=>(T.ia (W1.w1 (vAg eElem) r1 9 #[vi 1,.string (t_ #[97])] (λg b=>kR 1 (t_ #[97]) r1 cY g) ?_));intro u V1 L s;obtain rfl:=lf _ _ _ s;refine T.NS λb2=>?_;refine T.mA (E:=eElem) (f:=DElem.cells) (l:=[r1]) 0 _ b_ (λ_ _=>rfl) (Nat.succ_pos _) n_ rfl ?_;let S:=box b1 24 [vi K.pfs,vi K.obj,vi K.off];refine T.iS (H':=((row 28 eElem (some ⟨b2,0,none⟩) ([r1].length) [r1])::S::[])) b_ ?_;refine T.je (E:=eElem) (H':=(S::[])) 0 b_ rfl (λ_ _ _ _ h=>h) (λV2 M dD=>?_);refine oc o λp di o=>(T.ia (W1.ci 8 [sl (some ⟨b2,0,none⟩) [r1] ([r1].length)] (λv g=>∃b3 A2 c2 A3 c3 V3,View.le V2 V3/\hJ (made w V3) eStr A2 c2 p.1/\hJ V3 iy A3 c3 p.2.2/\v=pB b3 0/\Hp w V3 ((box b3 79 [sl A2 p.1 c2,sN,vi p.2.1,sl A3 p.2.2 c3])::S::[]) g) (λg b=>jt F [r1] p di w (some ⟨b2,0,none⟩) ([r1].length) V2 (S::[]) g (hJ.mono dD (iq _ _)) (b.u)) ?_));rintro v g ⟨b3,A2,c2,A3,c3,V3,N,dH,dI,rfl,b⟩;refine⟨_,_,b,?_⟩;clear b;refine au2 ?_;refine oc o λz1 ch o=>?_;let dS:=box b3 79 [sl A2 p.1 c2,sN,vi p.2.1,sl A3 p.2.2 c3];let al:=dS::S::[];refine T.ia (W1.im 10 [pB b3 0] (λv g=>∃A4 c4 V4,View.le V3 V4/\hJ (made w V4) eElem A4 c4 z1/\v=.slice A4 z1.length c4/\Hp w V4 al g) Tryz.func10 rfl rfl k_ (λ_=>k_) rfl ?_ ?_);refine au2 ?_
 refine oc ch λr4 dn ch=>(T.ia (W1.w1 (vT2 (vSc (ku eElem)) (vSc hO)) r4 33 #[.agg #[vi p.2.1,sl A3 p.2.2 c3]] (λg b=>jL F (DTree.mk p.2.1 p.2.2) r4 dn g A3 c3 (hJ.mono dI b.view)) ?_));intro u V5 eP s;obtain⟨u1,u2,rfl,dL,dM⟩:=iP s;obtain⟨A5,c5,rfl,e1⟩:=i9 dL;obtain rfl:=ic _ _ _ dM;refine au1 ?_;cases ch;exact il;rintro v g ⟨A4,c4,V4,J,e0,rfl,b⟩;refine⟨V4,al,b,?_⟩;clear b;refine au0 ?_;revert o;refine T.c (λdv o=>?_) (λdv o=>?_);refine au1 ?_;cases o;exact il;refine au1 ?_;refine oc o λq1 bO o=>(T.ia (W1.im 14 [pB b3 0] (λv g=>q1=()/\∃A6 c6 A7 c7,v=.agg #[sl A7 (([]:List ByteArray)++p.1) c7,sl A6 (([]:List DWrite)++([]:List DWrite)) c6]/\Hp w V4 ((row 46 ij A6 c6 (([]:List DWrite)++([]:List DWrite)))::(row 9 eStr A7 c7 (([]:List ByteArray)++p.1))::al) g) Tryz.func14 rfl rfl k_ (λ_=>k_) rfl ?_ ?_));refine au1 ?_;refine T.N1 λb4=>?_;refine au1 ?_;refine oc bO λq2 bc bO=>?_;let dT:=box b4 40 [sN,sN];let ct:=dT::al;refine T.ia (W1.im 40 [.agg #[sl A2 p.1 c2,sN]] (λv g=>q2=()/\∃A8 c8 A9 c9,v=.agg #[sl A9 (([]:List ByteArray)++p.1) c9,sl A8 (([]:List DWrite)++([]:List DWrite)) c8]/\Hp w V4 ((row 46 ij A8 c8 (([]:List DWrite)++([]:List DWrite)))::(row 9 eStr A9 c9 (([]:List ByteArray)++p.1))::ct) g) Tryz.func40 rfl rfl k_ (λ_=>k_) rfl ?_ ?_);refine au1 ?_;refine T.N1 λb5=>?_;refine T.N1 λb6=>?_;refine au0 ?_;refine T.ik ?_
 refine T.iN ((box b5 40 [sl A2 p.1 c2,sN])::ct) k_ ?_;refine ta [0,1,3,4] ?_;refine TA.j 2 rfl (W1.i8 9 eStr (oc bc λy1 dp bc=>?_));obtain⟨hb4_r,hb4_m,rfl⟩:=ii dp;refine(W1.a (E:=eStr) (l:=([]:List ByteArray)) (m:=p.1) 0 16 i9_ (λg b=>(hJ.sF (hJ.mono (hJ.mono dH (vt (iq _ _) J)) b.view))) hb4_r hb4_m (λeb ez=>?_));refine TA.on (Hp.q vr (vt (vt (vt L M) N) J)) (TA.j 5 rfl (W1.i8 46 ij (oc bc λy2 dq bc=>?_)));obtain⟨hb5_r,hb5_m,rfl⟩:=ii dq;refine(W1.a (E:=ij) (l:=([]:List DWrite)) (m:=([]:List DWrite)) 0 24 oR (λg b=>⟨[],⟨by simp,λk x hk=>by simp at hk⟩,λj u s=>by simp at s⟩) hb5_r hb5_m (λec eA=>?_));refine TA.on (Hp.q vr (vt (vt (vt L M) N) J)) ?_;refine ta [6] ?_;refine tj [7] ?_;refine TA.d ?_;cases bc;exact il;rintro v g ⟨rfl,A8,c8,A9,c9,rfl,b⟩;(try dsimp only at bO);refine⟨V4,((row 46 ij A8 c8 (([]:List DWrite)++([]:List DWrite)))::(row 9 eStr A9 c9 (([]:List ByteArray)++p.1))::ct),b,?_⟩;clear b;refine au0 ?_;cases bO;exact il;rintro v g ⟨rfl,A6,c6,A7,c7,rfl,b⟩;(try dsimp only at o);let cD:=row 46 ij A6 c6 (([]:List DWrite)++([]:List DWrite));refine⟨V4,(cD::(row 9 eStr A7 c7 (([]:List ByteArray)++p.1))::al),b,?_⟩;clear b;refine T.je (E:=eStr) (H':=(cD::al)) 1 b_ rfl (λ_ _ _ _ h=>h) (λV6 Y dJ=>?_);refine T.je (E:=ij) (H':=al) 0 b_ rfl (λ_ _ _ _ h=>h) (λV7 R dK=>?_)
 refine oc o λy dr o=>(T.ia (W1.ci 19 [.agg #[sl A7 (([]:List ByteArray)++p.1) c7,sl A6 (([]:List DWrite)++([]:List DWrite)) c6]] (λv g=>∃b7 bj bz bk bA am av V8,View.le V7 V8/\hJ (made w V8) eStr bj bz y.1/\hJ (made w V8) ij bk bA y.2.1/\v=.tuple #[pB b7 0,vi 0]/\Hp w V8 ((box b7 79 [sl bj y.1 bz,sl bk y.2.1 bA,vi y.2.2.1,sl am y.2.2.2 av])::(row 97 (eAt w iy) am av y.2.2.2)::al) g) (λg b=>ko F (([]:List ByteArray)++p.1) (([]:List DWrite)++([]:List DWrite)) y dr w A7 c7 A6 c6 V7 al g (hJ.mono dJ (vt (iq _ _) R)) (hJ.mono dK (iq _ _)) (b.u)) ?_));rintro v g ⟨b7,bj,bz,bk,bA,am,av,V8,Z,e2,eQ,rfl,b⟩;refine⟨_,_,b,?_⟩;clear b;refine au2 ?_;refine oc o λz2 ck o=>?_;let cE:=box b7 79 [sl bj y.1 bz,sl bk y.2.1 bA,vi y.2.2.1,sl am y.2.2.2 av];let dU:=row 97 (eAt w iy) am av y.2.2.2;let d9:=dU::S::[];let a1:=cE::d9;refine T.ia (W1.im 10 [pB b7 0] (λv g=>∃bZ cd V9,View.le V8 V9/\hJ (made w V9) eElem bZ cd z2/\v=.slice bZ z2.length cd/\Hp w V9 a1 g) Tryz.func10 rfl rfl k_ (λ_=>k_) rfl ?_ ?_);refine au2 ?_;refine oc ck λr9 ds ck=>(T.ia (W1.w1 (vT2 (vSc (ku eElem)) (vSc hO)) r9 33 #[.agg #[vi y.2.2.1,sl am y.2.2.2 av]] (λg b=>jL F (DTree.mk y.2.2.1 y.2.2.2) r9 ds g am av (b.row_slOk (i:=1) b_).ofAt) ?_));intro u en eK s;obtain⟨u3,u4,rfl,dN,dO⟩:=iP s
 obtain⟨ed,eB,rfl,eS⟩:=i9 dN;obtain rfl:=ic _ _ _ dO;refine au1 ?_;cases ck;exact il;rintro v g ⟨bZ,cd,V9,aa,eR,rfl,b⟩;refine⟨V9,a1,b,?_⟩;clear b;refine au0 ?_;revert o;refine T.c (λdw o=>?_) (λdw o=>?_);refine au1 ?_;cases o;exact il;refine au2 ?_;refine oc o λcF dt o=>(T.ia (W1.w1 (vSc hO) cF 11 #[sl W U X] (λg b=>kL F U cF dt g W X (hJ.mono (hJ.mono bR (vt (vt (vt (vt (vt (vt (vt L M) N) J) Y) R) Z) aa)) b.view)) ?_));intro u cu ad s;obtain rfl:=ic _ _ _ s;refine au0 ?_;revert o;refine T.c (λdx o=>?_) (λdx o=>?_);refine au1 ?_;cases o;exact il;refine au1 ?_;refine oc o λI du o=>(T.ia (W1.ci 8 [sl W U X] (λv g=>∃G bl bB an aw ar,View.le cu ar/\hJ (made w ar) eStr bl bB I.1/\hJ ar iy an aw I.2.2/\v=pB G 0/\Hp w ar ((box G 79 [sl bl I.1 bB,sN,vi I.2.1,sl an I.2.2 aw])::a1) g) (λg b=>jt F U I du w W X cu a1 g (hJ.mono bR (vt (vt (vt (vt (vt (vt (vt (vt L M) N) J) Y) R) Z) aa) ad)) (b.u)) ?_));rintro v g ⟨G,bl,bB,an,aw,ar,ai,dB,cA,rfl,b⟩;refine⟨_,_,b,?_⟩;clear b;refine au2 ?_;refine oc o λn cZ o=>?_;let bX:=[pB G 0];refine T.ia (W1.ci 13 bX (λv g=>∃A C B D b0 ce ab,View.le ar ab/\hJ ab eStr A C n.1/\hJ ab ij B D n.2.1/\hJ (made w ab) iC b0 ce n.2.2.1/\v=.tuple #[sl b0 n.2.2.1 ce,vi n.2.2.2]/\Hp w ab ((box G 79 [sl A n.1 C,sl B n.2.1 D,vi I.2.1,sl an I.2.2 aw])::a1) g) (λg b=>jx F I.1 [] I.2.1 I.2.2 n cZ w G bl bB none 0 an aw ar a1 g (hJ.mono dB (iq _ _)) (hJ.nil _ _) cA (b.u)) ?_)
 rintro v g ⟨A,C,B,D,b0,ce,ab,ae,bf,bg,eT,rfl,b⟩;refine⟨_,_,b,?_⟩;clear b;refine au1 ?_;revert o;refine T.c (λdy o=>?_) (λdy o=>?_);refine au1 ?_;cases o;exact il;refine au1 ?_;refine oc o λq3 bP o=>?_;let cB:=box G 79 [sl A n.1 C,sl B n.2.1 D,vi I.2.1,sl an I.2.2 aw];let bU:=cB::S::[];refine T.ia (W1.im 14 bX (λv g=>q3=()/\∃ao ax ap ay,v=.agg #[sl ap (([]:List ByteArray)++n.1) ay,sl ao (([]:List DWrite)++n.2.1) ax]/\Hp w ab ((row 46 ij ao ax (([]:List DWrite)++n.2.1))::(row 9 eStr ap ay (([]:List ByteArray)++n.1))::bU) g) Tryz.func14 rfl rfl k_ (λ_=>k_) rfl ?_ ?_);refine au1 ?_;refine T.N1 λb9=>?_;refine au1 ?_;refine oc bP λq4 bd bP=>?_;let cl:=box b9 40 [sN,sN];refine T.ia (W1.im 40 [.agg #[sl A n.1 C,sl B n.2.1 D]] (λv g=>q4=()/\∃bm bC bn bD,v=.agg #[sl bn (([]:List ByteArray)++n.1) bD,sl bm (([]:List DWrite)++n.2.1) bC]/\Hp w ab ((row 46 ij bm bC (([]:List DWrite)++n.2.1))::(row 9 eStr bn bD (([]:List ByteArray)++n.1))::cl::bU) g) Tryz.func40 rfl rfl k_ (λ_=>k_) rfl ?_ ?_);refine au1 ?_;refine T.N1 λcO=>?_;refine T.N1 λev=>?_;refine au0 ?_;refine T.ik ?_;refine T.iN ((box cO 40 [sl A n.1 C,sl B n.2.1 D])::cl::cB::cE::S::[]) k_ ?_;refine ta [0,1,3,4] ?_;refine TA.j 2 rfl (W1.i8 9 eStr (oc bd λy3 c0 bd=>?_));obtain⟨hb11_r,hb11_m,rfl⟩:=ii c0;refine(W1.a (E:=eStr) (l:=([]:List ByteArray)) (m:=n.1) 0 16 i9_ (λg b=>(hJ.sF (hJ.mono bf b.view))) hb11_r hb11_m (λee eC=>?_))
 refine TA.on (Hp.q vr (vt (vt (vt (vt (vt (vt (vt (vt (vt (vt L M) N) J) Y) R) Z) aa) ad) ai) ae)) (TA.j 5 rfl (W1.i8 46 ij (oc bd λy4 da bd=>?_)));obtain⟨hb12_r,hb12_m,rfl⟩:=ii da;refine(W1.a (E:=ij) (l:=([]:List DWrite)) (m:=n.2.1) 0 24 oR (λg b=>(hJ.sF (hJ.mono bg b.view))) hb12_r hb12_m (λef eD=>?_));refine TA.on (Hp.q vr (vt (vt (vt (vt (vt (vt (vt (vt (vt (vt L M) N) J) Y) R) Z) aa) ad) ai) ae)) ?_;refine ta [6] ?_;refine tj [7] ?_;refine TA.d ?_;cases bd;exact il;rintro v g ⟨rfl,bm,bC,bn,bD,rfl,b⟩;(try dsimp only at bP);refine⟨ab,((row 46 ij bm bC (([]:List DWrite)++n.2.1))::(row 9 eStr bn bD (([]:List ByteArray)++n.1))::cl::bU),b,?_⟩;clear b;refine au0 ?_;cases bP;exact il;rintro v g ⟨rfl,ao,ax,ap,ay,rfl,b⟩;(try dsimp only at o);let aB:=row 46 ij ao ax (([]:List DWrite)++n.2.1);let aC:=row 9 eStr ap ay (([]:List ByteArray)++n.1);refine⟨ab,(aB::aC::bU),b,?_⟩;clear b;refine T.N1 λcP=>?_;refine au1 ?_;refine oc o λa0 db o=>(T.ia (W1.w1 (vT2 (vSc hO) (vSc hO)) a0 21 #[sl W U X] (λg b=>qN F U a0 db g W X (hJ.mono (hJ.mono bR (vt (vt (vt (vt (vt (vt (vt (vt (vt (vt L M) N) J) Y) R) Z) aa) ad) ai) ae)) b.view)) ?_));intro u cv H s;obtain rfl:=(kg.t2 ic ic) _ _ _ s;refine au2 ?_;revert o;refine T.c (λdz o=>?_) (λdz o=>?_);refine au1 ?_
 cases o;exact il;refine au1 ?_;refine oc o λak dc o=>?_;let aZ:=box cP 40 [sl ap (([]:List ByteArray)++n.1) ay,sl ao (([]:List DWrite)++n.2.1) ax];let d3:=aC::S::[];let d4:=aB::d3;let bV:=aZ::d4;refine T.ia (W1.ci 22 [pB G 0,.agg #[vi K.pfs,vi K.obj,vi K.off],.string p2,vi (if (2147483647:Int)<(i64.wrap (a0.1 + 1)) then 2147483647 else i64.wrap (a0.1 + 1))] (λv g=>∃a2 a8 au,View.le cv au/\hJ au iy a2 a8 ak.2.1/\v=vi ak.2.2/\Hp w au ((box G 79 [sl A n.1 C,sl B n.2.1 D,vi ak.1,sl a2 ak.2.1 a8])::bV) g) (λg b=>kB F n.1 n.2.1 I.2.1 I.2.2 K p2 (if (2147483647:Int)<(i64.wrap (a0.1 + 1)) then 2147483647 else i64.wrap (a0.1 + 1)) ak dc w G A C B D an aw cv bV g (hJ.mono bf H) (hJ.mono bg H) (hJ.mono cA (vt ae H)) (b.ix 4 [3,0,1,2])) ?_);rintro v g ⟨a2,a8,au,Q,dC,rfl,b⟩;refine⟨au,(aZ::aB::aC::(box G 79 [sl A n.1 C,sl B n.2.1 D,vi ak.1,sl a2 ak.2.1 a8])::S::[]),b.ix 4 [1,2,3,0],?_⟩;clear b;refine au1 ?_;refine oc o λaD dd o=>(T.ia (W1.ci 27 [pB G 0,sN] (λv g=>∃bo bE ag,View.le au ag/\hJ ag iy bo bE aD.2.1/\v=vi aD.2.2/\Hp w ag ((box G 79 [sl A n.1 C,sl B n.2.1 D,vi aD.1,sl bo aD.2.1 bE])::bV) g) (λg b=>nv F n.1 n.2.1 ak.1 ak.2.1 aD dd w G A C B D a2 a8 au bV g (hJ.mono bf (vt H Q)) (hJ.mono bg (vt H Q)) dC (b.ix 4 [3,0,1,2])) ?_));rintro v g ⟨bo,bE,ag,af,eU,rfl,b⟩
 let cm:=box G 79 [sl A n.1 C,sl B n.2.1 D,vi aD.1,sl bo aD.2.1 bE];refine⟨ag,(aZ::aB::aC::cm::S::[]),b.ix 4 [1,2,3,0],?_⟩;clear b;refine au1 ?_;refine oc o λq5 bQ o=>?_;let d5:=aC::cm::[];let d6:=aB::d5;let V:=aZ::d6;refine T.ia (W1.im 14 bX (λv g=>q5=()/\∃aG aR aH aS,v=.agg #[sl aH (([]:List ByteArray)++n.1) aS,sl aG (([]:List DWrite)++n.2.1) aR]/\Hp w ag ((row 46 ij aG aR (([]:List DWrite)++n.2.1))::(row 9 eStr aH aS (([]:List ByteArray)++n.1))::V) g) Tryz.func14 rfl rfl k_ (λ_=>k_) rfl ?_ ?_);refine au1 ?_;refine T.N1 λcQ=>?_;refine au1 ?_;refine oc bQ λq6 be bQ=>?_;let cn:=box cQ 40 [sN,sN];refine T.ia (W1.im 40 [.agg #[sl A n.1 C,sl B n.2.1 D]] (λv g=>q6=()/\∃bp bF bq bG,v=.agg #[sl bq (([]:List ByteArray)++n.1) bG,sl bp (([]:List DWrite)++n.2.1) bF]/\Hp w ag ((row 46 ij bp bF (([]:List DWrite)++n.2.1))::(row 9 eStr bq bG (([]:List ByteArray)++n.1))::cn::V) g) Tryz.func40 rfl rfl k_ (λ_=>k_) rfl ?_ ?_);refine au1 ?_;refine T.N1 λcR=>?_;refine T.N1 λew=>?_;refine au0 ?_;refine T.ik ?_;refine T.iN ((box cR 40 [sl A n.1 C,sl B n.2.1 D])::cn::aZ::aB::aC::cm::S::[]) k_ ?_;refine ta [0,1,3,4] ?_;refine TA.j 2 rfl (W1.i8 9 eStr (oc be λy5 de be=>?_));obtain⟨hb16_r,hb16_m,rfl⟩:=ii de;refine(W1.a (E:=eStr) (l:=([]:List ByteArray)) (m:=n.1) 0 16 i9_ (λg b=>(hJ.sF (hJ.mono (hJ.mono bf (vt (vt H Q) af)) b.view))) hb16_r hb16_m (λeg eE=>?_))
 refine TA.on (Hp.q vr (vt (vt (vt (vt (vt (vt (vt (vt (vt (vt (vt (vt (vt L M) N) J) Y) R) Z) aa) ad) ai) ae) H) Q) af)) (TA.j 5 rfl (W1.i8 46 ij (oc be λy6 df be=>?_)));obtain⟨hb17_r,hb17_m,rfl⟩:=ii df;refine(W1.a (E:=ij) (l:=([]:List DWrite)) (m:=n.2.1) 0 24 oR (λg b=>(hJ.sF (hJ.mono (hJ.mono bg (vt (vt H Q) af)) b.view))) hb17_r hb17_m (λeh eF=>?_));refine TA.on (Hp.q vr (vt (vt (vt (vt (vt (vt (vt (vt (vt (vt (vt (vt (vt L M) N) J) Y) R) Z) aa) ad) ai) ae) H) Q) af)) ?_;refine ta [6] ?_;refine tj [7] ?_;refine TA.d ?_;cases be;exact il;rintro v g ⟨rfl,bp,bF,bq,bG,rfl,b⟩;(try dsimp only at bQ);refine⟨ag,((row 46 ij bp bF (([]:List DWrite)++n.2.1))::(row 9 eStr bq bG (([]:List ByteArray)++n.1))::cn::V),b,?_⟩;clear b;refine au0 ?_;cases bQ;exact il;rintro v g ⟨rfl,aG,aR,aH,aS,rfl,b⟩;(try dsimp only at o);let cC:=row 46 ij aG aR (([]:List DWrite)++n.2.1);refine⟨ag,(cC::(row 9 eStr aH aS (([]:List ByteArray)++n.1))::V),b,?_⟩;clear b;refine T.je (E:=eStr) (H':=(cC::V)) 1 b_ rfl (λ_ _ _ _ h=>h) (λeo aX dE=>?_);refine T.je (E:=ij) (H':=V) 0 b_ rfl (λ_ _ _ _ h=>h) (λcw aA dF=>?_)
 refine oc o λt dg o=>(T.ia (W1.ci 19 [.agg #[sl aH (([]:List ByteArray)++n.1) aS,sl aG (([]:List DWrite)++n.2.1) aR]] (λv g=>∃a6 bs bH bt bI aq az ac,View.le cw ac/\hJ (made w ac) eStr bs bH t.1/\hJ (made w ac) ij bt bI t.2.1/\v=.tuple #[pB a6 0,vi 0]/\Hp w ac ((box a6 79 [sl bs t.1 bH,sl bt t.2.1 bI,vi t.2.2.1,sl aq t.2.2.2 az])::(row 97 (eAt w iy) aq az t.2.2.2)::V) g) (λg b=>ko F (([]:List ByteArray)++n.1) (([]:List DWrite)++n.2.1) t dg w aH aS aG aR cw V g (hJ.mono dE (vt (iq _ _) aA)) (hJ.mono dF (iq _ _)) (b.u)) ?_));rintro v g ⟨a6,bs,bH,bt,bI,aq,az,ac,aY,eV,eW,rfl,b⟩;refine⟨_,_,b,?_⟩;clear b;refine au0 ?_;refine oc o λz3 O o=>?_;refine T.iD (λa g=>∃cb,View.le ac cb/\Fr 97 [(6,.bool z3)] a/\Hp w cb [] g) ?_ ?_;refine T.iN (aZ::aB::aC::[]) k_ ?_;refine ta [0,1,2,3,4,5,6,7,9] ?_;refine TA.a [8] ⟨?_,trivial⟩;refine oc O λq7 bN O=>?_;let bS:=box a6 79 [sl bs t.1 bH,sl bt t.2.1 bI,vi t.2.2.1,sl aq t.2.2.2 az];let dR:=row 97 (eAt w iy) aq az t.2.2.2;let d7:=dR::V;let bW:=bS::d7;refine TA.br rfl (W1.im 14 bX (λv g=>q7=()/\∃aI aT aJ aU,v=.agg #[sl aJ (([]:List ByteArray)++n.1) aU,sl aI (([]:List DWrite)++n.2.1) aT]/\Hp w ac ((row 46 ij aI aT (([]:List DWrite)++n.2.1))::(row 9 eStr aJ aU (([]:List ByteArray)++n.1))::bW) g) Tryz.func14 rfl rfl k_ (λ_=>k_) rfl ?_ ?_);refine au1 ?_;refine T.N1 λcS=>?_;refine au1 ?_;refine oc bN λq8 bb bN=>?_;let co:=box cS 40 [sN,sN]
 refine T.ia (W1.im 40 [.agg #[sl A n.1 C,sl B n.2.1 D]] (λv g=>q8=()/\∃bu bJ bv bK,v=.agg #[sl bv (([]:List ByteArray)++n.1) bK,sl bu (([]:List DWrite)++n.2.1) bJ]/\Hp w ac ((row 46 ij bu bJ (([]:List DWrite)++n.2.1))::(row 9 eStr bv bK (([]:List ByteArray)++n.1))::co::bW) g) Tryz.func40 rfl rfl k_ (λ_=>k_) rfl ?_ ?_);refine au1 ?_;refine T.N1 λcT=>?_;refine T.N1 λex=>?_;refine au0 ?_;refine T.ik ?_;refine T.iN ((box cT 40 [sl A n.1 C,sl B n.2.1 D])::co::bS::V) k_ ?_;refine ta [0,1,3,4] ?_;refine TA.j 2 rfl (W1.i8 9 eStr (oc bb λy7 dh bb=>?_));obtain⟨hb19_r,hb19_m,rfl⟩:=ii dh;refine(W1.a (E:=eStr) (l:=([]:List ByteArray)) (m:=n.1) 0 16 i9_ (λg b=>(hJ.sF (hJ.mono (hJ.mono bf (vt (vt (vt (vt (vt H Q) af) aX) aA) aY)) b.view))) hb19_r hb19_m (λei eG=>?_));refine TA.on (Hp.q vr (vt (vt (vt (vt (vt (vt (vt (vt (vt (vt (vt (vt (vt (vt (vt (vt L M) N) J) Y) R) Z) aa) ad) ai) ae) H) Q) af) aX) aA) aY)) (TA.j 5 rfl (W1.i8 46 ij (oc bb λy8 dj bb=>?_)));obtain⟨hb20_r,hb20_m,rfl⟩:=ii dj;refine(W1.a (E:=ij) (l:=([]:List DWrite)) (m:=n.2.1) 0 24 oR (λg b=>(hJ.sF (hJ.mono (hJ.mono bg (vt (vt (vt (vt (vt H Q) af) aX) aA) aY)) b.view))) hb20_r hb20_m (λej eH=>?_));refine TA.on (Hp.q vr (vt (vt (vt (vt (vt (vt (vt (vt (vt (vt (vt (vt (vt (vt (vt (vt L M) N) J) Y) R) Z) aa) ad) ai) ae) H) Q) af) aX) aA) aY)) ?_;refine ta [6] ?_;refine tj [7] ?_;refine TA.d ?_;cases bb
 exact il;rintro v g ⟨rfl,bu,bJ,bv,bK,rfl,b⟩;(try dsimp only at bN);refine⟨ac,((row 46 ij bu bJ (([]:List DWrite)++n.2.1))::(row 9 eStr bv bK (([]:List ByteArray)++n.1))::co::bW),b,?_⟩;clear b;refine au0 ?_;cases bN;exact il;rintro v g ⟨rfl,aI,aT,aJ,aU,rfl,b⟩;(try dsimp only at O);let cp:=row 46 ij aI aT (([]:List DWrite)++n.2.1);let cq:=row 9 eStr aJ aU (([]:List ByteArray)++n.1);let d8:=cq::bW;let cs:=cp::d8;refine⟨ac,cs,b,?_⟩;clear b;have bi:=vt (vt (vt (vt (vt (vt (vt (vt (vt (vt (vt (vt (vt (vt (vt (vt L M) N) J) Y) R) Z) aa) ad) ai) ae) H) Q) af) aX) aA) aY;refine TA.on (Hp.q vr bi) (TA.a [10] ⟨?_,trivial⟩);refine oc O λcr dk O=>(TA.br rfl (W1.w1 (vSc eBool) cr 18 #[.agg #[sl aJ (([]:List ByteArray)++n.1) aU,sl aI (([]:List DWrite)++n.2.1) aT],.agg #[sl ap (([]:List ByteArray)++n.1) ay,sl ao (([]:List DWrite)++n.2.1) ax]] (λg b=>oC F (DDisk.mk (([]:List ByteArray)++n.1) (([]:List DWrite)++n.2.1)) (DDisk.mk (([]:List ByteArray)++n.1) (([]:List DWrite)++n.2.1)) cr dk g aJ aU (b.row_slOk (i:=1) b_) aI aT (b.row_slOk (i:=0) b_) ap ay (b.row_slOk (i:=6) b_) ao ax (b.row_slOk (i:=5) b_)) ?_));intro u cM ba s;obtain rfl:=jH _ _ _ s;refine TA.on (Hp.q ba bi) ?_;refine ta [11,12] ?_;cases cz:cr;rw[cz,cond_false] at O;refine TA.mN (Hp.q ba bi) λbT=>?_;refine TA.om 13 rfl k_ k_ k_ (λ_ _ _ h=>h) bT k_ k_ ?_;refine TA.om 14 rfl k_ k_ k_ (λ_ _ _ h=>h) bT k_ k_ ?_;refine TA.om 15 rfl k_ k_ k_ (λ_ _ _ h=>h) bT k_ k_ ?_
 refine TA.om 16 rfl k_ k_ k_ (λ_ _ _ h=>h) bT k_ k_ ?_;refine ta [17,18] ?_;refine TA.d ?_;refine T.kr (E:=iy) (H':=(cp::cq::bS::V)) 3 b_ rfl (λep eM eX=>?_);cases O;exact ie;rw[cz,cond_true] at O;refine ta [13,15] ?_;refine TA.a [14] ⟨?_,trivial⟩;refine oc O λz4 cj O=>(TA.br rfl (W1.im 10 [pB a6 0] (λv g=>∃a3 a9 a4,View.le cM a4/\hJ (made w a4) eElem a3 a9 z4/\v=.slice a3 z4.length a9/\Hp w a4 cs g) Tryz.func10 rfl rfl k_ (λ_=>k_) rfl ?_ ?_));refine au2 ?_;refine oc cj λcG dl cj=>(T.ia (W1.w1 (vT2 (vSc (ku eElem)) (vSc hO)) cG 33 #[.agg #[vi t.2.2.1,sl aq t.2.2.2 az]] (λg b=>jL F (DTree.mk t.2.2.1 t.2.2.2) cG dl g aq az (b.row_slOk (i:=3) b_).ofAt) ?_));intro u eq eN s;obtain⟨u5,u6,rfl,dP,dQ⟩:=iP s;obtain⟨ek,eI,rfl,eY⟩:=i9 dP;obtain rfl:=ic _ _ _ dQ;refine au1 ?_;cases cj;exact il;rintro v g ⟨a3,a9,a4,cg,dG,rfl,b⟩;refine⟨a4,cs,b,?_⟩;clear b;refine TA.on (Hp.q (vt ba cg) bi) (TA.a [16] ⟨?_,trivial⟩);refine oc O λcH dm O=>(TA.br rfl (W1.w1 (vSc eBool) cH 20 #[sl a3 z4 a9,sl W U X] (λg b=>ji F z4 U cH dm g a3 a9 (hJ.mono (hJ.mono dG (iq _ _)) b.view) W X (hJ.mono (hJ.mono bR (vt (vt (vt (vt (vt (vt (vt (vt (vt (vt (vt (vt (vt (vt (vt (vt (vt (vt L M) N) J) Y) R) Z) aa) ad) ai) ae) H) Q) af) aX) aA) aY) ba) cg)) b.view)) ?_));intro u er cX s;obtain rfl:=jH _ _ _ s;refine TA.on (Hp.q (vt (vt ba cg) cX) bi) ?_;refine ta [17,18] ?_;refine TA.d ?_
 refine T.kr (E:=iy) (H':=(cp::cq::bS::V)) 3 b_ rfl (λes eO eZ=>?_);cases O;exact ie;rintro a g ⟨cb,eL,hf,b⟩;revert hf b;refine T.i ?_;cases o;exact il
section
def ofL (l:List UInt8):ByteArray:=⟨l.toArray⟩
theorem GV (s:ByteArray):∃l,s=ofL l:=⟨s.data.toList,rfl⟩
@[simp] theorem DN (l:List UInt8):(ofL l).size=l.length:=rfl
theorem H1 {a b:List UInt8}:ofL a=ofL b↔a=b:=by
 constructor
 . intro h;have:=congrArg (λs:ByteArray=>s.data.toList) h;simpa[ofL] using this
 . rintro rfl;rfl
theorem Aa (l:List UInt8)(i:Int):qP (ofL l) i=if 0<=i then l[i.toNat]? else none:=by
 unfold qP;split
 . show (if h:i.toNat<l.toArray.size then some l.toArray[i.toNat] else none)=_;by_cases hi:i.toNat<l.length
   . rw[dif_pos (by simpa using hi),a_ hi];rfl
   . rw[dif_neg (by simpa using hi),j_ o_]
 . rfl
theorem Hk (a b:List UInt8):ofL a++ofL b=ofL (a++b):=by
 have:(ofL a++ofL b).data=(ofL (a++b)).data:=by rw[ByteArray.data_append];simp[ofL]
 exact ByteArray.ext this
theorem xn {a b:List UInt8}(h:a.length+b.length<=9223372036854775807):m5 (ofL a) (ofL b)=some (ofL (a++b)):=by unfold m5;rw[if_pos (by simpa using h),Hk]
theorem Gg (l:List UInt8)(lo hi:Nat):(ofL l).extract lo hi=ofL ((l.take hi).drop lo):=by apply ByteArray.ext;rw[ByteArray.data_extract];simp[ofL,List.extract,List.drop_take]
theorem w9 {l:List UInt8}{lo hi:Int}(h0:0<=lo)(h1:lo<=hi)(h2:hi<=l.length):km (ofL l) lo hi=some (ofL ((l.take hi.toNat).drop lo.toNat)):=by unfold km;rw[if_pos ⟨h0,h1,by simpa using h2⟩,Gg]
theorem K5 (a b:List UInt8):seq (ofL a) (ofL b)=(a==b):=by rw[Bool.eq_iff_iff,tF,H1];simp
theorem GM (l:List Int):lW l=ofL (l.map λn=>d_ n.toNat):=by
 have key:∀(l:List Int) (s:ByteArray),l.foldl (λs n=>s.push (d_ n.toNat)) s=ofL (s.data.toList++l.map λn=>d_ n.toNat):=by
  intro l
  induction l with
  |nil=>intro s;simp[ofL]
  |cons n l ih=>intro s;rw[List.foldl_cons,ih];congr 1;simp
 simpa[lW] using key l ByteArray.empty
theorem zb (l:List UInt8):lW (l.map λb=>(b.toNat:Int))=ofL l:=by
 rw[GM,List.map_map];congr 1;have:(λb:UInt8=>d_ ((b.toNat:Int)).toNat)=id:=by funext b;simp
 rw[show (λn:Int=>d_ n.toNat)∘(λb:UInt8=>(b.toNat:Int))=id from this,List.map_id]
theorem vT {α β:Type}(a:α)(f:α->Option β):(some a).bind f=f a:=by
 have h:∀o:Option α,o=some a->o.bind f=f a:=λo ho=>by rw[ho];rfl
 exact h _ rfl
theorem wh {α:Type}(a b:α):(bif true then a else b)=a:=by
 have h:∀c:Bool,c=true->(bif c then a else b)=a:=λc hc=>by rw[hc];rfl
 exact h _ rfl
theorem vY {α:Type}(a b:α):(bif false then a else b)=b:=by
 have h:∀c:Bool,c=false->(bif c then a else b)=b:=λc hc=>by rw[hc];rfl
 exact h _ rfl
theorem Bd {σ ρ:Type}{f:σ->Option (σ⊕ρ)}(g:Nat->σ)(W:Nat->Option ρ)(n:Nat){res:ρ}(hs:∀k,k<n->f (g k)=some (match W k with|some r=>.inr r|none=>.inl (g (k+1))))(he:f (g n)=some (.inr res)) :
 ∀(m k N:Nat),k+m=n->m<N->iter f N (g k)=some (((List.range' k m).findSome? W).getD res)
 |0,k,N,hk,hN=>by obtain⟨N,rfl⟩:∃M,N=M+1:=⟨N-1,by omega⟩;rw[iter,show k=n by omega,he];rfl
 |m+1,k,N,hk,hN=>by
  obtain⟨N,rfl⟩:∃M,N=M+1:=⟨N-1,by omega⟩;rw[iter,hs k o_,List.range'_succ,g_]
  cases hW:W k with
  |some r=>rfl
  |none=>exact Bd g W n hs he m (k+1) N o_ o_
theorem wv {n:Int}(h0:-9223372036854775808<=n)(h1:n<=9223372036854775807):IntKind.i64.wrap n=n:=by rw[IntKind.wrap_i64];omega
theorem LH (n:Int):IntKind.u8.wrap n=n % 256:=by simp[IntKind.wrap,IntKind.bits,IntKind.signed]
theorem FD (n:Int):IntKind.u16.wrap n=n % 65536:=by simp[IntKind.wrap,IntKind.bits,IntKind.signed]
end
section
def stp (x:BitVec 16):BitVec 16:=if x.msb then (x <<< 1) ^^^ 0x1021#16 else x <<< 1
def I0 (b:Bool):BitVec 16:=if b then 0x1021#16 else 0#16
theorem Fv (x:BitVec 16):stp x=(x <<< 1) ^^^ I0 x.msb:=by unfold stp I0;split <;> simp_all
theorem J8 (a b:Bool):I0 (a ^^ b)=I0 a ^^^ I0 b:=by cases a <;> cases b <;> rfl
theorem LW (a b c d:BitVec 16):(a ^^^ b) ^^^ (c ^^^ d)=(a ^^^ c) ^^^ (b ^^^ d):=by rw[BitVec.xor_assoc,<-BitVec.xor_assoc b c d,BitVec.xor_comm b c,BitVec.xor_assoc c b d,<-BitVec.xor_assoc]
theorem K9 (x y:BitVec 16):stp (x ^^^ y)=stp x ^^^ stp y:=by rw[Fv,Fv,Fv,BitVec.msb_xor,J8,BitVec.shiftLeft_xor_distrib,LW]
def fd (x:BitVec 16)(b:Bool):BitVec 16:=stp (x ^^^ (if b then 0x8000#16 else 0#16))
def D6 (x:BitVec 16)(l:List Bool):BitVec 16:=l.foldl fd x
def JQ (b:Bool):BitVec 16:=if b then 0x8000#16 else 0#16
theorem FY (x:BitVec 16)(l m:List Bool):D6 x (l++m)=D6 (D6 x l) m:=List.foldl_append
def FC:List Bool->BitVec 16
 |[]=>0#16
 |b::l=>JQ b ^^^ (FC l >>> 1)
def Fw:Nat->BitVec 16->BitVec 16
 |0,x=>x
 |n+1,x=>Fw n (stp x)
theorem GF:∀(l:List Bool) (i:Nat),i+l.length<16->(FC l).getLsbD i=false
 |[],i,_=>by simp[FC]
 |b::l,i,h=>by
  have h1:=GF l (i+1) (by simp at h;omega)
  have h2:(JQ b).getLsbD i=false:=by
   cases b
   . simp[JQ]
   . have:i<15:=(by simp at h;omega);simp only[JQ,if_true];rw[show (0x8000#16:BitVec 16)=BitVec.twoPow 16 15 from rfl,BitVec.getLsbD_twoPow];simp;omega
  simp[FC,h1,h2,Nat.add_comm 1 i]
theorem Kq {y:BitVec 16}(h0:y.getLsbD 0=false):stp (y >>> 1)=y:=by
 have hm:(y >>> 1).msb=false:=by rw[BitVec.msb_eq_getLsbD_last];simp
 rw[Fv,hm];simp only[I0,Bool.false_eq_true,if_false,BitVec.xor_zero];apply BitVec.eq_of_getLsbD_eq;intro i hi;rcases Nat.eq_zero_or_pos i with rfl|hp
 . simp;simpa using h0
 . rw[BitVec.getLsbD_shiftLeft,BitVec.getLsbD_ushiftRight];simp[hi,show ¬ i<1 by omega,show 1+(i-1)=i by omega]
theorem Ek:∀(l:List Bool) (x:BitVec 16),l.length<=16->D6 x l=Fw l.length (x ^^^ FC l)
 |[],x,_=>by simp[D6,Fw,FC]
 |b::l,x,h=>by
  have hl:l.length<=15:=by simpa using h
  show D6 (fd x b) l=Fw l.length (stp (x ^^^ (JQ b ^^^ (FC l >>> 1))));rw[Ek l _ o_,<-BitVec.xor_assoc,K9,Kq (GF l 0 o_)];rfl
def FN (b:UInt8):List Bool:=(List.range 8).map λj=>b.toNat.testBit (7-j)
def Dp (l:List UInt8):List Bool:=l.flatMap FN
def crc (l:List UInt8):BitVec 16:=D6 0#16 (Dp l)
theorem BU (b:UInt8):(FN b).length=8:=by simp[FN]
theorem ER (a b:List UInt8):Dp (a++b)=Dp a++Dp b:=List.flatMap_append
theorem HH (b:UInt8):FC (FN b)=BitVec.ofNat 16 b.toNat <<< 8:=by
 have:∀n,n<256->FC ((List.range 8).map λj=>n.testBit (7-j))=BitVec.ofNat 16 n <<< 8:=by decide +kernel
 exact this _ b.toNat_lt
def Jv (x:BitVec 16)(b:UInt8):BitVec 16:=Fw 8 (x ^^^ (BitVec.ofNat 16 b.toNat <<< 8))
theorem Im (x:BitVec 16)(b:UInt8):D6 x (FN b)=Jv x b:=by rw[Ek _ _ (by rw[BU];decide),BU,HH];rfl
theorem GS (a b:List UInt8):crc (a++b)=D6 (crc a) (Dp b):=by rw[crc,ER,FY];rfl
end
section
theorem obs {α:Type _}{β:Type _}(a:α)(f:α->Option β):(some a).bind f=f a:=rfl
theorem gge {α:Type _}{l:List α}{i:Nat}(h:i<l.length):l[i]? = some l[i]:=a_ h
theorem ggs {α:Type _}{l:List α}{i:Nat}{a:α}:l[i]? = some a↔∃h:i<l.length,l[i]=a:=q_
theorem w64 {n:Int}(h0:-9223372036854775808<=n)(h1:n<=9223372036854775807):IntKind.i64.wrap n=n:=by rw[IntKind.wrap_i64];omega
theorem vX {α:Type}(l:List α)(k:Nat):idx l (k:Int)=l[k]?:=by unfold idx;rw[if_neg o_,Int.toNat_natCast]
theorem wq {α:Type}{b:Nat}{l m:List α}(h:(l.length+m.length)*b<=140737488355328)(hm:l.length+m.length<=9223372036854775807):grow b l m=some (l++m):=by unfold grow;rw[if_pos ⟨h,by unfold maxLen;omega⟩]
theorem CC {α:Type}{l:List α}{lo hi:Int}(h0:0<=lo)(h1:lo<=hi)(h2:hi<=l.length):js l lo hi=some ((l.take hi.toNat).drop lo.toNat):=by unfold js;rw[if_pos ⟨h0,h1,h2⟩]
theorem xg {α:Type}{l:List α}{k:Nat}(h:k<=l.length):js l 0 (k:Int)=some (l.take k):=by rw[CC o_ o_ o_];simp
theorem wJ {α:Type}{l:List α}{k:Nat}(h:k<=l.length):js l (k:Int) (l.length:Int)=some (l.drop k):=by rw[CC o_ o_ o_];simp
theorem wK {c:Int}(h:c≠0):(c !=0)=true:=by simpa using h
theorem wt {c:Int}(h:c=0):(c !=0)=false:=by simp[h]
section loops
variable {σ ρ α τ:Type} {F:Nat}
theorem HU {f:σ->Option (σ⊕ρ)}(g:Nat->σ){r:ρ}:∀(n:Nat) (N:Nat),(∀k,k<n->f (g k)=some (.inl (g (k+1))))->f (g n)=some (.inr r)->n<N->iter f N (g 0)=some r
 |0,N,_,he,hN=>by obtain⟨N,rfl⟩:∃M,N=M+1:=⟨N-1,by omega⟩;rw[iter,he]
 |n+1,N,hs,he,hN=>by obtain⟨N,rfl⟩:∃M,N=M+1:=⟨N-1,by omega⟩;rw[iter,hs 0 o_];exact HU (λk=>g (k+1)) n N (λk hk=>hs (k+1) o_) he o_
theorem zG [h:Big F]{n:Nat}(hn:n<=9223372036854775807):n<F:=by have:=h.le;omega
theorem wB [Big F]{f:σ->Option (σ⊕ρ)}(g:Nat->σ)(n:Nat){r:ρ}{s:σ}(h0:s=g 0)(hn:n<=9223372036854775807)(hs:∀k,k<n->f (g k)=some (.inl (g (k+1))))(he:f (g n)=some (.inr r)):iter f F s=some r:=by rw[h0];exact HU g n F hs he (zG hn)
theorem JU [Big F]{f:σ->Option (σ⊕ρ)}(g:Nat->σ){r:ρ}(n:Nat)(hs:∀k,k<n->f (g k)=some (.inl (g (k+1))))(he:f (g n)=some (.inr r))(hn:n<=9223372036854775807){s:σ}(h0:s=g 0):iter f F s=some r :=
 wB g n h0 hn hs he
theorem yv [Big F]{f:σ->Option (σ⊕ρ)}{k:ρ->Option τ}{q:τ}(g:Nat->σ){r:ρ}(n:Nat){s:σ}(hn:n<=9223372036854775807)(h0:s=g 0)(hk:k r=some q)(hs:∀k,k<n->f (g k)=some (.inl (g (k+1))))(he:f (g n)=some (.inr r)) :
 (iter f F s).bind k=some q:=by
 rw[wB g n h0 hn hs he];exact hk
theorem xX [Big F]{f:Int->Option (Int⊕ρ)}(l:List α)(w:Nat->α->Option ρ)(res:ρ)(hn:l.length<=9223372036854775807){s:Int}(h0:s=0)
 (hs:∀(k:Nat) (e:α),l[k]? = some e->(∀j x,j<k->l[j]? = some x->w j x=none)->f (k:Int)=some (match w k e with|some r=>.inr r|none=>.inl ((k:Int)+1)))
 (he:f (l.length:Int)=some (.inr res)):iter f F s=some (((l.zipIdx).findSome? λp=>w p.2 p.1).getD res):=by
 subst h0
 have key:∀(m k N:Nat),k+m=l.length->m<N->(∀j x,j<k->l[j]? = some x->w j x=none)->iter f N (k:Int)=some ((((l.drop k).zipIdx k).findSome? λp=>w p.2 p.1).getD res):=by
  intro m
  induction m with
  |zero=>intro k N hk hN _;obtain⟨N,rfl⟩:∃M,N=M+1:=⟨N-1,by omega⟩;rw[iter,show k=l.length by omega,he,List.drop_length];rfl
  |succ m ih =>
   intro k N hk hN hb;obtain⟨N,rfl⟩:∃M,N=M+1:=⟨N-1,by omega⟩;have hkl:k<l.length:=o_;rw[iter,hs k l[k] (a_ hkl) hb,v_ hkl,List.zipIdx_cons,g_];dsimp only
   cases hw:w k l[k] with
   |some r=>rfl
   |none =>
    refine ih (k+1) N o_ o_ λj x hj hx=>?_;rcases Nat.lt_or_ge j k with h1|h1
    . exact hb j x h1 hx
    . obtain rfl:j=k:=o_;rw[a_ hkl] at hx;obtain rfl:=Option.some.inj hx;exact hw
 have:=key l.length 0 F o_ (zG hn) (λj x hj=>by omega);rw[List.drop_zero] at this;exact this
theorem Aj [Big F]{f:Int->Option (Int⊕ρ)}(l:List α)(w:α->Option ρ)(res:ρ)(hn:l.length<=9223372036854775807){s:Int}(h0:s=0)
 (hs:∀(k:Nat) (e:α),l[k]? = some e->f (k:Int)=some (match w e with|some r=>.inr r|none=>.inl ((k:Int)+1)))
 (he:f (l.length:Int)=some (.inr res)):iter f F s=some ((l.findSome? w).getD res):=by
 rw[xX l (λ_ e=>w e) res hn h0 (λk e hk _=>hs k e hk) he];congr 2
 have:∀(l:List α) (n:Nat),(l.zipIdx n).findSome? (λp=>w p.1)=l.findSome? w:=by
  intro l
  induction l with
  |nil=>intro n;rfl
  |cons a l ih=>intro n;rw[List.zipIdx_cons,g_,g_,ih]
 exact this l 0
theorem yr {l:List α}{w:Nat->α->Option ρ}:(l.zipIdx.findSome? λp=>w p.2 p.1)=none↔∀k e,l[k]? = some e->w k e=none:=by
 rw[List.findSome?_eq_none_iff];constructor
 . intro h k e hk;exact h (e,k) (by rw[u_];exact hk)
 . rintro h ⟨e,k⟩ hp;rw[u_] at hp;exact h k e hp
theorem zQ {l:List α}{w:Nat->α->Option ρ}{r:ρ}(h:(l.zipIdx.findSome? λp=>w p.2 p.1)=some r):∃k e,l[k]? = some e/\w k e=some r:=by obtain⟨⟨e,k⟩,hp,hr⟩:=List.exists_of_findSome?_eq_some h;rw[u_] at hp;exact⟨k,e,hp,hr⟩
theorem xo [Big F]{f:τ×Int->Option ((τ×Int)⊕ρ)}(l:List α)(st:τ->α->τ)(a0:τ){r:ρ}(hn:l.length<=9223372036854775807){s:τ×Int}(h0:s=(a0,0))
 (hs:∀(k:Nat) (e:α),l[k]? = some e->f ((l.take k).foldl st a0,(k:Int))=some (.inl (st ((l.take k).foldl st a0) e,(k:Int)+1)))
 (he:f (l.foldl st a0,(l.length:Int))=some (.inr r)):iter f F s=some r:=by
 refine wB (λk=>((l.take k).foldl st a0,(k:Int))) l.length (by rw[h0];rfl) hn (λk hk=>?_) (by rw[List.take_length];exact he);rw[hs k l[k] (a_ hk),List.take_add_one,a_ hk,Option.toList_some,List.foldl_append];simp
theorem DK [Big F]{f:σ->Option (σ⊕ρ)}{K:ρ->Option τ}(R:Nat->σ->τ->Prop)
 (hR:∀m s q,R m s q->(∃r,f s=some (.inr r)/\K r=some q)\/∃m' s',m'<m/\f s=some (.inl s')/\R m' s' q) {m:Nat} {s:σ} {q:τ} (hm:m<=9223372036854775807) (h:R m s q):(iter f F s).bind K=some q:=by
 have key:∀(n N m:Nat) (s:σ),m<=n->n<N->R m s q->(iter f N s).bind K=some q:=by
  intro n
  induction n with
  |zero =>
   intro N m s hmn hN hs;obtain⟨N,rfl⟩:∃M,N=M+1:=⟨N-1,by omega⟩;rcases hR m s q hs with ⟨r,h1,h2⟩|⟨m',s',h1,h2,h3⟩
   . rw[iter,h1];exact h2
   . omega
  |succ n ih =>
   intro N m s hmn hN hs;obtain⟨N,rfl⟩:∃M,N=M+1:=⟨N-1,by omega⟩;rcases hR m s q hs with ⟨r,h1,h2⟩|⟨m',s',h1,h2,h3⟩
   . rw[iter,h1];exact h2
   . rw[iter,h2];exact ih N m' s' o_ o_ h3
 exact key m F m s (Nat.le_refl _) (zG hm) h
theorem Dy {β:Type}(g:α->β)(l:List α):∀a:List β,l.foldl (λa e=>a++[g e]) a=a++l.map g:=by
 induction l with
 |nil=>intro a;simp
 |cons x l ih=>intro a;rw[List.foldl_cons,ih];simp
def Lc (p:Nat->Bool):Nat->Nat
 |0=>0
 |n+1=>if p (Lc p n) then Lc p n else if p n then n else n+1
end loops
end
end Go.Proofs.YtnofgfobljadbaaGreat
