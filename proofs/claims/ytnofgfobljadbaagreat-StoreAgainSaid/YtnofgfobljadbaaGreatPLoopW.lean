/- Contracts of library functions at this program, laid by the shelf in plain words. Their conditions: as each states. -/
import Derived.Shelf.Sort.Plain
import Derived.Ground.Names2Prog
import Derived.Shelf.Slices.CompactI
import Derived.Shelf.Slices.In.SortNone
import Derived.Test.YtnofgfobljadbaaGreatProg
import Derived.Test.YtnofgfobljadbaaGreatFrSLW
open List renaming getElem?_eq_getElem→a_, mem_cons_self→f_, findSome?_cons→g_, getElem?_map→i_, getElem?_eq_none→j_, getElem?_take→l_, length_map→p_, getElem?_eq_some_iff→q_, foldl_cons→u_, mem_zipIdx_iff_getElem?→v_, drop_eq_getElem_cons→x_
open UInt8 renaming ofNat→d_
open ByteArray renaming mk→t_
open Array renaming getElem?_toList→y_, getElem?_modify→z_
namespace Go.Proofs.YtnofgfobljadbaaGreat
open IntKind (i64)
set_option linter.unusedSimpArgs false
set_option linter.unusedVariables false
set_option maxHeartbeats 4000000
set_option maxRecDepth 100000
section
open Go.Shelf
def Tryz.lays189_ren:Go.Shelf.Ren:=⟨λ| 189=>30|125=>64|257=>63|128=>104|129=>105|294=>95|295=>96|296=>97|297=>98|298=>99|299=>100|216=>101|300=>102|301=>103|328=>127|329=>128|330=>129|331=>130|332=>131|215=>132|343=>143|n=>n,λ| 28=>66|3=>3|46=>121|0=>0|51=>169|53=>108|4=>4|183=>161|182=>160|131=>166|5=>5|9=>9|218=>199|222=>203|228=>219|229=>220|n=>n,λ| n=>n⟩
theorem Tryz.lays189:Go.Proofs.Lays.n189 Tryz.prog Tryz.lays189_ren:={
 mixed:=by kernel_rfl
 f125:=Tryz.func64.trans (congrArg some (by kernel_rfl))
 f128:=Tryz.func104.trans (congrArg some (by kernel_rfl))
 f129:=Tryz.func105.trans (congrArg some (by kernel_rfl))
 f189:=Tryz.func30.trans (congrArg some (by kernel_rfl))
 f215:=Tryz.func132.trans (congrArg some (by kernel_rfl))
 f216:=Tryz.func101.trans (congrArg some (by kernel_rfl))
 f257:=Tryz.func63.trans (congrArg some (by kernel_rfl))
 f294:=Tryz.func95.trans (congrArg some (by kernel_rfl))
 f295:=Tryz.func96.trans (congrArg some (by kernel_rfl))
 f296:=Tryz.func97.trans (congrArg some (by kernel_rfl))
 f297:=Tryz.func98.trans (congrArg some (by kernel_rfl))
 f298:=Tryz.func99.trans (congrArg some (by kernel_rfl))
 f299:=Tryz.func100.trans (congrArg some (by kernel_rfl))
 f300:=Tryz.func102.trans (congrArg some (by kernel_rfl))
 f301:=Tryz.func103.trans (congrArg some (by kernel_rfl))
 f328:=Tryz.func127.trans (congrArg some (by kernel_rfl))
 f329:=Tryz.func128.trans (congrArg some (by kernel_rfl))
 f330:=Tryz.func129.trans (congrArg some (by kernel_rfl))
 f331:=Tryz.func130.trans (congrArg some (by kernel_rfl))
 f332:=Tryz.func131.trans (congrArg some (by kernel_rfl))
 f343:=Tryz.func143.trans (congrArg some (by kernel_rfl))
 t0:=Tryz.underlying0
 a0:=Tryz.isAgg0
 z0:=Tryz.sizeOf0
 v0:=Tryz.zeroValue0
 t3:=Tryz.underlying3
 a3:=Tryz.isAgg3
 z3:=Tryz.sizeOf3
 v3:=Tryz.zeroValue3
 t4:=Tryz.underlying4
 a4:=Tryz.isAgg4
 z4:=Tryz.sizeOf4
 v4:=Tryz.zeroValue4
 t5:=Tryz.underlying5
 a5:=Tryz.isAgg5
 z5:=Tryz.sizeOf5
 v5:=Tryz.zeroValue5
 t9:=Tryz.underlying9
 a9:=Tryz.isAgg9
 z9:=Tryz.sizeOf9
 v9:=Tryz.zeroValue9
 t28:=Tryz.underlying66
 a28:=Tryz.isAgg66
 z28:=Tryz.sizeOf66
 v28:=Tryz.zeroValue66
 t46:=Tryz.underlying121
 a46:=Tryz.isAgg121
 z46:=Tryz.sizeOf121
 v46:=Tryz.zeroValue121
 t51:=Tryz.underlying169
 a51:=Tryz.isAgg169
 z51:=Tryz.sizeOf169
 v51:=Tryz.zeroValue169
 t53:=Tryz.underlying108
 a53:=Tryz.isAgg108
 z53:=Tryz.sizeOf108
 v53:=Tryz.zeroValue108
 t131:=Tryz.underlying166
 a131:=Tryz.isAgg166
 z131:=Tryz.sizeOf166
 v131:=Tryz.zeroValue166
 t182:=Tryz.underlying160
 a182:=Tryz.isAgg160
 z182:=Tryz.sizeOf160
 v182:=Tryz.zeroValue160
 t183:=Tryz.underlying161
 a183:=Tryz.isAgg161
 z183:=Tryz.sizeOf161
 v183:=Tryz.zeroValue161
 t218:=Tryz.underlying199
 a218:=Tryz.isAgg199
 z218:=Tryz.sizeOf199
 v218:=Tryz.zeroValue199
 t222:=Tryz.underlying203
 a222:=Tryz.isAgg203
 z222:=Tryz.sizeOf203
 v222:=Tryz.zeroValue203
 t228:=Tryz.underlying219
 a228:=Tryz.isAgg219
 z228:=Tryz.sizeOf219
 v228:=Tryz.zeroValue219
 t229:=Tryz.underlying220
 a229:=Tryz.isAgg220
 z229:=Tryz.sizeOf220
 v229:=Tryz.zeroValue220 }
open Go.Sort Go.RowKit in
theorem Tryz.slices_Sort_int (blk off cap:Nat) (zs:List Int) (w:World) (hH:Holds (Value.int .i64) w blk off zs.toArray) (hblk:blk<w.heap.size) (hsz:zs.length<4611686018427387904) :
 Calls Tryz.prog 30 #[.slice (some ⟨blk,off,none⟩) zs.length cap] w λe w' =>
  e=.returned (.tuple #[])/\∃n os,w'=Go.Sort.grow (putRow (Value.int .i64) (Sort.ahead w n) blk off (zs.mergeSort λx y=>decide (x<=y)).toArray) os:=Any.slices_Sort_int Tryz.lays189 blk off cap zs w hH hblk hsz
def Tryz.laysNm220_ren:Go.Shelf.Ren:=⟨λ| 20=>31|n=>n,λ| 22=>66|3=>3|4=>4|0=>0|n=>n,λ| n=>n⟩
theorem Tryz.laysNm220:Go.Proofs.Lays2.n20 Tryz.prog Tryz.laysNm220_ren:={
 mixed:=by kernel_rfl
 f20:=Tryz.func31.trans (congrArg some (by kernel_rfl))
 t0:=Tryz.underlying0
 a0:=Tryz.isAgg0
 z0:=Tryz.sizeOf0
 v0:=Tryz.zeroValue0
 t3:=Tryz.underlying3
 a3:=Tryz.isAgg3
 z3:=Tryz.sizeOf3
 v3:=Tryz.zeroValue3
 t4:=Tryz.underlying4
 a4:=Tryz.isAgg4
 z4:=Tryz.sizeOf4
 v4:=Tryz.zeroValue4
 t22:=Tryz.underlying66
 a22:=Tryz.isAgg66
 z22:=Tryz.sizeOf66
 v22:=Tryz.zeroValue66
 i3:=by kernel_rfl }
open Go.RowKit Go.Lib Go.Sort in
open Go.RowKit Go.Lib Go.Sort in
theorem Tryz.slices_Compact_int (blk off cap:Nat) (zs:List Int) (w:World) (hH:Holds (Value.int .i64) w blk off zs.toArray) (hsz:zs.length<=9223372036854775807) (hcap:zs.length<=cap) :
 Calls Tryz.prog 31 #[.slice (some ⟨blk,off,none⟩) zs.length cap] w λe w'=>e=.returned (.slice (some ⟨blk,off,none⟩) (Lib.compact zs).length cap)/\∃q,w'=putRow (Value.int .i64) (Sort.ahead w q) blk off (Lib.compact zs++List.replicate (zs.length - (Lib.compact zs).length) 0).toArray:=Any.slices_Compact_int Tryz.laysNm220 blk off cap zs w hH hsz hcap
open Go.RowKit Go.Lib Go.Sort in
theorem Tryz.slices_Compact_int_empty (a:Option Addr) (cap:Nat) (w:World) :
 Calls Tryz.prog 31 #[.slice a 0 cap] w λe w'=>e=.returned (.slice a 0 cap)/\w'=w:=Any.slices_Compact_int_empty Tryz.laysNm220 a cap w
open Go.RowKit Go.Sort in
theorem Tryz.slices_Sort_int_none (p:Option Addr) (cap:Nat) (w:World) :
 Calls Tryz.prog 30 #[.slice p 0 cap] w λe w'=>e=.returned (.tuple #[])/\w'=w:=Any.slices_Sort_int_none Tryz.lays189 p cap w
end
section
open Go.Sort
def kp (l:List Int):List Int:=l.mergeSort λx y=>decide (x<=y)
def uA (l:List Int):Option (List Int):=if l.length<4611686018427387904 then some (kp l) else none
theorem tg {l y:List Int} (h:uA l=some y):l.length<4611686018427387904/\y=kp l:=by
 unfold uA at h;split at h
 . cases h;exact⟨by assumption,rfl⟩
 . cases h
theorem po (l:List Int):(kp l).length=l.length:=by unfold kp;simp
theorem tO {V:View} {xs:List Value} {l:List Int} (h:iH V hO xs l):xs=l.map (Value.int .i64):=by
 obtain⟨h1,h2⟩:=h;apply List.ext_getElem?;intro k;rw[i_]
 cases hk:l[k]? with
 |none=>rw[List.getElem?_eq_none_iff] at hk;rw[j_ (by rw[h1];show l.length * 1<=k;omega)];rfl
 |some x =>
  have h3:(xs.drop (k * 1)).take 1=[Value.int .i64 x]:=h2 k x hk;have h4:((xs.drop (k * 1)).take 1)[0]? = some (Value.int .i64 x):=by rw[h3];rfl
  rw[l_,if_pos o_,List.getElem?_drop] at h4;rw[show k * 1 + 0=k by omega] at h4;rw[h4];rfl
theorem uQ {V:View} (l:List Int):iH V hO (l.map (Value.int .i64)) l:=by refine⟨by rw[p_];show l.length=l.length * 1;omega,λk x hk=>?_⟩;show ((l.map (Value.int .i64)).drop (k * 1)).take 1=[Value.int .i64 x];rw[show k * 1=k by omega];have hl:k<l.length:=(q_.1 hk).1;rw[x_ (by rw[p_];exact hl),List.take_succ_cons,List.take_zero,List.getElem_map];rw[(q_.1 hk).2]
section
variable {w:World} {V:View} {G:List HObj} {w1:World} {A:Option Addr} {c:Nat} {l:List Int} {t:TypeId}
theorem sA (hh:Hp w V (row t hO A c l::G) w1) (hl:l≠[]):∃g,A=some ⟨g,0,none⟩/\Holds (Value.int .i64) w1 g 0 l.toArray/\g<w1.heap.size /\
 ∀(d:List Int) (n:Nat) (os:Array Obj),d.length=l.length->Hp w V (row t hO A c d::G) (Go.Sort.grow (putRow (Value.int .i64) (Go.Sort.ahead w1 n) g 0 d.toArray) os):=by
 obtain⟨h1,h2,h3⟩:=hh.objs _ f_;have hlp:0<l.length:=by cases l with|nil=>exact absurd rfl hl|cons=>simp
 rcases h3 with h3|⟨g,cur,fz,xs,h⟩
 . omega
 have hfz:=h.plain rfl;subst hfz;have hxs:=tO h.rep;have hsz:cur.size=c:=by rw[h.size];show c * 1=c;omega
 have hget:∀j (hj:j<l.length),cur[j]? = some (Value.int .i64 l[j]):=λj hj=>by
  have h4:(cur.toList.take (l.length * hO.size))[j]? = some (Value.int .i64 l[j]):=by rw[h.take,hxs,i_,a_ hj];rfl
  rw[l_,if_pos (show j<l.length * hO.size by show j<l.length * 1;omega)] at h4;rw[<-y_];exact h4
 have hgl:=jU h.heap;refine⟨g,h.adr,λj hj=>⟨?_,?_⟩,hgl,λd n os hd=>?_⟩
 . have hj':j<l.length:=by simpa using hj
   rw[Nat.zero_add,cell_of_row w1 g j cur t (0,0) h.heap,hget j hj'];simp[hj']
 . simp[World.frozen?,h.heap]
 . have hheap:(Go.Sort.grow (putRow (Value.int .i64) (Go.Sort.ahead w1 n) g 0 d.toArray) os).heap=(w1.heap.modify g (onCells (putCells (Value.int .i64) 0 d.toArray)))++os:=rfl;have hat:∀k,k<w1.heap.size->(Go.Sort.grow (putRow (Value.int .i64) (Go.Sort.ahead w1 n) g 0 d.toArray) os).heap[k]? = (w1.heap.modify g (onCells (putCells (Value.int .i64) 0 d.toArray)))[k]?:=λk hk=>by rw[hheap,Array.getElem?_append,if_pos (by simpa using hk)]
   have hset:=hh.turn (i:=0) (x:=row t hO A c l) (y:=row t hO A c d) (o:=some g) (w':=Go.Sort.grow (putRow (Value.int .i64) (Go.Sort.ahead w1 n) g 0 d.toArray) os) rfl
    ⟨rfl,rfl,rfl,by rw[hheap];simp,λk hk hne=>by
     rw[hat k hk,z_,if_neg (λe=>hne (by rw[e]))]⟩
    ⟨by omega,h2,.inr ⟨g,putCells (Value.int .i64) 0 d.toArray cur,(0,0),d.map (Value.int .i64),⟨h.adr,by rw[hat g hgl,z_,if_pos rfl,h.heap];rfl,λ_=>rfl,λi _=>by omega,
     by rw[<-hsz];show (putCells (Value.int .i64) 0 d.toArray cur).size=cur.size * 1;simp[putCells],?_,uQ d⟩⟩⟩
    (λb hb=>.inl hb) (λb e=>by
     injection e with e;subst e;show jd A c=some g
     unfold jd;rw[if_neg o_,h.adr];rfl)
   . exact hset
   . apply List.ext_getElem?;intro k;rw[l_,i_];show (if k<d.length * 1 then _ else _)=_;by_cases hk:k<d.length
     . rw[if_pos o_,y_];have hkc:k<cur.size:=o_;simp[putCells,hk,hkc]
     . rw[if_neg o_,j_ o_];rfl
theorem rD (hm:l.length<4611686018427387904) (hh:Hp w V (row t hO A c l::G) w1):Calls Tryz.prog 30 #[.slice A l.length c] w1 (λr w2=>r=.returned (.tuple #[])/\Hp w V (row t hO A c (kp l)::G) w2):=by
 by_cases hl:l=[]
 . subst hl;exact(Tryz.slices_Sort_int_none A c w1).mono (by rintro e w2 ⟨rfl,rfl⟩;exact⟨rfl,by simpa[kp] using hh⟩)
 . obtain⟨g,hA,hH,hg,hput⟩:=sA hh hl;subst hA;refine(Tryz.slices_Sort_int g 0 c l w1 hH hg hm).mono ?_;rintro e w2 ⟨rfl,n,os,rfl⟩;exact⟨rfl,hput _ n os (po l)⟩
theorem rX (l:List Int):(Lib.compact l).length<=l.length:=by unfold Lib.compact Lib.compactUpTo;rw[p_];exact Nat.le_trans (List.length_filter_le _ _) s_
theorem qd (hh:Hp w V (row t hO A c l::G) w1):Calls Tryz.prog 31 #[.slice A l.length c] w1 (λr w2=>r=.returned (.slice A (Lib.compact l).length c)/\Hp w V (row t hO A c (Lib.compact l)::G) w2):=by
 by_cases hl:l=[]
 . subst hl;exact(Tryz.slices_Compact_int_empty A c w1).mono (by rintro e w2 ⟨rfl,rfl⟩;exact⟨rfl,hh⟩)
 . have hlc:=(hh.objs _ f_).1;have hm:l.length<=maxLen:=by have h1:=hh.objs _ f_;exact Nat.le_trans h1.1 h1.2.1
   obtain⟨g,hA,hH,hg,hput⟩:=sA hh hl;subst hA;refine(Tryz.slices_Compact_int g 0 c l w1 hH (by unfold maxLen at hm;omega) hlc).mono ?_;rintro e w2 ⟨rfl,q,rfl⟩;refine⟨rfl,?_⟩;have h5:=hput (Lib.compact l++List.replicate (l.length - (Lib.compact l).length) 0) q #[] (by rw[List.length_append,List.length_replicate];have:=rX l;omega);rw[grow_empty] at h5;exact h5.turn (i:=0) (o:=none) rfl ⟨rfl,rfl,rfl,Nat.le_refl _,λ_ _ _=>rfl⟩ (nX (h5.objs _ f_) (List.prefix_append _ _)) (λb hb=>.inl hb) (λb e=>by cases e)
end
end
def jh (F:Nat) (p903:List DElem):Option ((List ByteArray)×Int×(List DNode)):=(nu F).bind λr1=>(iter (σ:=(List Int)×Int) (ρ:=(List Int)) (λx=>match x with
  |(x1,x2)=>bif decide (x2<(p903.length:Int)) then (idx p903 x2).bind λe1=>(grow 8 x1 [e1.made,e1.gone]).bind λ_=>some (.inl ((x1++[e1.made,e1.gone]),IntKind.i64.wrap (x2 + 1))) else some (.inr x1)) F ([],0)).bind λz4=>(uA z4).bind λ_=>(iter (σ:=Int×(List DNode)×Int) (ρ:=Int×(List DNode)) (λx=>match x with
  |(x3,x4,x5)=>bif decide (x5<((Lib.compact (kp z4)).length:Int)) then (idx (Lib.compact (kp z4)) x5).bind λe2=>(iter (σ:=Int×(List DNode)×Int) (ρ:=Int×(List DNode)) (λx=>match x with
     |(x6,x7,x8)=>bif decide (x8<(p903.length:Int)) then ((idx p903 x8).bind λe3=>bif ((e3.gone==e2)&&(decide ((0:Int)<e2))) then (lD F r1.1 [] x6 x7 e3.key e2).bind λr4=>some (r4.1,r4.2.1) else some (x6,x7):Option (Int×(List DNode))).bind λz=>match z with
        |(z9,z10)=>some (.inl (z9,z10,IntKind.i64.wrap (x8 + 1))) else some (.inr (x6,x7))) F (x3,x4,0)).bind λz=>match z with
     |(z7,z8)=>(iter (σ:=Int×(List DNode)×Int) (ρ:=Int×(List DNode)) (λx=>match x with
       |(x9,x10,x11)=>bif decide (x11<(p903.length:Int)) then ((idx p903 x11).bind λe4=>bif (e4.made==e2) then (j8 F r1.1 [] x9 x10 e4.key e4.val e2).bind λr5=>some (r5.1,r5.2.1) else some (x9,x10):Option (Int×(List DNode))).bind λz=>match z with
          |(z13,z14)=>some (.inl (z13,z14,IntKind.i64.wrap (x11 + 1))) else some (.inr (x9,x10))) F (z7,z8,0)).bind λz=>match z with
       |(z11,z12)=>some (.inl (z11,z12,IntKind.i64.wrap (x5 + 1))) else some (.inr (x3,x4))) F (r1.2.1,r1.2.2,0)).bind λz=>match z with
  |(z5,z6)=>some (r1.1,z5,z6)
theorem jt (F:Nat) (n:List DElem) (r:(List ByteArray)×Int×(List DNode)) (L:jh F n=some r) (w:World)  (q:Option Addr) (B:Nat) (aB:View) (o:List HObj) (w1:World) (ag:hJ aB eElem q B n) (b:Hp w aB o w1) :
 Calls Tryz.prog 8 #[.slice q n.length B] w1 (λe w2=>∃v,e=.returned v/\∃g A1 c1 A2 c2 V1,View.le aB V1/\hJ (made w V1) eStr A1 c1 r.1/\hJ V1 iy A2 c2 r.2.2/\v=.pointer (some ⟨g,0,none⟩)/\Hp w V1 ((box g 79 [.slice A1 r.1.length c1,.slice none 0 0,.int .i64 r.2.1,.slice A2 r.2.2.length c2])::o) w2):=by
 unfold jh at L;have cx:=b.base;refine T.iQ (l:=[sl q n B]) Tryz.func8 rfl rfl rfl ?_ b;clear b;refine au2 ?_;refine oc L λt bu L=>(T.ia (W1.cj (λd b=>qQ F t bu w aB o d (b.u)) ?_));rintro v d ⟨g,G,H,A4,c4,V2,ae,bX,rfl,b⟩;refine⟨_,_,b,?_⟩;clear b;refine au2 ?_;refine T.cb false (λh=>Bool.noConfusion h) (λ_=>?_);refine au3 ?_;let Z:=box g 79 [sl G t.1 H,sN,vi t.2.1,sl A4 t.2.2 c4];refine T.je (E:=eStr) (H':=(Z::o)) 1 b_ rfl (λ_ _ _ _ h=>h) (λQ Y bo=>?_);refine T.iM 3 hO ?_;refine oc L λk b0 L=>?_;refine T.iI (λa d=>∃y A,Fr 79 [(0,sl q n B),(3,pB g 0),(4,sl y k A)] a/\Hp w Q ((row 3 hO y A k)::Z::o) d) ?_ ?_;refine au1 ?_;refine T.iF (λs1 a d=>∃(x1:List Int) (x2:Int),s1=(x1,x2)/\∃A5 c5,Fr 79 [(0,sl q n B),(3,pB g 0),(4,sl A5 x1 c5),(16,sl q n B),(17,vi (n.length:Int)),(18,vi x2)] a/\Hp w Q ((row 3 hO A5 c5 x1)::Z::o) d) b0 ?_ ?_;exact ie;rintro s1 y1 O bS a d ⟨x1,x2,rfl,A5,c5,p,b⟩;revert p b;refine T.i ?_;(try dsimp only at O);refine au1 ?_;refine T.ik ?_;revert O;refine T.c (λbE O=>?_) (λbE O=>?_);refine au3 ?_;refine oc O λN bv O=>?_
 obtain⟨bK,bN,bk⟩:=ig bv;refine T.l (.pointer (some ((iz q).add (x2.toNat * 6)))) (λd b=>ib (e:=28) (s:=6) rfl rfl rfl k_ k_ bK bN ((hJ.mono ag (vt ae Y)).some_ bk c_)) (T.l (.agg #[vi N.key.pfs,vi N.key.obj,vi N.key.off,vi N.made,vi N.gone,.string N.val]) (λd b=>lN (λj u hj=>(b.cell_view (hJ.cellF (E:=eElem) (hJ.mono ag (vt ae Y)) bk j (λ_ _ _ h=>h) hj)))) ?_);refine T.N1 λb2=>?_;refine au1 ?_;refine T.NS λb3=>?_;refine oc O λy2 bw O=>?_;obtain⟨hb3_r,hb3_m,rfl⟩:=ii bw;refine T.ia (W1.a (E:=hO) (l:=x1) (m:=[N.made,N.gone]) 2 8 i3_ (λd b=>(hJ.sF (iE (E:=hO) (f:=(λx=>[vi x])) [N.made,N.gone] (λ_ _=>rfl) n_ (λj=>b.cellBox (i:=0) b_ j)))) hb3_r hb3_m (λA7 c7=>?_));refine au1 ?_;cases O;exact ie;refine au0 ?_;cases O;cases(bS _ rfl);exact ie;rintro a d ⟨y,A,p,b⟩;revert p b;refine T.i ?_;refine au1 ?_;refine oc L λy3 bx L=>?_;obtain⟨bZ,rfl⟩:=tg bx;refine T.ia (W1.ci 30 [sl y k A] (λv d=>v=.tuple #[]/\Hp w Q ((row 3 hO y A (kp k))::Z::o) d) (λd b=>(rD bZ (b.perm pz)).mono (by rintro e_ w_ ⟨rfl,h_⟩;exact⟨_,rfl,rfl,h_⟩)) ?_);rintro v d ⟨rfl,b⟩;refine⟨Q,((row 3 hO y A (kp k))::Z::o),b.perm pz,?_⟩;clear b;have bn:(kp k).length=k.length:=(by exact po _);refine T.io 4 (sl y (kp k) A) rfl (by simp +zetaDelta only[sl,bn]) ?_
 refine T.io 30 (sl y (kp k) A) rfl (by simp +zetaDelta only[sl,bn]) ?_;refine au2 ?_;let I:=row 3 hO y A (Lib.compact (kp k));refine T.ia (W1.ci 31 [sl y (kp k) A] (λv d=>v=.slice y (Lib.compact (kp k)).length A/\Hp w Q (I::Z::o) d) (λd b=>(qd (b.perm pz)).mono (by rintro e_ w_ ⟨rfl,h_⟩;exact⟨_,rfl,rfl,h_⟩)) ?_);rintro v d ⟨rfl,b⟩;refine⟨Q,(I::Z::o),b.perm pz,?_⟩;clear b;refine au0 ?_;refine oc L λq1 b6 L=>?_;refine T.iI (λa d=>∃(z5:Int) (z6:List DNode),q1=(z5,z6)/\∃A9 c9 V5,View.le Q V5/\hJ V5 iy A9 c9 z6/\Fr 79 [(3,pB g 0)] a/\Hp w V5 ((box g 79 [sl G t.1 H,sN,vi z5,sl A9 z6 c9])::o) d) ?_ ?_;refine au1 ?_;refine T.iF (λs2 a d=>∃(x3:Int) (x4:List DNode) (M:Int),s2=(x3,x4,M)/\∃A8 c8 V4,View.le Q V4/\hJ V4 iy A8 c8 x4/\Fr 79 [(0,sl q n B),(3,pB g 0),(33,sl y (Lib.compact (kp k)) A),(34,vi ((Lib.compact (kp k)).length:Int)),(35,vi M)] a/\Hp w V4 (I::(box g 79 [sl G t.1 H,sN,vi x3,sl A8 x4 c8])::o) d) b6 ?_ ?_;exact λa d p b=>⟨t.2.1,t.2.2,0,rfl,A4,c4,Q,vr,(hJ.mono bX (vt (iq _ _) Y)),(Fr.s p),(b.u)⟩;rintro s2 y4 K bT a d ⟨x3,x4,M,rfl,A8,c8,V4,af,cD,p,b⟩;revert p b;refine T.i ?_;(try dsimp only at K);refine au1 ?_;refine T.ik ?_;revert K;refine T.c (λbF K=>?_) (λbF K=>?_);refine au3 ?_;refine oc K λJ bz K=>?_;obtain⟨bO,bP,bl⟩:=ig bz;refine T.l (.pointer (some ((iz y).add (M.toNat * 1)))) (iR 0 (e:=3) (s:=1) bO bP bl) (T.l (vi J) (λd b=>iu rfl rfl k_ (hJ.wcellF0 (E:=hO) (b.row_slOk (i:=0) b_) bl (λ_ _ _ h=>h) rfl)) ?_);refine au2 ?_
 refine oc K λq2 b7 K=>?_;refine T.iI (λa d=>∃(z7:Int) (z8:List DNode),q2=(z7,z8)/\∃aO aV V7,View.le V4 V7/\hJ V7 iy aO aV z8/\Fr 79 [(0,sl q n B),(3,pB g 0),(8,vi J),(33,sl y (Lib.compact (kp k)) A),(34,vi ((Lib.compact (kp k)).length:Int)),(35,vi M)] a/\Hp w V7 (I::(box g 79 [sl G t.1 H,sN,vi z7,sl aO z8 aV])::o) d) ?_ ?_;refine au1 ?_;refine T.iF (λs3 a d=>∃(x6:Int) (x7:List DNode) (x8:Int),s3=(x6,x7,x8)/\∃aj am W,View.le V4 W/\hJ W iy aj am x7/\Fr 79 [(0,sl q n B),(3,pB g 0),(8,vi J),(33,sl y (Lib.compact (kp k)) A),(34,vi ((Lib.compact (kp k)).length:Int)),(35,vi M),(39,sl q n B),(40,vi (n.length:Int)),(41,vi x8)] a/\Hp w W (I::(box g 79 [sl G t.1 H,sN,vi x6,sl aj x7 am])::o) d) b7 ?_ ?_;exact ie;rintro s3 y5 U bU a d ⟨x6,x7,x8,rfl,aj,am,W,a3,bY,p,b⟩;let b9:=box g 79 [sl G t.1 H,sN,vi x6,sl aj x7 am];let cg:=I::b9::o;revert p b;refine T.i ?_;(try dsimp only at U);refine au1 ?_;refine T.ik ?_;revert U;refine T.c (λbG U=>?_) (λbG U=>?_);refine au0 ?_;refine oc U λq3 R U=>?_;refine T.iD (λa d=>∃(z9:Int) (aJ:List DNode),q3=(z9,aJ)/\∃aP aW V8,View.le W V8/\hJ V8 iy aP aW aJ/\Fr 79 [(0,sl q n B),(3,pB g 0),(8,vi J),(33,sl y (Lib.compact (kp k)) A),(34,vi ((Lib.compact (kp k)).length:Int)),(35,vi M),(39,sl q n B),(40,vi (n.length:Int)),(41,vi x8)] a/\Hp w V8 (I::(box g 79 [sl G t.1 H,sN,vi z9,sl aP aJ aW])::o) d) ?_ ?_;refine au2 ?_;refine oc R λC bA R=>?_;obtain⟨bQ,bR,bm⟩:=ig bA
 refine T.l (.pointer (some ((iz q).add (x8.toNat * 6)))) (λd b=>ib (e:=28) (s:=6) rfl rfl rfl k_ k_ bQ bR ((hJ.mono ag (vt (vt (vt ae Y) af) a3)).some_ bm c_)) ?_;let ch:=[vi C.key.pfs,vi C.key.obj,vi C.key.off,vi C.made,vi C.gone,.string C.val];refine T.l (.agg #[vi C.key.pfs,vi C.key.obj,vi C.key.off,vi C.made,vi C.gone,.string C.val]) (λd b=>lN (λj u hj=>(b.cell_view (hJ.cellF (E:=eElem) (hJ.mono ag (vt (vt (vt ae Y) af) a3)) bm j (λ_ _ _ h=>h) hj)))) ?_;refine T.N1 λb4=>?_;refine au0 ?_;let aF:=box b4 28 ch;refine T.iD (λa d=>Fr 79 [(0,sl q n B),(3,pB g 0),(8,vi J),(10,pB b4 0),(33,sl y (Lib.compact (kp k)) A),(34,vi ((Lib.compact (kp k)).length:Int)),(35,vi M),(39,sl q n B),(40,vi (n.length:Int)),(41,vi x8),(52,.bool ((C.gone==J)&&(decide ((0:Int)<J))))] a/\Hp w W (aF::cg) d) ?_ ?_;refine au1 ?_;cases cy:(C.gone==J);refine au0 ?_;exact ie;refine au0 ?_;exact ie;rintro a d ⟨p,b⟩;revert p b;refine T.i ?_;revert R;refine T.c (λbH R=>?_) (λbH R=>?_);refine au1 ?_;refine oc R λr4 bB R=>(T.ia (W1.ci 32 [pB g 0,.agg #[vi C.key.pfs,vi C.key.obj,vi C.key.off],vi J] (λv d=>∃ar aC V9,View.le W V9/\hJ V9 iy ar aC r4.2.1/\v=vi r4.2.2/\Hp w V9 ((box g 79 [sl G t.1 H,sN,vi r4.1,sl ar r4.2.1 aC])::aF::I::o) d) (λd b=>od F t.1 [] x6 x7 C.key J r4 bB w g G H none 0 aj am W (aF::I::o) d (hJ.mono bo (vt (iq _ _) (vt af a3))) (hJ.nil _ _) bY (b.ix 3 [2,0,1])) ?_));rintro v d ⟨ar,aC,V9,cw,cz,rfl,b⟩
 refine⟨V9,(aF::I::(box g 79 [sl G t.1 H,sN,vi r4.1,sl ar r4.2.1 aC])::o),b.ix 3 [1,2,0],?_⟩;clear b;refine au0 ?_;cases R;exact ie;refine au0 ?_;cases R;exact ie;rintro a d ⟨z9,aJ,rfl,aP,aW,V8,cv,cG,p,b⟩;(try dsimp only at U);revert p b;refine T.i ?_;refine au1 ?_;cases U;exact ie;refine au0 ?_;cases U;cases(bU _ rfl);exact ie;rintro a d ⟨z7,z8,rfl,aO,aV,V7,a4,cF,p,b⟩;(try dsimp only at K);revert p b;refine T.i ?_;refine au1 ?_;refine oc K λq4 b8 K=>?_;refine T.iI (λa d=>∃(a7:Int) (aK:List DNode),q4=(a7,aK)/\∃aQ aX ax,View.le V7 ax/\hJ ax iy aQ aX aK/\Fr 79 [(0,sl q n B),(3,pB g 0),(33,sl y (Lib.compact (kp k)) A),(34,vi ((Lib.compact (kp k)).length:Int)),(35,vi M)] a/\Hp w ax (I::(box g 79 [sl G t.1 H,sN,vi a7,sl aQ aK aX])::o) d) ?_ ?_;refine au1 ?_;refine T.iF (λs4 a d=>∃(x9:Int) (ao:List DNode) (ap:Int),s4=(x9,ao,ap)/\∃au aD X,View.le V7 X/\hJ X iy au aD ao/\Fr 79 [(0,sl q n B),(3,pB g 0),(8,vi J),(33,sl y (Lib.compact (kp k)) A),(34,vi ((Lib.compact (kp k)).length:Int)),(35,vi M),(59,sl q n B),(60,vi (n.length:Int)),(61,vi ap)] a/\Hp w X (I::(box g 79 [sl G t.1 H,sN,vi x9,sl au ao aD])::o) d) b8 ?_ ?_;exact ie;rintro s4 y6 V bV a d ⟨x9,ao,ap,rfl,au,aD,X,a2,bW,p,b⟩;revert p b;refine T.i ?_;(try dsimp only at V);refine au1 ?_;refine T.ik ?_;revert V;refine T.c (λbI V=>?_) (λbI V=>?_);refine au0 ?_;refine oc V λq5 S V=>?_
 refine T.iD (λa d=>∃(a8:Int) (aL:List DNode),q5=(a8,aL)/\∃aR aY ay,View.le X ay/\hJ ay iy aR aY aL/\Fr 79 [(0,sl q n B),(3,pB g 0),(8,vi J),(33,sl y (Lib.compact (kp k)) A),(34,vi ((Lib.compact (kp k)).length:Int)),(35,vi M),(59,sl q n B),(60,vi (n.length:Int)),(61,vi ap)] a/\Hp w ay (I::(box g 79 [sl G t.1 H,sN,vi a8,sl aR aL aY])::o) d) ?_ ?_;refine au2 ?_;refine oc S λD bC S=>?_;obtain⟨bL,bM,bj⟩:=ig bC;refine T.l (.pointer (some ((iz q).add (ap.toNat * 6)))) (λd b=>ib (e:=28) (s:=6) rfl rfl rfl k_ k_ bL bM ((hJ.mono ag (vt (vt (vt (vt ae Y) af) a4) a2)).some_ bj c_)) ?_;let ck:=[vi D.key.pfs,vi D.key.obj,vi D.key.off,vi D.made,vi D.gone,.string D.val];refine T.l (.agg #[vi D.key.pfs,vi D.key.obj,vi D.key.off,vi D.made,vi D.gone,.string D.val]) (λd b=>lN (λj u hj=>(b.cell_view (hJ.cellF (E:=eElem) (hJ.mono ag (vt (vt (vt (vt ae Y) af) a4) a2)) bj j (λ_ _ _ h=>h) hj)))) ?_;refine T.N1 λb5=>?_;refine au1 ?_;revert S;refine T.c (λbJ S=>?_) (λbJ S=>?_);refine au1 ?_;refine oc S λr5 bD S=>?_;let a5:=box b5 28 ck;refine T.ia (W1.ci 22 [pB g 0,.agg #[vi D.key.pfs,vi D.key.obj,vi D.key.off],.string D.val,vi J] (λv d=>∃av aE ak,View.le X ak/\hJ ak iy av aE r5.2.1/\v=vi r5.2.2/\Hp w ak ((box g 79 [sl G t.1 H,sN,vi r5.1,sl av r5.2.1 aE])::a5::I::o) d) (λd b=>kB F t.1 [] x9 ao D.key D.val J r5 bD w g G H none 0 au aD X (a5::I::o) d (hJ.mono bo (vt (iq _ _) (vt (vt af a4) a2))) (hJ.nil _ _) bW (b.ix 3 [2,0,1])) ?_)
 rintro v d ⟨av,aE,ak,ct,cC,rfl,b⟩;refine⟨ak,(a5::I::(box g 79 [sl G t.1 H,sN,vi r5.1,sl av r5.2.1 aE])::o),b.ix 3 [1,2,0],?_⟩;clear b;refine au0 ?_;cases S;exact ie;refine au0 ?_;cases S;exact ie;rintro a d ⟨a8,aL,rfl,aR,aY,ay,cs,cB,p,b⟩;(try dsimp only at V);revert p b;refine T.i ?_;refine au1 ?_;cases V;exact ie;refine au0 ?_;cases V;cases(bV _ rfl);exact ie;rintro a d ⟨a7,aK,rfl,aQ,aX,ax,cr,cA,p,b⟩;(try dsimp only at K);revert p b;refine T.i ?_;refine au1 ?_;cases K;exact ie;refine au0 ?_;cases K;cases(bT _ rfl);exact ie;rintro a d ⟨z5,z6,rfl,A9,c9,V5,cu,cE,p,b⟩;(try dsimp only at L);revert p b;refine T.i ?_;refine au1 ?_;have hres:=Option.some.inj L;subst hres;exact il
def ma (F:Nat) (p0:(List DElem)) (p1:(List Int)):Option (Bool):=(kC 1 (t_ #[97])).bind λr1=>(jh F [r1]).bind λr3=>((j6 F (DTree.mk r3.2.1 r3.2.2)).bind λr4=>some r4.1:Option ((List DElem))).bind λz1=>bif ((z1.length:Int) !=1) then some false else (kV F p0).bind λr5=>bif (r5 !=0) then some true else (jh F p0).bind λr6=>(jn F r6.1 [] r6.2.1 r6.2.2).bind λr7=>(jn F r7.1 r7.2.1 r6.2.1 r6.2.2).bind λr8=>bif ((r7.2.2.2 !=0)||(r8.2.2.2 !=0)) then some false else (((grow 16 ([]:List ByteArray) r8.1).bind λ_=>(grow 24 ([]:List DWrite) r8.2.1).bind λ_=>some ():Option (Unit)).bind λ_=>some ():Option (Unit)).bind λ_=>(j9 F (([]:List ByteArray)++r8.1) (([]:List DWrite)++r8.2.1)).bind λr11=>(((grow 16 ([]:List ByteArray) r11.1).bind λ_=>(grow 24 ([]:List DWrite) r11.2.1).bind λ_=>some ():Option (Unit)).bind λ_=>some ():Option (Unit)).bind λ_=>(j9 F (([]:List ByteArray)++r11.1) (([]:List DWrite)++r11.2.1)).bind λr15=>(((j6 F (DTree.mk r11.2.2.1 r11.2.2.2)).bind λr17=>some r17.1:Option ((List DElem))).bind λz3=>(jg F z3 p0).bind λr18=>bif (!r18) then some true else ((j6 F (DTree.mk r15.2.2.1 r15.2.2.2)).bind λr19=>some r19.1:Option ((List DElem))).bind λz4=>(jg F z4 p0).bind λr20=>some (!r20):Option (Bool)).bind λz2=>bif z2 then some false else (oV F p0 p1).bind λr21=>(kY F r15.1 r15.2.1 r15.2.2.1 r15.2.2.2 p1).bind λr22=>bif (r22.2.2 !=r21.2) then some false else bif (r21.2 !=0) then ((j6 F (DTree.mk r22.1 r22.2.1)).bind λr23=>some r23.1:Option ((List DElem))).bind λz5=>(jg F z5 p0).bind λr24=>some r24 else (jn F r15.1 r15.2.1 r22.1 r22.2.1).bind λr25=>bif (r25.2.2.2 !=0) then some false else (((grow 16 ([]:List ByteArray) r25.1).bind λ_=>(grow 24 ([]:List DWrite) r25.2.1).bind λ_=>some ():Option (Unit)).bind λ_=>some ():Option (Unit)).bind λ_=>(j9 F (([]:List ByteArray)++r25.1) (([]:List DWrite)++r25.2.1)).bind λr28=>((j6 F (DTree.mk r28.2.2.1 r28.2.2.2)).bind λr30=>some r30.1:Option ((List DElem))).bind λz6=>(jg F z6 r21.1).bind λr31=>some r31
theorem ro (F:Nat) (x:(List DElem)) (p1:(List Int)) (r:Bool) (k:ma F x p1=some r) (w:World) (y:Option Addr) (B:Nat) (bc:hJ (vw w) eElem y B x) (A2:Option Addr) (c2:Nat) (cP:hJ (vw w) hO A2 c2 p1) :
 Calls Tryz.prog 7 #[.slice y x.length B,.slice A2 p1.length c2] w (jI (vSc eBool) r w):=by
 unfold ma at k;refine T.iB (l:=[sl y x B,sl A2 p1 c2]) Tryz.func7 rfl rfl rfl ?_;refine au2 ?_;refine oc k λr1 dx k=>(T.ia (W1.w1 (vAg eElem) r1 9 #[vi 1,.string (t_ #[97])] (λg b=>kR 1 (t_ #[97]) r1 dx g) ?_));intro u V1 H t;obtain rfl:=lf _ _ _ t;refine T.NS λb1=>?_;refine T.mA (E:=eElem) (f:=DElem.cells) (l:=[r1]) 0 _ b_ (λ_ _=>rfl) (Nat.succ_pos _) n_ rfl ?_;refine T.iS (H':=((row 28 eElem (some ⟨b1,0,none⟩) ([r1].length) [r1])::[])) b_ ?_;refine T.je (E:=eElem) (H':=[]) 0 b_ rfl (λ_ _ _ _ h=>h) (λV2 I ei=>?_);refine oc k λN dI k=>(T.ia (W1.ci 8 [sl (some ⟨b1,0,none⟩) [r1] ([r1].length)] (λv g=>∃b2 A3 c3 A4 c4 V3,View.le V2 V3/\hJ (made w V3) eStr A3 c3 N.1/\hJ V3 iy A4 c4 N.2.2/\v=pB b2 0/\Hp w V3 ((box b2 79 [sl A3 N.1 c3,sN,vi N.2.1,sl A4 N.2.2 c4])::[]) g) (λg b=>jt F [r1] N dI w (some ⟨b1,0,none⟩) ([r1].length) V2 [] g (hJ.mono ei (iq _ _)) (b.sub List.Sublist.slnil)) ?_));rintro v g ⟨b2,A3,c3,A4,c4,V3,J,fS,eq,rfl,b⟩;refine⟨_,_,b,?_⟩;clear b;refine au2 ?_;refine oc k λz1 ct k=>?_;let ax:=box b2 79 [sl A3 N.1 c3,sN,vi N.2.1,sl A4 N.2.2 c4];refine T.ia (W1.im 10 [pB b2 0] (λv g=>∃A5 c5 V4,View.le V3 V4/\hJ (made w V4) eElem A5 c5 z1/\v=.slice A5 z1.length c5/\Hp w V4 (ax::[]) g) Tryz.func10 rfl rfl k_ (λ_=>k_) rfl ?_ ?_);refine au2 ?_
 refine oc ct λr4 dR ct=>(T.ia (W1.w1 (vT2 (vSc (ku eElem)) (vSc hO)) r4 33 #[.agg #[vi N.2.1,sl A4 N.2.2 c4]] (λg b=>jL F (DTree.mk N.2.1 N.2.2) r4 dR g A4 c4 (hJ.mono eq b.view)) ?_));intro u V5 fG t;obtain⟨u1,u2,rfl,es,ew⟩:=iP t;obtain⟨A6,c6,rfl,fX⟩:=i9 es;obtain rfl:=ic _ _ _ ew;refine au1 ?_;cases ct;exact il;rintro v g ⟨A5,c5,V4,K,fW,rfl,b⟩;refine⟨V4,(ax::[]),b,?_⟩;clear b;refine au0 ?_;revert k;refine T.c (λdY k=>?_) (λdY k=>?_);refine au1 ?_;cases k;exact il;refine au2 ?_;refine oc k λr5 dS k=>(T.ia (W1.w1 (vSc hO) r5 11 #[sl y x B] (λg b=>kL F x r5 dS g y B (hJ.mono (hJ.mono bc (vt (vt (vt H I) J) K)) b.view)) ?_));intro u V6 L t;obtain rfl:=ic _ _ _ t;refine au0 ?_;revert k;refine T.c (λdZ k=>?_) (λdZ k=>?_);refine au1 ?_;cases k;exact il;refine au1 ?_;refine oc k λG dT k=>(T.ia (W1.ci 8 [sl y x B] (λv g=>∃Y A7 c7 A8 c8 V7,View.le V6 V7/\hJ (made w V7) eStr A7 c7 G.1/\hJ V7 iy A8 c8 G.2.2/\v=pB Y 0/\Hp w V7 ((box Y 79 [sl A7 G.1 c7,sN,vi G.2.1,sl A8 G.2.2 c8])::ax::[]) g) (λg b=>jt F x G dT w y B V6 (ax::[]) g (hJ.mono bc (vt (vt (vt (vt H I) J) K) L)) (b.u)) ?_));rintro v g ⟨Y,A7,c7,A8,c8,V7,O,er,cT,rfl,b⟩;refine⟨_,_,b,?_⟩;clear b;refine au1 ?_;refine oc k λS dU k=>?_;let cD:=[pB Y 0]
 refine T.ia (W1.ci 13 cD (λv g=>∃A9 c9 bw bL cj co V8,View.le V7 V8/\hJ V8 eStr A9 c9 S.1/\hJ V8 ij bw bL S.2.1/\hJ (made w V8) iC cj co S.2.2.1/\v=.tuple #[sl cj S.2.2.1 co,vi S.2.2.2]/\Hp w V8 ((box Y 79 [sl A9 S.1 c9,sl bw S.2.1 bL,vi G.2.1,sl A8 G.2.2 c8])::ax::[]) g) (λg b=>jx F G.1 [] G.2.1 G.2.2 S dU w Y A7 c7 none 0 A8 c8 V7 (ax::[]) g (hJ.mono er (iq _ _)) (hJ.nil _ _) cT (b.u)) ?_);rintro v g ⟨A9,c9,bw,bL,cj,co,V8,M,d5,d6,fI,rfl,b⟩;refine⟨_,_,b,?_⟩;clear b;refine au1 ?_;refine oc k λo dV k=>(T.ia (W1.ci 13 cD (λv g=>∃aI aY aJ aZ ck cp U,View.le V8 U/\hJ U eStr aI aY o.1/\hJ U ij aJ aZ o.2.1/\hJ (made w U) iC ck cp o.2.2.1/\v=.tuple #[sl ck o.2.2.1 cp,vi o.2.2.2]/\Hp w U ((box Y 79 [sl aI o.1 aY,sl aJ o.2.1 aZ,vi G.2.1,sl A8 G.2.2 c8])::ax::[]) g) (λg b=>jx F S.1 S.2.1 G.2.1 G.2.2 o dV w Y A9 c9 bw bL A8 c8 V8 (ax::[]) g d5 d6 (hJ.mono cT M) (b.u)) ?_));rintro v g ⟨aI,aY,aJ,aZ,ck,cp,U,Q,d7,d8,fJ,rfl,b⟩;refine⟨_,_,b,?_⟩;clear b;refine au0 ?_;refine T.ik ?_;let ao:=box Y 79 [sl aI o.1 aY,sl aJ o.2.1 aZ,vi G.2.1,sl A8 G.2.2 c8];refine T.iD (λa g=>Fr 128 [(0,sl y x B),(1,sl A2 p1 c2),(5,pB Y 0),(47,.bool ((S.2.2.2 !=0)||(o.2.2.2 !=0)))] a/\Hp w U (ao::[]) g) ?_ ?_;refine au1 ?_;cases fH:(S.2.2.2 !=0);refine au0 ?_;exact ie;refine au0 ?_;exact ie;rintro a g ⟨hf,b⟩;revert hf b;refine T.i ?_;revert k;refine T.c (λd0 k=>?_) (λd0 k=>?_)
 refine au1 ?_;cases k;exact il;refine au1 ?_;refine oc k λq1 bZ k=>(T.ia (W1.im 14 cD (λv g=>q1=()/\∃aK a0 aL a1,v=.agg #[sl aL (([]:List ByteArray)++o.1) a1,sl aK (([]:List DWrite)++o.2.1) a0]/\Hp w U ((row 46 ij aK a0 (([]:List DWrite)++o.2.1))::(row 9 eStr aL a1 (([]:List ByteArray)++o.1))::ao::[]) g) Tryz.func14 rfl rfl k_ (λ_=>k_) rfl ?_ ?_));refine au1 ?_;refine T.N1 λb4=>?_;refine au1 ?_;refine oc bZ λq2 bt bZ=>?_;let eG:=box b4 40 [sN,sN];let cC:=eG::ao::[];refine T.ia (W1.im 40 [.agg #[sl aI o.1 aY,sl aJ o.2.1 aZ]] (λv g=>q2=()/\∃bx bM bz bN,v=.agg #[sl bz (([]:List ByteArray)++o.1) bN,sl bx (([]:List DWrite)++o.2.1) bM]/\Hp w U ((row 46 ij bx bM (([]:List DWrite)++o.2.1))::(row 9 eStr bz bN (([]:List ByteArray)++o.1))::cC) g) Tryz.func40 rfl rfl k_ (λ_=>k_) rfl ?_ ?_);refine au1 ?_;refine T.N1 λb5=>?_;refine T.N1 λb6=>?_;refine au0 ?_;refine T.ik ?_;refine T.iN ((box b5 40 [sl aI o.1 aY,sl aJ o.2.1 aZ])::cC) k_ ?_;refine ta [0,1,3,4] ?_;refine TA.j 2 rfl (W1.i8 9 eStr (oc bt λy1 dW bt=>?_));obtain⟨hb8_r,hb8_m,rfl⟩:=ii dW;refine(W1.a (E:=eStr) (l:=([]:List ByteArray)) (m:=o.1) 0 16 i9_ (λg b=>(hJ.sF (hJ.mono d7 b.view))) hb8_r hb8_m (λeQ fk=>?_))
 refine TA.on (Hp.q vr (vt (vt (vt (vt (vt (vt (vt H I) J) K) L) O) M) Q)) (TA.j 5 rfl (W1.i8 46 ij (oc bt λy2 dX bt=>?_)));obtain⟨hb9_r,hb9_m,rfl⟩:=ii dX;refine(W1.a (E:=ij) (l:=([]:List DWrite)) (m:=o.2.1) 0 24 oR (λg b=>(hJ.sF (hJ.mono d8 b.view))) hb9_r hb9_m (λeR fl=>?_));refine TA.on (Hp.q vr (vt (vt (vt (vt (vt (vt (vt H I) J) K) L) O) M) Q)) ?_;refine ta [6] ?_;refine tj [7] ?_;refine TA.d ?_;cases bt;exact il;rintro v g ⟨rfl,bx,bM,bz,bN,rfl,b⟩;(try dsimp only at bZ);refine⟨U,((row 46 ij bx bM (([]:List DWrite)++o.2.1))::(row 9 eStr bz bN (([]:List ByteArray)++o.1))::cC),b,?_⟩;clear b;refine au0 ?_;cases bZ;exact il;rintro v g ⟨rfl,aK,a0,aL,a1,rfl,b⟩;(try dsimp only at k);let cZ:=row 46 ij aK a0 (([]:List DWrite)++o.2.1);refine⟨U,(cZ::(row 9 eStr aL a1 (([]:List ByteArray)++o.1))::ao::[]),b,?_⟩;clear b;refine T.je (E:=eStr) (H':=(cZ::ao::[])) 1 b_ rfl (λ_ _ _ _ h=>h) (λe2 Z d9=>?_);refine T.je (E:=ij) (H':=(ao::[])) 0 b_ rfl (λ_ _ _ _ h=>h) (λcF V ea=>?_)
 refine oc k λn dy k=>(T.ia (W1.ci 19 [.agg #[sl aL (([]:List ByteArray)++o.1) a1,sl aK (([]:List DWrite)++o.2.1) a0]] (λv g=>∃b7 aM a2 aN a3 ay aE ah,View.le cF ah/\hJ (made w ah) eStr aM a2 n.1/\hJ (made w ah) ij aN a3 n.2.1/\v=.tuple #[pB b7 0,vi 0]/\Hp w ah ((box b7 79 [sl aM n.1 a2,sl aN n.2.1 a3,vi n.2.2.1,sl ay n.2.2.2 aE])::(row 97 (eAt w iy) ay aE n.2.2.2)::ao::[]) g) (λg b=>ko F (([]:List ByteArray)++o.1) (([]:List DWrite)++o.2.1) n dy w aL a1 aK a0 cF (ao::[]) g (hJ.mono d9 (vt (iq _ _) V)) (hJ.mono ea (iq _ _)) (b.u)) ?_));rintro v g ⟨b7,aM,a2,aN,a3,ay,aE,ah,aa,eb,ec,rfl,b⟩;refine⟨_,_,b,?_⟩;clear b;refine au2 ?_;refine T.cb false (λh=>Bool.noConfusion h) (λ_=>?_);refine au1 ?_;refine oc k λq3 b0 k=>?_;let ca:=box b7 79 [sl aM n.1 a2,sl aN n.2.1 a3,vi n.2.2.1,sl ay n.2.2.2 aE];let eH:=row 97 (eAt w iy) ay aE n.2.2.2;let W:=ca::eH::[];refine T.ia (W1.im 14 [pB b7 0] (λv g=>q3=()/\∃aO a4 aP a5,v=.agg #[sl aP (([]:List ByteArray)++n.1) a5,sl aO (([]:List DWrite)++n.2.1) a4]/\Hp w ah ((row 46 ij aO a4 (([]:List DWrite)++n.2.1))::(row 9 eStr aP a5 (([]:List ByteArray)++n.1))::W) g) Tryz.func14 rfl rfl k_ (λ_=>k_) rfl ?_ ?_);refine au1 ?_;refine T.N1 λb8=>?_;refine au1 ?_;refine oc b0 λq4 bu b0=>?_;let cz:=box b8 40 [sN,sN]
 refine T.ia (W1.im 40 [.agg #[sl aM n.1 a2,sl aN n.2.1 a3]] (λv g=>q4=()/\∃bA bO bB bP,v=.agg #[sl bB (([]:List ByteArray)++n.1) bP,sl bA (([]:List DWrite)++n.2.1) bO]/\Hp w ah ((row 46 ij bA bO (([]:List DWrite)++n.2.1))::(row 9 eStr bB bP (([]:List ByteArray)++n.1))::cz::W) g) Tryz.func40 rfl rfl k_ (λ_=>k_) rfl ?_ ?_);refine au1 ?_;refine T.N1 λb9=>?_;refine T.N1 λfh=>?_;refine au0 ?_;refine T.ik ?_;refine T.iN ((box b9 40 [sl aM n.1 a2,sl aN n.2.1 a3])::cz::ca::ao::[]) k_ ?_;refine ta [0,1,3,4] ?_;refine TA.j 2 rfl (W1.i8 9 eStr (oc bu λy3 dz bu=>?_));obtain⟨hb11_r,hb11_m,rfl⟩:=ii dz;refine(W1.a (E:=eStr) (l:=([]:List ByteArray)) (m:=n.1) 0 16 i9_ (λg b=>(hJ.sF (hJ.mono (hJ.mono eb (iq _ _)) b.view))) hb11_r hb11_m (λeS fm=>?_));refine TA.on (Hp.q vr (vt (vt (vt (vt (vt (vt (vt (vt (vt (vt H I) J) K) L) O) M) Q) Z) V) aa)) (TA.j 5 rfl (W1.i8 46 ij (oc bu λy4 dA bu=>?_)));obtain⟨hb12_r,hb12_m,rfl⟩:=ii dA;refine(W1.a (E:=ij) (l:=([]:List DWrite)) (m:=n.2.1) 0 24 oR (λg b=>(hJ.sF (hJ.mono (hJ.mono ec (iq _ _)) b.view))) hb12_r hb12_m (λeT fn=>?_))
 refine TA.on (Hp.q vr (vt (vt (vt (vt (vt (vt (vt (vt (vt (vt H I) J) K) L) O) M) Q) Z) V) aa)) ?_;refine ta [6] ?_;refine tj [7] ?_;refine TA.d ?_;cases bu;exact il;rintro v g ⟨rfl,bA,bO,bB,bP,rfl,b⟩;(try dsimp only at b0);refine⟨ah,((row 46 ij bA bO (([]:List DWrite)++n.2.1))::(row 9 eStr bB bP (([]:List ByteArray)++n.1))::cz::W),b,?_⟩;clear b;refine au0 ?_;cases b0;exact il;rintro v g ⟨rfl,aO,a4,aP,a5,rfl,b⟩;(try dsimp only at k);let cU:=row 46 ij aO a4 (([]:List DWrite)++n.2.1);refine⟨ah,(cU::(row 9 eStr aP a5 (([]:List ByteArray)++n.1))::W),b,?_⟩;clear b;refine T.je (E:=eStr) (H':=(cU::W)) 1 b_ rfl (λ_ _ _ _ h=>h) (λe3 av ed=>?_);refine T.je (E:=ij) (H':=W) 0 b_ rfl (λ_ _ _ _ h=>h) (λcG am ee=>?_);refine oc k λp dB k=>(T.ia (W1.ci 19 [.agg #[sl aP (([]:List ByteArray)++n.1) a5,sl aO (([]:List DWrite)++n.2.1) a4]] (λv g=>∃A ae aj af ak az aF aB,View.le cG aB/\hJ (made w aB) eStr ae aj p.1/\hJ (made w aB) ij af ak p.2.1/\v=.tuple #[pB A 0,vi 0]/\Hp w aB ((box A 79 [sl ae p.1 aj,sl af p.2.1 ak,vi p.2.2.1,sl az p.2.2.2 aF])::(row 97 (eAt w iy) az aF p.2.2.2)::W) g) (λg b=>ko F (([]:List ByteArray)++n.1) (([]:List DWrite)++n.2.1) p dB w aP a5 aO a4 cG W g (hJ.mono ed (vt (iq _ _) am)) (hJ.mono ee (iq _ _)) (b.u)) ?_))
 rintro v g ⟨A,ae,aj,af,ak,az,aF,aB,aw,cQ,cR,rfl,b⟩;refine⟨_,_,b,?_⟩;clear b;refine au0 ?_;refine T.ik (oc k λz2 R k=>?_);refine T.iD (λa g=>∃bD bR bK,View.le aB bK/\hJ (made w bK) iy bD bR p.2.2.2/\Fr 128 [(0,sl y x B),(1,sl A2 p1 c2),(11,pB A 0),(85,.bool z2)] a/\Hp w bK ((box A 79 [sl ae p.1 aj,sl af p.2.1 ak,vi p.2.2.1,sl bD p.2.2.2 bR])::[]) g) ?_ ?_;refine au1 ?_;refine oc R λz3 cv R=>?_;let bv:=box A 79 [sl ae p.1 aj,sl af p.2.1 ak,vi p.2.2.1,sl az p.2.2.2 aF];let eE:=row 97 (eAt w iy) az aF p.2.2.2;let eO:=eE::W;let cd:=bv::eO;refine T.ia (W1.im 10 [pB b7 0] (λv g=>∃bd bo bh,View.le aB bh/\hJ (made w bh) eElem bd bo z3/\v=.slice bd z3.length bo/\Hp w bh cd g) Tryz.func10 rfl rfl k_ (λ_=>k_) rfl ?_ ?_);refine au2 ?_;refine oc cv λc0 dC cv=>(T.ia (W1.w1 (vT2 (vSc (ku eElem)) (vSc hO)) c0 33 #[.agg #[vi n.2.2.1,sl ay n.2.2.2 aE]] (λg b=>jL F (DTree.mk n.2.2.1 n.2.2.2) c0 dC g ay aE (b.row_slOk (i:=3) b_).ofAt) ?_));intro u e4 fv t;obtain⟨u3,u4,rfl,ex,ey⟩:=iP t;obtain⟨eU,fo,rfl,fK⟩:=i9 ex;obtain rfl:=ic _ _ _ ey;refine au1 ?_;cases cv;exact il;rintro v g ⟨bd,bo,bh,cM,eg,rfl,b⟩;refine⟨bh,cd,b,?_⟩;clear b;refine au0 ?_
 refine oc R λcA dD R=>(T.ia (W1.w1 (vSc eBool) cA 20 #[sl bd z3 bo,sl y x B] (λg b=>ji F z3 x cA dD g bd bo (hJ.mono (hJ.mono eg (iq _ _)) b.view) y B (hJ.mono (hJ.mono bc (vt (vt (vt (vt (vt (vt (vt (vt (vt (vt (vt (vt (vt (vt H I) J) K) L) O) M) Q) Z) V) aa) av) am) aw) cM)) b.view)) ?_));intro u dj dr t;obtain rfl:=jH _ _ _ t;refine au0 ?_;cases cO:(!cA);rw[cO,cond_false] at R;refine au0 ?_;refine oc R λz4 cw R=>(T.ia (W1.im 10 [pB A 0] (λv g=>∃be bp bi,View.le dj bi/\hJ (made w bi) eElem be bp z4/\v=.slice be z4.length bp/\Hp w bi cd g) Tryz.func10 rfl rfl k_ (λ_=>k_) rfl ?_ ?_));refine au2 ?_;refine oc cw λda dE cw=>(T.ia (W1.w1 (vT2 (vSc (ku eElem)) (vSc hO)) da 33 #[.agg #[vi p.2.2.1,sl az p.2.2.2 aF]] (λg b=>jL F (DTree.mk p.2.2.1 p.2.2.2) da dE g az aF (b.row_slOk (i:=1) b_).ofAt) ?_));intro u e5 fw t;obtain⟨u5,u6,rfl,ez,eA⟩:=iP t;obtain⟨eV,fp,rfl,fL⟩:=i9 ez;obtain rfl:=ic _ _ _ eA;refine au1 ?_;cases cw;exact il;rintro v g ⟨be,bp,bi,ds,eh,rfl,b⟩;refine⟨bi,cd,b,?_⟩;clear b;refine au0 ?_;refine oc R λdb dF R=>(T.ia (W1.w1 (vSc eBool) db 20 #[sl be z4 bp,sl y x B] (λg b=>ji F z4 x db dF g be bp (hJ.mono (hJ.mono eh (iq _ _)) b.view) y B (hJ.mono (hJ.mono bc (vt (vt (vt (vt (vt (vt (vt (vt (vt (vt (vt (vt (vt (vt (vt (vt H I) J) K) L) O) M) Q) Z) V) aa) av) am) aw) cM) dr) ds)) b.view)) ?_));intro u e6 fx t;obtain rfl:=jH _ _ _ t;refine au0 ?_;refine T.kr (E:=iy) (H':=(bv::W)) 1 b_ rfl (λe7 fy fM=>?_)
 refine T.kr (E:=iy) (H':=(bv::ca::[])) 2 b_ rfl (λe8 fz fN=>?_);cases R;exact ie;rw[cO,cond_true] at R;refine au0 ?_;refine T.kr (E:=iy) (H':=(bv::W)) 1 b_ rfl (λe9 fA fO=>?_);refine T.kr (E:=iy) (H':=(bv::ca::[])) 2 b_ rfl (λfa fB fP=>?_);cases R;exact ie;rintro a g ⟨bD,bR,bK,ab,ef,hf,b⟩;revert hf b;refine T.i ?_;revert k;refine T.c (λd1 k=>?_) (λd1 k=>?_);refine au1 ?_;cases k;exact il;refine au1 ?_;refine oc k λcc dG k=>(T.ia (W1.w1 (vT2 (vSc (ku eElem)) (vSc hO)) cc 28 #[sl y x B,sl A2 p1 c2] (λg b=>rF F x p1 cc dG g y B (hJ.mono (hJ.mono bc (vt (vt (vt (vt (vt (vt (vt (vt (vt (vt (vt (vt (vt (vt H I) J) K) L) O) M) Q) Z) V) aa) av) am) aw) ab)) b.view) A2 c2 (hJ.mono (hJ.mono cP (vt (vt (vt (vt (vt (vt (vt (vt (vt (vt (vt (vt (vt (vt H I) J) K) L) O) M) Q) Z) V) aa) av) am) aw) ab)) b.view)) ?_));intro u cI an t;obtain⟨u7,u8,rfl,eB,eC⟩:=iP t;obtain⟨cE,cL,rfl,ej⟩:=i9 eB;obtain rfl:=ic _ _ _ eC;refine au2 ?_;refine oc k λC dH k=>(T.ia (W1.ci 27 [pB A 0,sl A2 p1 c2] (λv g=>∃ag al aC,View.le cI aC/\hJ aC iy ag al C.2.1/\v=vi C.2.2/\Hp w aC ((box A 79 [sl ae p.1 aj,sl af p.2.1 ak,vi C.1,sl ag C.2.1 al])::[]) g) (λg b=>nj F p.1 p.2.1 p.2.2.1 p.2.2.2 p1 C dH w A ae aj af ak bD bR A2 c2 cI [] g (hJ.mono cQ (vt (iq _ _) (vt ab an))) (hJ.mono cR (vt (iq _ _) (vt ab an))) (hJ.mono ef (vt (iq _ _) an)) (hJ.mono cP (vt (vt (vt (vt (vt (vt (vt (vt (vt (vt (vt (vt (vt (vt (vt H I) J) K) L) O) M) Q) Z) V) aa) av) am) aw) ab) an)) (b.u)) ?_))
 rintro v g ⟨ag,al,aC,bb,cS,rfl,b⟩;refine⟨_,_,b,?_⟩;clear b;refine au0 ?_;revert k;refine T.c (λd2 k=>?_) (λd2 k=>?_);refine au1 ?_;cases k;exact il;refine au2 ?_;revert k;refine T.c (λd3 k=>?_) (λd3 k=>?_);refine au1 ?_;refine oc k λz5 cx k=>?_;let cV:=box A 79 [sl ae p.1 aj,sl af p.2.1 ak,vi C.1,sl ag C.2.1 al];refine T.ia (W1.im 10 [pB A 0] (λv g=>∃bf bq bj,View.le aC bj/\hJ (made w bj) eElem bf bq z5/\v=.slice bf z5.length bq/\Hp w bj (cV::[]) g) Tryz.func10 rfl rfl k_ (λ_=>k_) rfl ?_ ?_);refine au2 ?_;refine oc cx λdc dJ cx=>(T.ia (W1.w1 (vT2 (vSc (ku eElem)) (vSc hO)) dc 33 #[.agg #[vi C.1,sl ag C.2.1 al]] (λg b=>jL F (DTree.mk C.1 C.2.1) dc dJ g ag al (hJ.mono cS b.view)) ?_));intro u fb fC t;obtain⟨u9,fZ,rfl,eD,et⟩:=iP t;obtain⟨eW,fq,rfl,fQ⟩:=i9 eD;obtain rfl:=ic _ _ _ et;refine au1 ?_;cases cx;exact il;rintro v g ⟨bf,bq,bj,dt,ek,rfl,b⟩;refine⟨bj,(cV::[]),b,?_⟩;clear b;refine au0 ?_;refine oc k λdd dK k=>(T.ia (W1.w1 (vSc eBool) dd 20 #[sl bf z5 bq,sl y x B] (λg b=>ji F z5 x dd dK g bf bq (hJ.mono (hJ.mono ek (iq _ _)) b.view) y B (hJ.mono (hJ.mono bc (vt (vt (vt (vt (vt (vt (vt (vt (vt (vt (vt (vt (vt (vt (vt (vt (vt H I) J) K) L) O) M) Q) Z) V) aa) av) am) aw) ab) an) bb) dt)) b.view)) ?_));intro u fc fD t;obtain rfl:=jH _ _ _ t;refine au0 ?_;cases k;exact il;refine au2 ?_
 refine oc k λs dL k=>(T.ia (W1.ci 13 [pB A 0] (λv g=>∃aR a7 aS a8 cl cq X,View.le aC X/\hJ X eStr aR a7 s.1/\hJ X ij aS a8 s.2.1/\hJ (made w X) iC cl cq s.2.2.1/\v=.tuple #[sl cl s.2.2.1 cq,vi s.2.2.2]/\Hp w X ((box A 79 [sl aR s.1 a7,sl aS s.2.1 a8,vi C.1,sl ag C.2.1 al])::[]) g) (λg b=>jx F p.1 p.2.1 C.1 C.2.1 s dL w A ae aj af ak ag al aC [] g (hJ.mono cQ (vt (iq _ _) (vt (vt ab an) bb))) (hJ.mono cR (vt (iq _ _) (vt (vt ab an) bb))) cS (b.u)) ?_));rintro v g ⟨aR,a7,aS,a8,cl,cq,X,cs,el,em,fR,rfl,b⟩;refine⟨_,_,b,?_⟩;clear b;refine au1 ?_;revert k;refine T.c (λd4 k=>?_) (λd4 k=>?_);refine au1 ?_;cases k;exact il;refine au1 ?_;refine oc k λq5 bY k=>?_;let aH:=box A 79 [sl aR s.1 a7,sl aS s.2.1 a8,vi C.1,sl ag C.2.1 al];refine T.ia (W1.im 14 [pB A 0] (λv g=>q5=()/\∃aT a9 aU ba,v=.agg #[sl aU (([]:List ByteArray)++s.1) ba,sl aT (([]:List DWrite)++s.2.1) a9]/\Hp w X ((row 46 ij aT a9 (([]:List DWrite)++s.2.1))::(row 9 eStr aU ba (([]:List ByteArray)++s.1))::aH::[]) g) Tryz.func14 rfl rfl k_ (λ_=>k_) rfl ?_ ?_);refine au1 ?_;refine T.N1 λdk=>?_;refine au1 ?_;refine oc bY λq6 bs bY=>?_;let eF:=box dk 40 [sN,sN];let cB:=eF::aH::[]
 refine T.ia (W1.im 40 [.agg #[sl aR s.1 a7,sl aS s.2.1 a8]] (λv g=>q6=()/\∃bE bS bF bT,v=.agg #[sl bF (([]:List ByteArray)++s.1) bT,sl bE (([]:List DWrite)++s.2.1) bS]/\Hp w X ((row 46 ij bE bS (([]:List DWrite)++s.2.1))::(row 9 eStr bF bT (([]:List ByteArray)++s.1))::cB) g) Tryz.func40 rfl rfl k_ (λ_=>k_) rfl ?_ ?_);refine au1 ?_;refine T.N1 λdl=>?_;refine T.N1 λfi=>?_;refine au0 ?_;refine T.ik ?_;refine T.iN ((box dl 40 [sl aR s.1 a7,sl aS s.2.1 a8])::cB) k_ ?_;refine ta [0,1,3,4] ?_;refine TA.j 2 rfl (W1.i8 9 eStr (oc bs λy5 dM bs=>?_));obtain⟨hb23_r,hb23_m,rfl⟩:=ii dM;refine(W1.a (E:=eStr) (l:=([]:List ByteArray)) (m:=s.1) 0 16 i9_ (λg b=>(hJ.sF (hJ.mono el b.view))) hb23_r hb23_m (λeX fr=>?_));refine TA.on (Hp.q vr (vt (vt (vt (vt (vt (vt (vt (vt (vt (vt (vt (vt (vt (vt (vt (vt (vt H I) J) K) L) O) M) Q) Z) V) aa) av) am) aw) ab) an) bb) cs)) (TA.j 5 rfl (W1.i8 46 ij (oc bs λy6 dN bs=>?_)));obtain⟨hb24_r,hb24_m,rfl⟩:=ii dN;refine(W1.a (E:=ij) (l:=([]:List DWrite)) (m:=s.2.1) 0 24 oR (λg b=>(hJ.sF (hJ.mono em b.view))) hb24_r hb24_m (λeY fs=>?_))
 refine TA.on (Hp.q vr (vt (vt (vt (vt (vt (vt (vt (vt (vt (vt (vt (vt (vt (vt (vt (vt (vt H I) J) K) L) O) M) Q) Z) V) aa) av) am) aw) ab) an) bb) cs)) ?_;refine ta [6] ?_;refine tj [7] ?_;refine TA.d ?_;cases bs;exact il;rintro v g ⟨rfl,bE,bS,bF,bT,rfl,b⟩;(try dsimp only at bY);refine⟨X,((row 46 ij bE bS (([]:List DWrite)++s.2.1))::(row 9 eStr bF bT (([]:List ByteArray)++s.1))::cB),b,?_⟩;clear b;refine au0 ?_;cases bY;exact il;rintro v g ⟨rfl,aT,a9,aU,ba,rfl,b⟩;(try dsimp only at k);let cW:=row 46 ij aT a9 (([]:List DWrite)++s.2.1);refine⟨X,(cW::(row 9 eStr aU ba (([]:List ByteArray)++s.1))::aH::[]),b,?_⟩;clear b;refine T.je (E:=eStr) (H':=(cW::aH::[])) 1 b_ rfl (λ_ _ _ _ h=>h) (λfd du en=>?_);refine T.je (E:=ij) (H':=(aH::[])) 0 b_ rfl (λ_ _ _ _ h=>h) (λcJ cN eo=>?_);refine oc k λD dO k=>(T.ia (W1.ci 19 [.agg #[sl aU (([]:List ByteArray)++s.1) ba,sl aT (([]:List DWrite)++s.2.1) a9]] (λv g=>∃bm bG bU bH bV aA aG aW,View.le cJ aW/\hJ (made w aW) eStr bG bU D.1/\hJ (made w aW) ij bH bV D.2.1/\v=.tuple #[pB bm 0,vi 0]/\Hp w aW ((box bm 79 [sl bG D.1 bU,sl bH D.2.1 bV,vi D.2.2.1,sl aA D.2.2.2 aG])::(row 97 (eAt w iy) aA aG D.2.2.2)::aH::[]) g) (λg b=>ko F (([]:List ByteArray)++s.1) (([]:List DWrite)++s.2.1) D dO w aU ba aT a9 cJ (aH::[]) g (hJ.mono en (vt (iq _ _) cN)) (hJ.mono eo (iq _ _)) (b.u)) ?_))
 rintro v g ⟨bm,bG,bU,bH,bV,aA,aG,aW,dv,fT,fU,rfl,b⟩;refine⟨_,_,b,?_⟩;clear b;refine au1 ?_;refine oc k λz6 cu k=>?_;let cX:=box bm 79 [sl bG D.1 bU,sl bH D.2.1 bV,vi D.2.2.1,sl aA D.2.2.2 aG];let cY:=row 97 (eAt w iy) aA aG D.2.2.2;refine T.ia (W1.im 10 [pB bm 0] (λv g=>∃bg br bk,View.le aW bk/\hJ (made w bk) eElem bg br z6/\v=.slice bg z6.length br/\Hp w bk (cX::cY::[]) g) Tryz.func10 rfl rfl k_ (λ_=>k_) rfl ?_ ?_);refine au2 ?_;refine oc cu λde dP cu=>(T.ia (W1.w1 (vT2 (vSc (ku eElem)) (vSc hO)) de 33 #[.agg #[vi D.2.2.1,sl aA D.2.2.2 aG]] (λg b=>jL F (DTree.mk D.2.2.1 D.2.2.2) de dP g aA aG (b.row_slOk (i:=1) b_).ofAt) ?_));intro u fe fE t;obtain⟨f0,f1,rfl,eu,ev⟩:=iP t;obtain⟨eZ,ft,rfl,fV⟩:=i9 eu;obtain rfl:=ic _ _ _ ev;refine au1 ?_;cases cu;exact il;rintro v g ⟨bg,br,bk,dw,ep,rfl,b⟩;refine⟨bk,(cX::cY::[]),b,?_⟩;clear b;refine au0 ?_;refine oc k λdf dQ k=>(T.ia (W1.w1 (vSc eBool) df 20 #[sl bg z6 br,sl cE cc.1 cL] (λg b=>ji F z6 cc.1 df dQ g bg br (hJ.mono (hJ.mono ep (iq _ _)) b.view) cE cL (hJ.mono (hJ.mono ej (vt (iq _ _) (vt (vt (vt (vt (vt bb cs) du) cN) dv) dw))) b.view)) ?_));intro u ff fF t;obtain rfl:=jH _ _ _ t;refine au0 ?_;cases k;exact il
section
def ofL (l:List UInt8):ByteArray:=⟨l.toArray⟩
theorem GP (s:ByteArray):∃l,s=ofL l:=⟨s.data.toList,rfl⟩
@[simp] theorem DR (l:List UInt8):(ofL l).size=l.length:=rfl
theorem HQ {a b:List UInt8}:ofL a=ofL b↔a=b:=by
 constructor
 . intro h;have:=congrArg (λs:ByteArray=>s.data.toList) h;simpa[ofL] using this
 . rintro rfl;rfl
theorem zZ (l:List UInt8)(i:Int):qP (ofL l) i=if 0<=i then l[i.toNat]? else none:=by
 unfold qP;split
 . show (if h:i.toNat<l.toArray.size then some l.toArray[i.toNat] else none)=_;by_cases hi:i.toNat<l.length
   . rw[dif_pos (by simpa using hi),a_ hi];rfl
   . rw[dif_neg (by simpa using hi),j_ o_]
 . rfl
theorem He (a b:List UInt8):ofL a++ofL b=ofL (a++b):=by
 have:(ofL a++ofL b).data=(ofL (a++b)).data:=by rw[ByteArray.data_append];simp[ofL]
 exact ByteArray.ext this
theorem xm {a b:List UInt8}(h:a.length+b.length<=9223372036854775807):m5 (ofL a) (ofL b)=some (ofL (a++b)):=by unfold m5;rw[if_pos (by simpa using h),He]
theorem Gi (l:List UInt8)(lo hi:Nat):(ofL l).extract lo hi=ofL ((l.take hi).drop lo):=by apply ByteArray.ext;rw[ByteArray.data_extract];simp[ofL,List.extract,List.drop_take]
theorem w8 {l:List UInt8}{lo hi:Int}(h0:0<=lo)(h1:lo<=hi)(h2:hi<=l.length):km (ofL l) lo hi=some (ofL ((l.take hi.toNat).drop lo.toNat)):=by unfold km;rw[if_pos ⟨h0,h1,by simpa using h2⟩,Gi]
theorem KY (a b:List UInt8):seq (ofL a) (ofL b)=(a==b):=by rw[Bool.eq_iff_iff,tF,HQ];simp
theorem GH (l:List Int):lW l=ofL (l.map λn=>d_ n.toNat):=by
 have key:∀(l:List Int) (s:ByteArray),l.foldl (λs n=>s.push (d_ n.toNat)) s=ofL (s.data.toList++l.map λn=>d_ n.toNat):=by
  intro l
  induction l with
  |nil=>intro s;simp[ofL]
  |cons n l ih=>intro s;rw[u_,ih];congr 1;simp
 simpa[lW] using key l ByteArray.empty
theorem zc (l:List UInt8):lW (l.map λb=>(b.toNat:Int))=ofL l:=by
 rw[GH,List.map_map];congr 1;have:(λb:UInt8=>d_ ((b.toNat:Int)).toNat)=id:=by funext b;simp
 rw[show (λn:Int=>d_ n.toNat)∘(λb:UInt8=>(b.toNat:Int))=id from this,List.map_id]
theorem vT {α β:Type}(a:α)(f:α->Option β):(some a).bind f=f a:=by
 have h:∀o:Option α,o=some a->o.bind f=f a:=λo ho=>by rw[ho];rfl
 exact h _ rfl
theorem wi {α:Type}(a b:α):(bif true then a else b)=a:=by
 have h:∀c:Bool,c=true->(bif c then a else b)=a:=λc hc=>by rw[hc];rfl
 exact h _ rfl
theorem vY {α:Type}(a b:α):(bif false then a else b)=b:=by
 have h:∀c:Bool,c=false->(bif c then a else b)=b:=λc hc=>by rw[hc];rfl
 exact h _ rfl
theorem Be {σ ρ:Type}{f:σ->Option (σ⊕ρ)}(g:Nat->σ)(W:Nat->Option ρ)(n:Nat){res:ρ}(hs:∀k,k<n->f (g k)=some (match W k with|some r=>.inr r|none=>.inl (g (k+1))))(he:f (g n)=some (.inr res)) :
 ∀(m k N:Nat),k+m=n->m<N->iter f N (g k)=some (((List.range' k m).findSome? W).getD res)
 |0,k,N,hk,hN=>by obtain⟨N,rfl⟩:∃M,N=M+1:=⟨N-1,by omega⟩;rw[iter,show k=n by omega,he];rfl
 |m+1,k,N,hk,hN=>by
  obtain⟨N,rfl⟩:∃M,N=M+1:=⟨N-1,by omega⟩;rw[iter,hs k o_,List.range'_succ,g_]
  cases hW:W k with
  |some r=>rfl
  |none=>exact Be g W n hs he m (k+1) N o_ o_
theorem wu {n:Int}(h0:-9223372036854775808<=n)(h1:n<=9223372036854775807):IntKind.i64.wrap n=n:=by rw[IntKind.wrap_i64];omega
theorem LB (n:Int):IntKind.u8.wrap n=n % 256:=by simp[IntKind.wrap,IntKind.bits,IntKind.signed]
theorem FG (n:Int):IntKind.u16.wrap n=n % 65536:=by simp[IntKind.wrap,IntKind.bits,IntKind.signed]
end
section
def stp (x:BitVec 16):BitVec 16:=if x.msb then (x <<< 1) ^^^ 0x1021#16 else x <<< 1
def IP (b:Bool):BitVec 16:=if b then 0x1021#16 else 0#16
theorem Fy (x:BitVec 16):stp x=(x <<< 1) ^^^ IP x.msb:=by unfold stp IP;split <;> simp_all
theorem J0 (a b:Bool):IP (a ^^ b)=IP a ^^^ IP b:=by cases a <;> cases b <;> rfl
theorem LQ (a b c d:BitVec 16):(a ^^^ b) ^^^ (c ^^^ d)=(a ^^^ c) ^^^ (b ^^^ d):=by rw[BitVec.xor_assoc,<-BitVec.xor_assoc b c d,BitVec.xor_comm b c,BitVec.xor_assoc c b d,<-BitVec.xor_assoc]
theorem K3 (x y:BitVec 16):stp (x ^^^ y)=stp x ^^^ stp y:=by rw[Fy,Fy,Fy,BitVec.msb_xor,J0,BitVec.shiftLeft_xor_distrib,LQ]
def fd (x:BitVec 16)(b:Bool):BitVec 16:=stp (x ^^^ (if b then 0x8000#16 else 0#16))
def Ea (x:BitVec 16)(l:List Bool):BitVec 16:=l.foldl fd x
def JH (b:Bool):BitVec 16:=if b then 0x8000#16 else 0#16
theorem F0 (x:BitVec 16)(l m:List Bool):Ea x (l++m)=Ea (Ea x l) m:=List.foldl_append
def FF:List Bool->BitVec 16
 |[]=>0#16
 |b::l=>JH b ^^^ (FF l >>> 1)
def Fz:Nat->BitVec 16->BitVec 16
 |0,x=>x
 |n+1,x=>Fz n (stp x)
theorem GA:∀(l:List Bool) (i:Nat),i+l.length<16->(FF l).getLsbD i=false
 |[],i,_=>by simp[FF]
 |b::l,i,h=>by
  have h1:=GA l (i+1) (by simp at h;omega)
  have h2:(JH b).getLsbD i=false:=by
   cases b
   . simp[JH]
   . have:i<15:=(by simp at h;omega);simp only[JH,if_true];rw[show (0x8000#16:BitVec 16)=BitVec.twoPow 16 15 from rfl,BitVec.getLsbD_twoPow];simp;omega
  simp[FF,h1,h2,Nat.add_comm 1 i]
theorem Kj {y:BitVec 16}(h0:y.getLsbD 0=false):stp (y >>> 1)=y:=by
 have hm:(y >>> 1).msb=false:=by rw[BitVec.msb_eq_getLsbD_last];simp
 rw[Fy,hm];simp only[IP,Bool.false_eq_true,if_false,BitVec.xor_zero];apply BitVec.eq_of_getLsbD_eq;intro i hi;rcases Nat.eq_zero_or_pos i with rfl|hp
 . simp;simpa using h0
 . rw[BitVec.getLsbD_shiftLeft,BitVec.getLsbD_ushiftRight];simp[hi,show ¬ i<1 by omega,show 1+(i-1)=i by omega]
theorem En:∀(l:List Bool) (x:BitVec 16),l.length<=16->Ea x l=Fz l.length (x ^^^ FF l)
 |[],x,_=>by simp[Ea,Fz,FF]
 |b::l,x,h=>by
  have hl:l.length<=15:=by simpa using h
  show Ea (fd x b) l=Fz l.length (stp (x ^^^ (JH b ^^^ (FF l >>> 1))));rw[En l _ o_,<-BitVec.xor_assoc,K3,Kj (GA l 0 o_)];rfl
def FO (b:UInt8):List Bool:=(List.range 8).map λj=>b.toNat.testBit (7-j)
def Dt (l:List UInt8):List Bool:=l.flatMap FO
def crc (l:List UInt8):BitVec 16:=Ea 0#16 (Dt l)
theorem BX (b:UInt8):(FO b).length=8:=by simp[FO]
theorem ET (a b:List UInt8):Dt (a++b)=Dt a++Dt b:=List.flatMap_append
theorem Hz (b:UInt8):FF (FO b)=BitVec.ofNat 16 b.toNat <<< 8:=by
 have:∀n,n<256->FF ((List.range 8).map λj=>n.testBit (7-j))=BitVec.ofNat 16 n <<< 8:=by decide +kernel
 exact this _ b.toNat_lt
def Jn (x:BitVec 16)(b:UInt8):BitVec 16:=Fz 8 (x ^^^ (BitVec.ofNat 16 b.toNat <<< 8))
theorem Ib (x:BitVec 16)(b:UInt8):Ea x (FO b)=Jn x b:=by rw[En _ _ (by rw[BX];decide),BX,Hz];rfl
theorem GN (a b:List UInt8):crc (a++b)=Ea (crc a) (Dt b):=by rw[crc,ET,F0];rfl
end
section
theorem obs {α:Type _}{β:Type _}(a:α)(f:α->Option β):(some a).bind f=f a:=rfl
theorem gge {α:Type _}{l:List α}{i:Nat}(h:i<l.length):l[i]? = some l[i]:=a_ h
theorem ggs {α:Type _}{l:List α}{i:Nat}{a:α}:l[i]? = some a↔∃h:i<l.length,l[i]=a:=q_
theorem w64 {n:Int}(h0:-9223372036854775808<=n)(h1:n<=9223372036854775807):IntKind.i64.wrap n=n:=by rw[IntKind.wrap_i64];omega
theorem vX {α:Type}(l:List α)(k:Nat):idx l (k:Int)=l[k]?:=by unfold idx;rw[if_neg o_,Int.toNat_natCast]
theorem wq {α:Type}{b:Nat}{l m:List α}(h:(l.length+m.length)*b<=140737488355328)(hm:l.length+m.length<=9223372036854775807):grow b l m=some (l++m):=by unfold grow;rw[if_pos ⟨h,by unfold maxLen;omega⟩]
theorem CF {α:Type}{l:List α}{lo hi:Int}(h0:0<=lo)(h1:lo<=hi)(h2:hi<=l.length):js l lo hi=some ((l.take hi.toNat).drop lo.toNat):=by unfold js;rw[if_pos ⟨h0,h1,h2⟩]
theorem xf {α:Type}{l:List α}{k:Nat}(h:k<=l.length):js l 0 (k:Int)=some (l.take k):=by rw[CF o_ o_ o_];simp
theorem wJ {α:Type}{l:List α}{k:Nat}(h:k<=l.length):js l (k:Int) (l.length:Int)=some (l.drop k):=by rw[CF o_ o_ o_];simp
theorem wH {c:Int}(h:c≠0):(c !=0)=true:=by simpa using h
theorem wv {c:Int}(h:c=0):(c !=0)=false:=by simp[h]
section loops
variable {σ ρ α τ:Type} {F:Nat}
theorem HM {f:σ->Option (σ⊕ρ)}(g:Nat->σ){r:ρ}:∀(n:Nat) (N:Nat),(∀k,k<n->f (g k)=some (.inl (g (k+1))))->f (g n)=some (.inr r)->n<N->iter f N (g 0)=some r
 |0,N,_,he,hN=>by obtain⟨N,rfl⟩:∃M,N=M+1:=⟨N-1,by omega⟩;rw[iter,he]
 |n+1,N,hs,he,hN=>by obtain⟨N,rfl⟩:∃M,N=M+1:=⟨N-1,by omega⟩;rw[iter,hs 0 o_];exact HM (λk=>g (k+1)) n N (λk hk=>hs (k+1) o_) he o_
theorem zG [h:Big F]{n:Nat}(hn:n<=9223372036854775807):n<F:=by have:=h.le;omega
theorem wB [Big F]{f:σ->Option (σ⊕ρ)}(g:Nat->σ)(n:Nat){r:ρ}{s:σ}(h0:s=g 0)(hn:n<=9223372036854775807)(hs:∀k,k<n->f (g k)=some (.inl (g (k+1))))(he:f (g n)=some (.inr r)):iter f F s=some r:=by rw[h0];exact HM g n F hs he (zG hn)
theorem JL [Big F]{f:σ->Option (σ⊕ρ)}(g:Nat->σ){r:ρ}(n:Nat)(hs:∀k,k<n->f (g k)=some (.inl (g (k+1))))(he:f (g n)=some (.inr r))(hn:n<=9223372036854775807){s:σ}(h0:s=g 0):iter f F s=some r :=
 wB g n h0 hn hs he
theorem yv [Big F]{f:σ->Option (σ⊕ρ)}{k:ρ->Option τ}{q:τ}(g:Nat->σ){r:ρ}(n:Nat){s:σ}(hn:n<=9223372036854775807)(h0:s=g 0)(hk:k r=some q)(hs:∀k,k<n->f (g k)=some (.inl (g (k+1))))(he:f (g n)=some (.inr r)) :
 (iter f F s).bind k=some q:=by
 rw[wB g n h0 hn hs he];exact hk
theorem xY [Big F]{f:Int->Option (Int⊕ρ)}(l:List α)(w:Nat->α->Option ρ)(res:ρ)(hn:l.length<=9223372036854775807){s:Int}(h0:s=0)
 (hs:∀(k:Nat) (e:α),l[k]? = some e->(∀j x,j<k->l[j]? = some x->w j x=none)->f (k:Int)=some (match w k e with|some r=>.inr r|none=>.inl ((k:Int)+1)))
 (he:f (l.length:Int)=some (.inr res)):iter f F s=some (((l.zipIdx).findSome? λp=>w p.2 p.1).getD res):=by
 subst h0
 have key:∀(m k N:Nat),k+m=l.length->m<N->(∀j x,j<k->l[j]? = some x->w j x=none)->iter f N (k:Int)=some ((((l.drop k).zipIdx k).findSome? λp=>w p.2 p.1).getD res):=by
  intro m
  induction m with
  |zero=>intro k N hk hN _;obtain⟨N,rfl⟩:∃M,N=M+1:=⟨N-1,by omega⟩;rw[iter,show k=l.length by omega,he,List.drop_length];rfl
  |succ m ih =>
   intro k N hk hN hb;obtain⟨N,rfl⟩:∃M,N=M+1:=⟨N-1,by omega⟩;have hkl:k<l.length:=o_;rw[iter,hs k l[k] (a_ hkl) hb,x_ hkl,List.zipIdx_cons,g_];dsimp only
   cases hw:w k l[k] with
   |some r=>rfl
   |none =>
    refine ih (k+1) N o_ o_ λj x hj hx=>?_;rcases Nat.lt_or_ge j k with h1|h1
    . exact hb j x h1 hx
    . obtain rfl:j=k:=o_;rw[a_ hkl] at hx;obtain rfl:=Option.some.inj hx;exact hw
 have:=key l.length 0 F o_ (zG hn) (λj x hj=>by omega);rw[List.drop_zero] at this;exact this
theorem Ag [Big F]{f:Int->Option (Int⊕ρ)}(l:List α)(w:α->Option ρ)(res:ρ)(hn:l.length<=9223372036854775807){s:Int}(h0:s=0)
 (hs:∀(k:Nat) (e:α),l[k]? = some e->f (k:Int)=some (match w e with|some r=>.inr r|none=>.inl ((k:Int)+1)))
 (he:f (l.length:Int)=some (.inr res)):iter f F s=some ((l.findSome? w).getD res):=by
 rw[xY l (λ_ e=>w e) res hn h0 (λk e hk _=>hs k e hk) he];congr 2
 have:∀(l:List α) (n:Nat),(l.zipIdx n).findSome? (λp=>w p.1)=l.findSome? w:=by
  intro l
  induction l with
  |nil=>intro n;rfl
  |cons a l ih=>intro n;rw[List.zipIdx_cons,g_,g_,ih]
 exact this l 0
theorem yr {l:List α}{w:Nat->α->Option ρ}:(l.zipIdx.findSome? λp=>w p.2 p.1)=none↔∀k e,l[k]? = some e->w k e=none:=by
 rw[List.findSome?_eq_none_iff];constructor
 . intro h k e hk;exact h (e,k) (by rw[v_];exact hk)
 . rintro h ⟨e,k⟩ hp;rw[v_] at hp;exact h k e hp
theorem zO {l:List α}{w:Nat->α->Option ρ}{r:ρ}(h:(l.zipIdx.findSome? λp=>w p.2 p.1)=some r):∃k e,l[k]? = some e/\w k e=some r:=by obtain⟨⟨e,k⟩,hp,hr⟩:=List.exists_of_findSome?_eq_some h;rw[v_] at hp;exact⟨k,e,hp,hr⟩
theorem xo [Big F]{f:τ×Int->Option ((τ×Int)⊕ρ)}(l:List α)(st:τ->α->τ)(a0:τ){r:ρ}(hn:l.length<=9223372036854775807){s:τ×Int}(h0:s=(a0,0))
 (hs:∀(k:Nat) (e:α),l[k]? = some e->f ((l.take k).foldl st a0,(k:Int))=some (.inl (st ((l.take k).foldl st a0) e,(k:Int)+1)))
 (he:f (l.foldl st a0,(l.length:Int))=some (.inr r)):iter f F s=some r:=by
 refine wB (λk=>((l.take k).foldl st a0,(k:Int))) l.length (by rw[h0];rfl) hn (λk hk=>?_) (by rw[List.take_length];exact he);rw[hs k l[k] (a_ hk),List.take_add_one,a_ hk,Option.toList_some,List.foldl_append];simp
theorem DP [Big F]{f:σ->Option (σ⊕ρ)}{K:ρ->Option τ}(R:Nat->σ->τ->Prop)
 (hR:∀m s q,R m s q->(∃r,f s=some (.inr r)/\K r=some q)\/∃m' s',m'<m/\f s=some (.inl s')/\R m' s' q) {m:Nat} {s:σ} {q:τ} (hm:m<=9223372036854775807) (h:R m s q):(iter f F s).bind K=some q:=by
 have key:∀(n N m:Nat) (s:σ),m<=n->n<N->R m s q->(iter f N s).bind K=some q:=by
  intro n
  induction n with
  |zero =>
   intro N m s hmn hN hs;obtain⟨N,rfl⟩:∃M,N=M+1:=⟨N-1,by omega⟩;rcases hR m s q hs with ⟨r,h1,h2⟩|⟨m',s',h1,h2,h3⟩
   . rw[iter,h1];exact h2
   . omega
  |succ n ih =>
   intro N m s hmn hN hs;obtain⟨N,rfl⟩:∃M,N=M+1:=⟨N-1,by omega⟩;rcases hR m s q hs with ⟨r,h1,h2⟩|⟨m',s',h1,h2,h3⟩
   . rw[iter,h1];exact h2
   . rw[iter,h2];exact ih N m' s' o_ o_ h3
 exact key m F m s (Nat.le_refl _) (zG hm) h
theorem B7 (p:α->Bool)(l:List α):∀a:List α,l.foldl (λa e=>if p e then a++[e] else a) a=a++l.filter p:=by
 induction l with
 |nil=>intro a;simp
 |cons x l ih=>intro a;rw[u_,ih,List.filter_cons];split <;> simp
theorem DD {β:Type}(g:α->β)(l:List α):∀a:List β,l.foldl (λa e=>a++[g e]) a=a++l.map g:=by
 induction l with
 |nil=>intro a;simp
 |cons x l ih=>intro a;rw[u_,ih];simp
def K6 (p:Nat->Bool):Nat->Nat
 |0=>0
 |n+1=>if p (K6 p n) then K6 p n else if p n then n else n+1
end loops
end
end Go.Proofs.YtnofgfobljadbaaGreat
