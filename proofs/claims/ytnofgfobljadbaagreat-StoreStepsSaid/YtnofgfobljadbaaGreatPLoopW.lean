/- Contracts of library functions at this program, laid by the shelf in plain words. Their conditions: as each states. -/
import Derived.Shelf.Sort.Plain
import Derived.Ground.Names2Prog
import Derived.Shelf.Slices.CompactI
import Derived.Shelf.Slices.In.SortNone
import Derived.Test.YtnofgfobljadbaaGreatProg
import Derived.Test.YtnofgfobljadbaaGreatFrSLW
open List renaming getElem?_eq_getElem→a_, mem_cons_self→g_, findSome?_cons→i_, getElem?_map→j_, getElem?_eq_none→l_, getElem?_take→p_, length_map→q_, getElem?_eq_some_iff→t_, mem_zipIdx_iff_getElem?→u_, drop_eq_getElem_cons→v_
open ByteArray renaming mk→d_
open UInt8 renaming ofNat→f_
open Array renaming getElem?_toList→x_, getElem?_modify→y_
namespace Go.Proofs.YtnofgfobljadbaaGreat
open IntKind (i64)
set_option linter.unusedSimpArgs false
set_option linter.unusedVariables false
set_option maxHeartbeats 4000000
set_option maxRecDepth 100000
section
open Go.Shelf
def Tryz.lays189_ren:Go.Shelf.Ren:=⟨λ| 189=>30|125=>64|257=>63|128=>104|129=>105|294=>95|295=>96|296=>97|297=>98|298=>99|299=>100|216=>101|300=>102|301=>103|328=>127|329=>128|330=>129|331=>130|332=>131|215=>132|343=>143|n=>n,λ| 28=>66|3=>3|46=>121|0=>0|51=>169|53=>108|4=>4|183=>161|182=>160|131=>166|5=>5|9=>9|218=>199|222=>203|228=>219|229=>220|n=>n,λ| n=>n⟩
theorem Tryz.lays189:Go.Proofs.Lays.n189 Tryz.prog Tryz.lays189_ren:={
 mixed:=by kernel_rfl
 f125:=Tryz.func64.trans (congrArg some (by kernel_rfl))
 f128:=Tryz.func104.trans (congrArg some (by kernel_rfl))
 f129:=Tryz.func105.trans (congrArg some (by kernel_rfl))
 f189:=Tryz.func30.trans (congrArg some (by kernel_rfl))
 f215:=Tryz.func132.trans (congrArg some (by kernel_rfl))
 f216:=Tryz.func101.trans (congrArg some (by kernel_rfl))
 f257:=Tryz.func63.trans (congrArg some (by kernel_rfl))
 f294:=Tryz.func95.trans (congrArg some (by kernel_rfl))
 f295:=Tryz.func96.trans (congrArg some (by kernel_rfl))
 f296:=Tryz.func97.trans (congrArg some (by kernel_rfl))
 f297:=Tryz.func98.trans (congrArg some (by kernel_rfl))
 f298:=Tryz.func99.trans (congrArg some (by kernel_rfl))
 f299:=Tryz.func100.trans (congrArg some (by kernel_rfl))
 f300:=Tryz.func102.trans (congrArg some (by kernel_rfl))
 f301:=Tryz.func103.trans (congrArg some (by kernel_rfl))
 f328:=Tryz.func127.trans (congrArg some (by kernel_rfl))
 f329:=Tryz.func128.trans (congrArg some (by kernel_rfl))
 f330:=Tryz.func129.trans (congrArg some (by kernel_rfl))
 f331:=Tryz.func130.trans (congrArg some (by kernel_rfl))
 f332:=Tryz.func131.trans (congrArg some (by kernel_rfl))
 f343:=Tryz.func143.trans (congrArg some (by kernel_rfl))
 t0:=Tryz.underlying0
 a0:=Tryz.isAgg0
 z0:=Tryz.sizeOf0
 v0:=Tryz.zeroValue0
 t3:=Tryz.underlying3
 a3:=Tryz.isAgg3
 z3:=Tryz.sizeOf3
 v3:=Tryz.zeroValue3
 t4:=Tryz.underlying4
 a4:=Tryz.isAgg4
 z4:=Tryz.sizeOf4
 v4:=Tryz.zeroValue4
 t5:=Tryz.underlying5
 a5:=Tryz.isAgg5
 z5:=Tryz.sizeOf5
 v5:=Tryz.zeroValue5
 t9:=Tryz.underlying9
 a9:=Tryz.isAgg9
 z9:=Tryz.sizeOf9
 v9:=Tryz.zeroValue9
 t28:=Tryz.underlying66
 a28:=Tryz.isAgg66
 z28:=Tryz.sizeOf66
 v28:=Tryz.zeroValue66
 t46:=Tryz.underlying121
 a46:=Tryz.isAgg121
 z46:=Tryz.sizeOf121
 v46:=Tryz.zeroValue121
 t51:=Tryz.underlying169
 a51:=Tryz.isAgg169
 z51:=Tryz.sizeOf169
 v51:=Tryz.zeroValue169
 t53:=Tryz.underlying108
 a53:=Tryz.isAgg108
 z53:=Tryz.sizeOf108
 v53:=Tryz.zeroValue108
 t131:=Tryz.underlying166
 a131:=Tryz.isAgg166
 z131:=Tryz.sizeOf166
 v131:=Tryz.zeroValue166
 t182:=Tryz.underlying160
 a182:=Tryz.isAgg160
 z182:=Tryz.sizeOf160
 v182:=Tryz.zeroValue160
 t183:=Tryz.underlying161
 a183:=Tryz.isAgg161
 z183:=Tryz.sizeOf161
 v183:=Tryz.zeroValue161
 t218:=Tryz.underlying199
 a218:=Tryz.isAgg199
 z218:=Tryz.sizeOf199
 v218:=Tryz.zeroValue199
 t222:=Tryz.underlying203
 a222:=Tryz.isAgg203
 z222:=Tryz.sizeOf203
 v222:=Tryz.zeroValue203
 t228:=Tryz.underlying219
 a228:=Tryz.isAgg219
 z228:=Tryz.sizeOf219
 v228:=Tryz.zeroValue219
 t229:=Tryz.underlying220
 a229:=Tryz.isAgg220
 z229:=Tryz.sizeOf220
 v229:=Tryz.zeroValue220 }
open Go.Sort Go.RowKit in
theorem Tryz.slices_Sort_int (blk off cap:Nat) (zs:List Int) (w:World) (hH:Holds (Value.int .i64) w blk off zs.toArray) (hblk:blk<w.heap.size) (hsz:zs.length<4611686018427387904) :
 Calls Tryz.prog 30 #[.slice (some ⟨blk,off,none⟩) zs.length cap] w λe w' =>
  e=.returned (.tuple #[])/\∃n os,w'=Go.Sort.grow (putRow (Value.int .i64) (Sort.ahead w n) blk off (zs.mergeSort λx y=>decide (x<=y)).toArray) os:=Any.slices_Sort_int Tryz.lays189 blk off cap zs w hH hblk hsz
def Tryz.laysNm220_ren:Go.Shelf.Ren:=⟨λ| 20=>31|n=>n,λ| 22=>66|3=>3|4=>4|0=>0|n=>n,λ| n=>n⟩
theorem Tryz.laysNm220:Go.Proofs.Lays2.n20 Tryz.prog Tryz.laysNm220_ren:={
 mixed:=by kernel_rfl
 f20:=Tryz.func31.trans (congrArg some (by kernel_rfl))
 t0:=Tryz.underlying0
 a0:=Tryz.isAgg0
 z0:=Tryz.sizeOf0
 v0:=Tryz.zeroValue0
 t3:=Tryz.underlying3
 a3:=Tryz.isAgg3
 z3:=Tryz.sizeOf3
 v3:=Tryz.zeroValue3
 t4:=Tryz.underlying4
 a4:=Tryz.isAgg4
 z4:=Tryz.sizeOf4
 v4:=Tryz.zeroValue4
 t22:=Tryz.underlying66
 a22:=Tryz.isAgg66
 z22:=Tryz.sizeOf66
 v22:=Tryz.zeroValue66
 i3:=by kernel_rfl }
open Go.RowKit Go.Lib Go.Sort in
open Go.RowKit Go.Lib Go.Sort in
theorem Tryz.slices_Compact_int (blk off cap:Nat) (zs:List Int) (w:World) (hH:Holds (Value.int .i64) w blk off zs.toArray) (hsz:zs.length<=9223372036854775807) (hcap:zs.length<=cap) :
 Calls Tryz.prog 31 #[.slice (some ⟨blk,off,none⟩) zs.length cap] w λe w'=>e=.returned (.slice (some ⟨blk,off,none⟩) (Lib.compact zs).length cap)/\∃q,w'=putRow (Value.int .i64) (Sort.ahead w q) blk off (Lib.compact zs++List.replicate (zs.length - (Lib.compact zs).length) 0).toArray:=Any.slices_Compact_int Tryz.laysNm220 blk off cap zs w hH hsz hcap
open Go.RowKit Go.Lib Go.Sort in
theorem Tryz.slices_Compact_int_empty (a:Option Addr) (cap:Nat) (w:World) :
 Calls Tryz.prog 31 #[.slice a 0 cap] w λe w'=>e=.returned (.slice a 0 cap)/\w'=w:=Any.slices_Compact_int_empty Tryz.laysNm220 a cap w
open Go.RowKit Go.Sort in
theorem Tryz.slices_Sort_int_none (p:Option Addr) (cap:Nat) (w:World) :
 Calls Tryz.prog 30 #[.slice p 0 cap] w λe w'=>e=.returned (.tuple #[])/\w'=w:=Any.slices_Sort_int_none Tryz.lays189 p cap w
end
section
open Go.Sort
def kp (l:List Int):List Int:=l.mergeSort λx y=>decide (x<=y)
def uA (l:List Int):Option (List Int):=if l.length<4611686018427387904 then some (kp l) else none
theorem tg {l y:List Int} (h:uA l=some y):l.length<4611686018427387904/\y=kp l:=by
 unfold uA at h;split at h
 . cases h;exact⟨by assumption,rfl⟩
 . cases h
theorem po (l:List Int):(kp l).length=l.length:=by unfold kp;simp
theorem tO {V:View} {xs:List Value} {l:List Int} (h:iH V hO xs l):xs=l.map (Value.int .i64):=by
 obtain⟨h1,h2⟩:=h;apply List.ext_getElem?;intro k;rw[j_]
 cases hk:l[k]? with
 |none=>rw[List.getElem?_eq_none_iff] at hk;rw[l_ (by rw[h1];show l.length * 1<=k;omega)];rfl
 |some x =>
  have h3:(xs.drop (k * 1)).take 1=[Value.int .i64 x]:=h2 k x hk;have h4:((xs.drop (k * 1)).take 1)[0]? = some (Value.int .i64 x):=by rw[h3];rfl
  rw[p_,if_pos o_,List.getElem?_drop] at h4;rw[show k * 1 + 0=k by omega] at h4;rw[h4];rfl
theorem uQ {V:View} (l:List Int):iH V hO (l.map (Value.int .i64)) l:=by refine⟨by rw[q_];show l.length=l.length * 1;omega,λk x hk=>?_⟩;show ((l.map (Value.int .i64)).drop (k * 1)).take 1=[Value.int .i64 x];rw[show k * 1=k by omega];have hl:k<l.length:=(t_.1 hk).1;rw[v_ (by rw[q_];exact hl),List.take_succ_cons,List.take_zero,List.getElem_map];rw[(t_.1 hk).2]
section
variable {w:World} {V:View} {G:List HObj} {w1:World} {A:Option Addr} {c:Nat} {l:List Int} {t:TypeId}
theorem sA (hh:Hp w V (row t hO A c l::G) w1) (hl:l≠[]):∃g,A=some ⟨g,0,none⟩/\Holds (Value.int .i64) w1 g 0 l.toArray/\g<w1.heap.size /\
 ∀(d:List Int) (n:Nat) (os:Array Obj),d.length=l.length->Hp w V (row t hO A c d::G) (Go.Sort.grow (putRow (Value.int .i64) (Go.Sort.ahead w1 n) g 0 d.toArray) os):=by
 obtain⟨h1,h2,h3⟩:=hh.objs _ g_;have hlp:0<l.length:=by cases l with|nil=>exact absurd rfl hl|cons=>simp
 rcases h3 with h3|⟨g,cur,fz,xs,h⟩
 . omega
 have hfz:=h.plain rfl;subst hfz;have hxs:=tO h.rep;have hsz:cur.size=c:=by rw[h.size];show c * 1=c;omega
 have hget:∀j (hj:j<l.length),cur[j]? = some (Value.int .i64 l[j]):=λj hj=>by
  have h4:(cur.toList.take (l.length * hO.size))[j]? = some (Value.int .i64 l[j]):=by rw[h.take,hxs,j_,a_ hj];rfl
  rw[p_,if_pos (show j<l.length * hO.size by show j<l.length * 1;omega)] at h4;rw[<-x_];exact h4
 have hgl:=jU h.heap;refine⟨g,h.adr,λj hj=>⟨?_,?_⟩,hgl,λd n os hd=>?_⟩
 . have hj':j<l.length:=by simpa using hj
   rw[Nat.zero_add,cell_of_row w1 g j cur t (0,0) h.heap,hget j hj'];simp[hj']
 . simp[World.frozen?,h.heap]
 . have hheap:(Go.Sort.grow (putRow (Value.int .i64) (Go.Sort.ahead w1 n) g 0 d.toArray) os).heap=(w1.heap.modify g (onCells (putCells (Value.int .i64) 0 d.toArray)))++os:=rfl;have hat:∀k,k<w1.heap.size->(Go.Sort.grow (putRow (Value.int .i64) (Go.Sort.ahead w1 n) g 0 d.toArray) os).heap[k]? = (w1.heap.modify g (onCells (putCells (Value.int .i64) 0 d.toArray)))[k]?:=λk hk=>by rw[hheap,Array.getElem?_append,if_pos (by simpa using hk)]
   have hset:=hh.turn (i:=0) (x:=row t hO A c l) (y:=row t hO A c d) (o:=some g) (w':=Go.Sort.grow (putRow (Value.int .i64) (Go.Sort.ahead w1 n) g 0 d.toArray) os) rfl
    ⟨rfl,rfl,rfl,by rw[hheap];simp,λk hk hne=>by
     rw[hat k hk,y_,if_neg (λe=>hne (by rw[e]))]⟩
    ⟨by omega,h2,.inr ⟨g,putCells (Value.int .i64) 0 d.toArray cur,(0,0),d.map (Value.int .i64),⟨h.adr,by rw[hat g hgl,y_,if_pos rfl,h.heap];rfl,λ_=>rfl,λi _=>by omega,
     by rw[<-hsz];show (putCells (Value.int .i64) 0 d.toArray cur).size=cur.size * 1;simp[putCells],?_,uQ d⟩⟩⟩
    (λb hb=>.inl hb) (λb e=>by
     injection e with e;subst e;show jd A c=some g
     unfold jd;rw[if_neg o_,h.adr];rfl)
   . exact hset
   . apply List.ext_getElem?;intro k;rw[p_,j_];show (if k<d.length * 1 then _ else _)=_;by_cases hk:k<d.length
     . rw[if_pos o_,x_];have hkc:k<cur.size:=o_;simp[putCells,hk,hkc]
     . rw[if_neg o_,l_ o_];rfl
theorem rD (hm:l.length<4611686018427387904) (hh:Hp w V (row t hO A c l::G) w1):Calls Tryz.prog 30 #[.slice A l.length c] w1 (λr w2=>r=.returned (.tuple #[])/\Hp w V (row t hO A c (kp l)::G) w2):=by
 by_cases hl:l=[]
 . subst hl;exact(Tryz.slices_Sort_int_none A c w1).mono (by rintro e w2 ⟨rfl,rfl⟩;exact⟨rfl,by simpa[kp] using hh⟩)
 . obtain⟨g,hA,hH,hg,hput⟩:=sA hh hl;subst hA;refine(Tryz.slices_Sort_int g 0 c l w1 hH hg hm).mono ?_;rintro e w2 ⟨rfl,n,os,rfl⟩;exact⟨rfl,hput _ n os (po l)⟩
theorem rX (l:List Int):(Lib.compact l).length<=l.length:=by unfold Lib.compact Lib.compactUpTo;rw[q_];exact Nat.le_trans (List.length_filter_le _ _) s_
theorem qd (hh:Hp w V (row t hO A c l::G) w1):Calls Tryz.prog 31 #[.slice A l.length c] w1 (λr w2=>r=.returned (.slice A (Lib.compact l).length c)/\Hp w V (row t hO A c (Lib.compact l)::G) w2):=by
 by_cases hl:l=[]
 . subst hl;exact(Tryz.slices_Compact_int_empty A c w1).mono (by rintro e w2 ⟨rfl,rfl⟩;exact⟨rfl,hh⟩)
 . have hlc:=(hh.objs _ g_).1;have hm:l.length<=maxLen:=by have h1:=hh.objs _ g_;exact Nat.le_trans h1.1 h1.2.1
   obtain⟨g,hA,hH,hg,hput⟩:=sA hh hl;subst hA;refine(Tryz.slices_Compact_int g 0 c l w1 hH (by unfold maxLen at hm;omega) hlc).mono ?_;rintro e w2 ⟨rfl,q,rfl⟩;refine⟨rfl,?_⟩;have h5:=hput (Lib.compact l++List.replicate (l.length - (Lib.compact l).length) 0) q #[] (by rw[List.length_append,List.length_replicate];have:=rX l;omega);rw[grow_empty] at h5;exact h5.turn (i:=0) (o:=none) rfl ⟨rfl,rfl,rfl,Nat.le_refl _,λ_ _ _=>rfl⟩ (nX (h5.objs _ g_) (List.prefix_append _ _)) (λb hb=>.inl hb) (λb e=>by cases e)
end
end
def jh (F:Nat) (p903:List DElem):Option ((List ByteArray)×Int×(List DNode)):=(nu F).bind λr1=>(iter (σ:=(List Int)×Int) (ρ:=(List Int)) (λx=>match x with
  |(x1,x2)=>bif decide (x2<(p903.length:Int)) then (idx p903 x2).bind λe1=>(grow 8 x1 [e1.made,e1.gone]).bind λ_=>some (.inl ((x1++[e1.made,e1.gone]),IntKind.i64.wrap (x2 + 1))) else some (.inr x1)) F ([],0)).bind λz4=>(uA z4).bind λ_=>(iter (σ:=Int×(List DNode)×Int) (ρ:=Int×(List DNode)) (λx=>match x with
  |(x3,x4,x5)=>bif decide (x5<((Lib.compact (kp z4)).length:Int)) then (idx (Lib.compact (kp z4)) x5).bind λe2=>(iter (σ:=Int×(List DNode)×Int) (ρ:=Int×(List DNode)) (λx=>match x with
     |(x6,x7,x8)=>bif decide (x8<(p903.length:Int)) then ((idx p903 x8).bind λe3=>bif ((e3.gone==e2)&&(decide ((0:Int)<e2))) then (lD F r1.1 [] x6 x7 e3.key e2).bind λr4=>some (r4.1,r4.2.1) else some (x6,x7):Option (Int×(List DNode))).bind λz=>match z with
        |(z9,z10)=>some (.inl (z9,z10,IntKind.i64.wrap (x8 + 1))) else some (.inr (x6,x7))) F (x3,x4,0)).bind λz=>match z with
     |(z7,z8)=>(iter (σ:=Int×(List DNode)×Int) (ρ:=Int×(List DNode)) (λx=>match x with
       |(x9,x10,x11)=>bif decide (x11<(p903.length:Int)) then ((idx p903 x11).bind λe4=>bif (e4.made==e2) then (j8 F r1.1 [] x9 x10 e4.key e4.val e2).bind λr5=>some (r5.1,r5.2.1) else some (x9,x10):Option (Int×(List DNode))).bind λz=>match z with
          |(z13,z14)=>some (.inl (z13,z14,IntKind.i64.wrap (x11 + 1))) else some (.inr (x9,x10))) F (z7,z8,0)).bind λz=>match z with
       |(z11,z12)=>some (.inl (z11,z12,IntKind.i64.wrap (x5 + 1))) else some (.inr (x3,x4))) F (r1.2.1,r1.2.2,0)).bind λz=>match z with
  |(z5,z6)=>some (r1.1,z5,z6)
theorem jt (F:Nat) (n:List DElem) (r:(List ByteArray)×Int×(List DNode)) (L:jh F n=some r) (w:World)  (q:Option Addr) (B:Nat) (aB:View) (o:List HObj) (w1:World) (ag:hJ aB eElem q B n) (b:Hp w aB o w1) :
 Calls Tryz.prog 8 #[.slice q n.length B] w1 (λe w2=>∃v,e=.returned v/\∃g A1 c1 A2 c2 V1,View.le aB V1/\hJ (made w V1) eStr A1 c1 r.1/\hJ V1 iy A2 c2 r.2.2/\v=.pointer (some ⟨g,0,none⟩)/\Hp w V1 ((box g 79 [.slice A1 r.1.length c1,.slice none 0 0,.int .i64 r.2.1,.slice A2 r.2.2.length c2])::o) w2):=by
 unfold jh at L;have cx:=b.base;refine T.iQ (l:=[sl q n B]) Tryz.func8 rfl rfl rfl ?_ b;clear b;refine au2 ?_;refine oc L λt bu L=>(T.ia (W1.cj (λd b=>qQ F t bu w aB o d (b.u)) ?_));rintro v d ⟨g,G,H,A4,c4,V2,ae,bX,rfl,b⟩;refine⟨_,_,b,?_⟩;clear b;refine au2 ?_;refine T.cb false (λh=>Bool.noConfusion h) (λ_=>?_);refine au3 ?_;let Z:=box g 79 [sl G t.1 H,sN,vi t.2.1,sl A4 t.2.2 c4];refine T.je (E:=eStr) (H':=(Z::o)) 1 b_ rfl (λ_ _ _ _ h=>h) (λQ Y bo=>?_);refine T.iM 3 hO ?_;refine oc L λk b0 L=>?_;refine T.iI (λa d=>∃y A,Fr 79 [(0,sl q n B),(3,pB g 0),(4,sl y k A)] a/\Hp w Q ((row 3 hO y A k)::Z::o) d) ?_ ?_;refine au1 ?_;refine T.iF (λs1 a d=>∃(x1:List Int) (x2:Int),s1=(x1,x2)/\∃A5 c5,Fr 79 [(0,sl q n B),(3,pB g 0),(4,sl A5 x1 c5),(16,sl q n B),(17,vi (n.length:Int)),(18,vi x2)] a/\Hp w Q ((row 3 hO A5 c5 x1)::Z::o) d) b0 ?_ ?_;exact ie;rintro s1 y1 O bS a d ⟨x1,x2,rfl,A5,c5,p,b⟩;revert p b;refine T.i ?_;(try dsimp only at O);refine au1 ?_;refine T.ik ?_;revert O;refine T.c (λbE O=>?_) (λbE O=>?_);refine au3 ?_;refine oc O λN bv O=>?_
 obtain⟨bK,bN,bk⟩:=ig bv;refine T.l (.pointer (some ((iz q).add (x2.toNat * 6)))) (λd b=>ib (e:=28) (s:=6) rfl rfl rfl k_ k_ bK bN ((hJ.mono ag (vt ae Y)).some_ bk c_)) (T.l (.agg #[vi N.key.pfs,vi N.key.obj,vi N.key.off,vi N.made,vi N.gone,.string N.val]) (λd b=>lN (λj u hj=>(b.cell_view (hJ.cellF (E:=eElem) (hJ.mono ag (vt ae Y)) bk j (λ_ _ _ h=>h) hj)))) ?_);refine T.N1 λb2=>?_;refine au1 ?_;refine T.NS λb3=>?_;refine oc O λy2 bw O=>?_;obtain⟨hb3_r,hb3_m,rfl⟩:=ii bw;refine T.ia (W1.a (E:=hO) (l:=x1) (m:=[N.made,N.gone]) 2 8 i3_ (λd b=>(hJ.sF (iE (E:=hO) (f:=(λx=>[vi x])) [N.made,N.gone] (λ_ _=>rfl) n_ (λj=>b.cellBox (i:=0) b_ j)))) hb3_r hb3_m (λA7 c7=>?_));refine au1 ?_;cases O;exact ie;refine au0 ?_;cases O;cases(bS _ rfl);exact ie;rintro a d ⟨y,A,p,b⟩;revert p b;refine T.i ?_;refine au1 ?_;refine oc L λy3 bx L=>?_;obtain⟨bZ,rfl⟩:=tg bx;refine T.ia (W1.ci 30 [sl y k A] (λv d=>v=.tuple #[]/\Hp w Q ((row 3 hO y A (kp k))::Z::o) d) (λd b=>(rD bZ (b.perm pz)).mono (by rintro e_ w_ ⟨rfl,h_⟩;exact⟨_,rfl,rfl,h_⟩)) ?_);rintro v d ⟨rfl,b⟩;refine⟨Q,((row 3 hO y A (kp k))::Z::o),b.perm pz,?_⟩;clear b;have bn:(kp k).length=k.length:=(by exact po _);refine T.io 4 (sl y (kp k) A) rfl (by simp +zetaDelta only[sl,bn]) ?_
 refine T.io 30 (sl y (kp k) A) rfl (by simp +zetaDelta only[sl,bn]) ?_;refine au2 ?_;let I:=row 3 hO y A (Lib.compact (kp k));refine T.ia (W1.ci 31 [sl y (kp k) A] (λv d=>v=.slice y (Lib.compact (kp k)).length A/\Hp w Q (I::Z::o) d) (λd b=>(qd (b.perm pz)).mono (by rintro e_ w_ ⟨rfl,h_⟩;exact⟨_,rfl,rfl,h_⟩)) ?_);rintro v d ⟨rfl,b⟩;refine⟨Q,(I::Z::o),b.perm pz,?_⟩;clear b;refine au0 ?_;refine oc L λq1 b6 L=>?_;refine T.iI (λa d=>∃(z5:Int) (z6:List DNode),q1=(z5,z6)/\∃A9 c9 V5,View.le Q V5/\hJ V5 iy A9 c9 z6/\Fr 79 [(3,pB g 0)] a/\Hp w V5 ((box g 79 [sl G t.1 H,sN,vi z5,sl A9 z6 c9])::o) d) ?_ ?_;refine au1 ?_;refine T.iF (λs2 a d=>∃(x3:Int) (x4:List DNode) (M:Int),s2=(x3,x4,M)/\∃A8 c8 V4,View.le Q V4/\hJ V4 iy A8 c8 x4/\Fr 79 [(0,sl q n B),(3,pB g 0),(33,sl y (Lib.compact (kp k)) A),(34,vi ((Lib.compact (kp k)).length:Int)),(35,vi M)] a/\Hp w V4 (I::(box g 79 [sl G t.1 H,sN,vi x3,sl A8 x4 c8])::o) d) b6 ?_ ?_;exact λa d p b=>⟨t.2.1,t.2.2,0,rfl,A4,c4,Q,vr,(hJ.mono bX (vt (iq _ _) Y)),(Fr.s p),(b.u)⟩;rintro s2 y4 K bT a d ⟨x3,x4,M,rfl,A8,c8,V4,af,cD,p,b⟩;revert p b;refine T.i ?_;(try dsimp only at K);refine au1 ?_;refine T.ik ?_;revert K;refine T.c (λbF K=>?_) (λbF K=>?_);refine au3 ?_;refine oc K λJ bz K=>?_;obtain⟨bO,bP,bl⟩:=ig bz;refine T.l (.pointer (some ((iz y).add (M.toNat * 1)))) (iR 0 (e:=3) (s:=1) bO bP bl) (T.l (vi J) (λd b=>iu rfl rfl k_ (hJ.wcellF0 (E:=hO) (b.row_slOk (i:=0) b_) bl (λ_ _ _ h=>h) rfl)) ?_);refine au2 ?_
 refine oc K λq2 b7 K=>?_;refine T.iI (λa d=>∃(z7:Int) (z8:List DNode),q2=(z7,z8)/\∃aO aV V7,View.le V4 V7/\hJ V7 iy aO aV z8/\Fr 79 [(0,sl q n B),(3,pB g 0),(8,vi J),(33,sl y (Lib.compact (kp k)) A),(34,vi ((Lib.compact (kp k)).length:Int)),(35,vi M)] a/\Hp w V7 (I::(box g 79 [sl G t.1 H,sN,vi z7,sl aO z8 aV])::o) d) ?_ ?_;refine au1 ?_;refine T.iF (λs3 a d=>∃(x6:Int) (x7:List DNode) (x8:Int),s3=(x6,x7,x8)/\∃aj am W,View.le V4 W/\hJ W iy aj am x7/\Fr 79 [(0,sl q n B),(3,pB g 0),(8,vi J),(33,sl y (Lib.compact (kp k)) A),(34,vi ((Lib.compact (kp k)).length:Int)),(35,vi M),(39,sl q n B),(40,vi (n.length:Int)),(41,vi x8)] a/\Hp w W (I::(box g 79 [sl G t.1 H,sN,vi x6,sl aj x7 am])::o) d) b7 ?_ ?_;exact ie;rintro s3 y5 U bU a d ⟨x6,x7,x8,rfl,aj,am,W,a3,bY,p,b⟩;let b9:=box g 79 [sl G t.1 H,sN,vi x6,sl aj x7 am];let cg:=I::b9::o;revert p b;refine T.i ?_;(try dsimp only at U);refine au1 ?_;refine T.ik ?_;revert U;refine T.c (λbG U=>?_) (λbG U=>?_);refine au0 ?_;refine oc U λq3 R U=>?_;refine T.iD (λa d=>∃(z9:Int) (aJ:List DNode),q3=(z9,aJ)/\∃aP aW V8,View.le W V8/\hJ V8 iy aP aW aJ/\Fr 79 [(0,sl q n B),(3,pB g 0),(8,vi J),(33,sl y (Lib.compact (kp k)) A),(34,vi ((Lib.compact (kp k)).length:Int)),(35,vi M),(39,sl q n B),(40,vi (n.length:Int)),(41,vi x8)] a/\Hp w V8 (I::(box g 79 [sl G t.1 H,sN,vi z9,sl aP aJ aW])::o) d) ?_ ?_;refine au2 ?_;refine oc R λC bA R=>?_;obtain⟨bQ,bR,bm⟩:=ig bA
 refine T.l (.pointer (some ((iz q).add (x8.toNat * 6)))) (λd b=>ib (e:=28) (s:=6) rfl rfl rfl k_ k_ bQ bR ((hJ.mono ag (vt (vt (vt ae Y) af) a3)).some_ bm c_)) ?_;let ch:=[vi C.key.pfs,vi C.key.obj,vi C.key.off,vi C.made,vi C.gone,.string C.val];refine T.l (.agg #[vi C.key.pfs,vi C.key.obj,vi C.key.off,vi C.made,vi C.gone,.string C.val]) (λd b=>lN (λj u hj=>(b.cell_view (hJ.cellF (E:=eElem) (hJ.mono ag (vt (vt (vt ae Y) af) a3)) bm j (λ_ _ _ h=>h) hj)))) ?_;refine T.N1 λb4=>?_;refine au0 ?_;let aF:=box b4 28 ch;refine T.iD (λa d=>Fr 79 [(0,sl q n B),(3,pB g 0),(8,vi J),(10,pB b4 0),(33,sl y (Lib.compact (kp k)) A),(34,vi ((Lib.compact (kp k)).length:Int)),(35,vi M),(39,sl q n B),(40,vi (n.length:Int)),(41,vi x8),(52,.bool ((C.gone==J)&&(decide ((0:Int)<J))))] a/\Hp w W (aF::cg) d) ?_ ?_;refine au1 ?_;cases cy:(C.gone==J);refine au0 ?_;exact ie;refine au0 ?_;exact ie;rintro a d ⟨p,b⟩;revert p b;refine T.i ?_;revert R;refine T.c (λbH R=>?_) (λbH R=>?_);refine au1 ?_;refine oc R λr4 bB R=>(T.ia (W1.ci 32 [pB g 0,.agg #[vi C.key.pfs,vi C.key.obj,vi C.key.off],vi J] (λv d=>∃ar aC V9,View.le W V9/\hJ V9 iy ar aC r4.2.1/\v=vi r4.2.2/\Hp w V9 ((box g 79 [sl G t.1 H,sN,vi r4.1,sl ar r4.2.1 aC])::aF::I::o) d) (λd b=>od F t.1 [] x6 x7 C.key J r4 bB w g G H none 0 aj am W (aF::I::o) d (hJ.mono bo (vt (iq _ _) (vt af a3))) (hJ.nil _ _) bY (b.ix 3 [2,0,1])) ?_));rintro v d ⟨ar,aC,V9,cw,cz,rfl,b⟩
 refine⟨V9,(aF::I::(box g 79 [sl G t.1 H,sN,vi r4.1,sl ar r4.2.1 aC])::o),b.ix 3 [1,2,0],?_⟩;clear b;refine au0 ?_;cases R;exact ie;refine au0 ?_;cases R;exact ie;rintro a d ⟨z9,aJ,rfl,aP,aW,V8,cv,cG,p,b⟩;(try dsimp only at U);revert p b;refine T.i ?_;refine au1 ?_;cases U;exact ie;refine au0 ?_;cases U;cases(bU _ rfl);exact ie;rintro a d ⟨z7,z8,rfl,aO,aV,V7,a4,cF,p,b⟩;(try dsimp only at K);revert p b;refine T.i ?_;refine au1 ?_;refine oc K λq4 b8 K=>?_;refine T.iI (λa d=>∃(a7:Int) (aK:List DNode),q4=(a7,aK)/\∃aQ aX ax,View.le V7 ax/\hJ ax iy aQ aX aK/\Fr 79 [(0,sl q n B),(3,pB g 0),(33,sl y (Lib.compact (kp k)) A),(34,vi ((Lib.compact (kp k)).length:Int)),(35,vi M)] a/\Hp w ax (I::(box g 79 [sl G t.1 H,sN,vi a7,sl aQ aK aX])::o) d) ?_ ?_;refine au1 ?_;refine T.iF (λs4 a d=>∃(x9:Int) (ao:List DNode) (ap:Int),s4=(x9,ao,ap)/\∃au aD X,View.le V7 X/\hJ X iy au aD ao/\Fr 79 [(0,sl q n B),(3,pB g 0),(8,vi J),(33,sl y (Lib.compact (kp k)) A),(34,vi ((Lib.compact (kp k)).length:Int)),(35,vi M),(59,sl q n B),(60,vi (n.length:Int)),(61,vi ap)] a/\Hp w X (I::(box g 79 [sl G t.1 H,sN,vi x9,sl au ao aD])::o) d) b8 ?_ ?_;exact ie;rintro s4 y6 V bV a d ⟨x9,ao,ap,rfl,au,aD,X,a2,bW,p,b⟩;revert p b;refine T.i ?_;(try dsimp only at V);refine au1 ?_;refine T.ik ?_;revert V;refine T.c (λbI V=>?_) (λbI V=>?_);refine au0 ?_;refine oc V λq5 S V=>?_
 refine T.iD (λa d=>∃(a8:Int) (aL:List DNode),q5=(a8,aL)/\∃aR aY ay,View.le X ay/\hJ ay iy aR aY aL/\Fr 79 [(0,sl q n B),(3,pB g 0),(8,vi J),(33,sl y (Lib.compact (kp k)) A),(34,vi ((Lib.compact (kp k)).length:Int)),(35,vi M),(59,sl q n B),(60,vi (n.length:Int)),(61,vi ap)] a/\Hp w ay (I::(box g 79 [sl G t.1 H,sN,vi a8,sl aR aL aY])::o) d) ?_ ?_;refine au2 ?_;refine oc S λD bC S=>?_;obtain⟨bL,bM,bj⟩:=ig bC;refine T.l (.pointer (some ((iz q).add (ap.toNat * 6)))) (λd b=>ib (e:=28) (s:=6) rfl rfl rfl k_ k_ bL bM ((hJ.mono ag (vt (vt (vt (vt ae Y) af) a4) a2)).some_ bj c_)) ?_;let ck:=[vi D.key.pfs,vi D.key.obj,vi D.key.off,vi D.made,vi D.gone,.string D.val];refine T.l (.agg #[vi D.key.pfs,vi D.key.obj,vi D.key.off,vi D.made,vi D.gone,.string D.val]) (λd b=>lN (λj u hj=>(b.cell_view (hJ.cellF (E:=eElem) (hJ.mono ag (vt (vt (vt (vt ae Y) af) a4) a2)) bj j (λ_ _ _ h=>h) hj)))) ?_;refine T.N1 λb5=>?_;refine au1 ?_;revert S;refine T.c (λbJ S=>?_) (λbJ S=>?_);refine au1 ?_;refine oc S λr5 bD S=>?_;let a5:=box b5 28 ck;refine T.ia (W1.ci 22 [pB g 0,.agg #[vi D.key.pfs,vi D.key.obj,vi D.key.off],.string D.val,vi J] (λv d=>∃av aE ak,View.le X ak/\hJ ak iy av aE r5.2.1/\v=vi r5.2.2/\Hp w ak ((box g 79 [sl G t.1 H,sN,vi r5.1,sl av r5.2.1 aE])::a5::I::o) d) (λd b=>kB F t.1 [] x9 ao D.key D.val J r5 bD w g G H none 0 au aD X (a5::I::o) d (hJ.mono bo (vt (iq _ _) (vt (vt af a4) a2))) (hJ.nil _ _) bW (b.ix 3 [2,0,1])) ?_)
 rintro v d ⟨av,aE,ak,ct,cC,rfl,b⟩;refine⟨ak,(a5::I::(box g 79 [sl G t.1 H,sN,vi r5.1,sl av r5.2.1 aE])::o),b.ix 3 [1,2,0],?_⟩;clear b;refine au0 ?_;cases S;exact ie;refine au0 ?_;cases S;exact ie;rintro a d ⟨a8,aL,rfl,aR,aY,ay,cs,cB,p,b⟩;(try dsimp only at V);revert p b;refine T.i ?_;refine au1 ?_;cases V;exact ie;refine au0 ?_;cases V;cases(bV _ rfl);exact ie;rintro a d ⟨a7,aK,rfl,aQ,aX,ax,cr,cA,p,b⟩;(try dsimp only at K);revert p b;refine T.i ?_;refine au1 ?_;cases K;exact ie;refine au0 ?_;cases K;cases(bT _ rfl);exact ie;rintro a d ⟨z5,z6,rfl,A9,c9,V5,cu,cE,p,b⟩;(try dsimp only at L);revert p b;refine T.i ?_;refine au1 ?_;have hres:=Option.some.inj L;subst hres;exact il
def mc (F:Nat) (p0:(List DElem)) (p1:DKey) (p2:ByteArray) (p3:Int) (p4:(List Bool)):Option (Bool):=(kC 1 (d_ #[97])).bind λr1=>(jh F [r1]).bind λr3=>((j8 F r3.1 [] r3.2.1 r3.2.2 (DKey.mk 0 0 2) (d_ #[98]) 1).bind λr4=>bif (r4.2.2 !=0) then some true else ((j6 F (DTree.mk r4.1 r4.2.1)).bind λr5=>some r5.1:Option ((List DElem))).bind λz2=>some ((z2.length:Int) !=2):Option (Bool)).bind λz1=>bif z1 then some false else (kV F p0).bind λr6=>bif (r6 !=0) then some true else (jh F p0).bind λr7=>(jn F r7.1 [] r7.2.1 r7.2.2).bind λr8=>bif (r8.2.2.2 !=0) then some false else (px F p0).bind λr9=>(bif (r9.2 !=0) then some (r7.2.1,r7.2.2,true) else (j8 F r8.1 r8.2.1 r7.2.1 r7.2.2 p1 p2 (if (2147483647:Int)<(IntKind.i64.wrap (r9.1 + 1)) then 2147483647 else IntKind.i64.wrap (r9.1 + 1))).bind λr10=>some (r10.1,r10.2.1,(r10.2.2 !=0)):Option (Int×(List DNode)×Bool)).bind λz=>match z with
     |(z3,z4,z5)=>bif z5 then some (r9.2==0) else ((j6 F (DTree.mk z3 z4)).bind λr11=>some r11.1:Option ((List DElem))).bind λz6=>(jn F r8.1 r8.2.1 z3 z4).bind λr12=>bif ((r12.2.2.2 !=0)||((r12.2.2.1.length:Int)==0)) then some false else (lS p3 (r12.2.2.1.length:Int)).bind λr13=>(idx r12.2.2.1 r13).bind λe1=>(oO F e1 p4).bind λr14=>bif (r14.2 !=0) then some false else (j9 F r14.1.pages r14.1.writes).bind λr15=>(((j6 F (DTree.mk r15.2.2.1 r15.2.2.2)).bind λr17=>some r17.1:Option ((List DElem))).bind λz8=>(jg F z8 p0).bind λr18=>bif r18 then some true else ((j6 F (DTree.mk r15.2.2.1 r15.2.2.2)).bind λr19=>some r19.1:Option ((List DElem))).bind λz9=>(jg F z9 z6).bind λr20=>some r20:Option (Bool)).bind λz7=>some z7
theorem rq (F:Nat) (p:(List DElem)) (y:DKey) (p2:ByteArray) (X:Int) (I:(List Bool)) (r:Bool) (g:mc F p y p2 X I=some r) (w:World) (q:Option Addr) (x:Nat) (a0:hJ (vw w) eElem q x p) (O:Option Addr) (V:Nat) (cK:hJ (vw w) eBool O V I) :
 Calls Tryz.prog 4 #[.slice q p.length x,.agg #[.int .i64 y.pfs,.int .i64 y.obj,.int .i64 y.off],.string p2,.int .i64 X,.slice O I.length V] w (jI (vSc eBool) r w):=by
 unfold mc at g;refine T.iB (l:=[sl q p x,.agg #[vi y.pfs,vi y.obj,vi y.off],.string p2,vi X,sl O I V]) Tryz.func4 rfl rfl rfl ?_;refine au1 ?_;refine T.N1 λb1=>?_;refine au1 ?_;refine oc g λJ ce g=>(T.ia (W1.w1 (vAg eElem) J 9 #[vi 1,.string (d_ #[97])] (λb d=>kR 1 (d_ #[97]) J ce b) ?_));intro u V1 aF k;obtain rfl:=lf _ _ _ k;refine T.NS λb2=>?_;refine T.mA (E:=eElem) (f:=DElem.cells) (l:=[J]) 0 _ b_ (λ_ _=>rfl) (Nat.succ_pos _) n_ rfl ?_;let o:=box b1 24 [vi y.pfs,vi y.obj,vi y.off];refine T.iS (H':=((row 28 eElem (some ⟨b2,0,none⟩) ([J].length) [J])::o::[])) b_ ?_;refine T.je (E:=eElem) (H':=(o::[])) 0 b_ rfl (λ_ _ _ _ h=>h) (λV2 aI cR=>?_);refine oc g λD cq g=>(T.ia (W1.ci 8 [sl (some ⟨b2,0,none⟩) [J] ([J].length)] (λv b=>∃Q A3 c3 A4 c4 P,View.le V2 P/\hJ (made w P) eStr A3 c3 D.1/\hJ P iy A4 c4 D.2.2/\v=pB Q 0/\Hp w P ((box Q 79 [sl A3 D.1 c3,sN,vi D.2.1,sl A4 D.2.2 c4])::o::[]) b) (λb d=>jt F [J] D cq w (some ⟨b2,0,none⟩) ([J].length) V2 (o::[]) b (hJ.mono cR (iq _ _)) (d.u)) ?_));rintro v b ⟨Q,A3,c3,A4,c4,P,aJ,cS,cT,rfl,d⟩;refine⟨_,_,d,?_⟩;clear d;refine au0 ?_;refine T.ik (oc g λz1 W g=>?_);refine T.iD (λa b=>∃V4,View.le P V4/\Fr 119 [(0,sl q p x),(2,.string p2),(3,vi X),(4,sl O I V),(6,pB b1 0),(36,.bool z1)] a/\Hp w V4 (o::[]) b) ?_ ?_;refine au1 ?_
 refine oc W λC cr W=>(T.ia (W1.ci 22 [pB Q 0,.agg #[vi 0,vi 0,vi 2],.string (d_ #[98]),vi 1] (λv b=>∃A5 c5 V5,View.le P V5/\hJ V5 iy A5 c5 C.2.1/\v=vi C.2.2/\Hp w V5 ((box Q 79 [sl A3 D.1 c3,sN,vi C.1,sl A5 C.2.1 c5])::o::[]) b) (λb d=>kB F D.1 [] D.2.1 D.2.2 (DKey.mk 0 0 2) (d_ #[98]) 1 C cr w Q A3 c3 none 0 A4 c4 P (o::[]) b (hJ.mono cS (iq _ _)) (hJ.nil _ _) cT (d.u)) ?_));rintro v b ⟨A5,c5,V5,dL,cU,rfl,d⟩;refine⟨_,_,d,?_⟩;clear d;refine au0 ?_;cases bL:(C.2.2 !=0);rw[bL,cond_false] at W;refine au0 ?_;refine oc W λz2 bp W=>?_;let bU:=box Q 79 [sl A3 D.1 c3,sN,vi C.1,sl A5 C.2.1 c5];refine T.ia (W1.im 10 [pB Q 0] (λv b=>∃A6 c6 V6,View.le V5 V6/\hJ (made w V6) eElem A6 c6 z2/\v=.slice A6 z2.length c6/\Hp w V6 (bU::o::[]) b) Tryz.func10 rfl rfl k_ (λ_=>k_) rfl ?_ ?_);refine au2 ?_;refine oc bp λr5 cs bp=>(T.ia (W1.w1 (vT2 (vSc (ku eElem)) (vSc hO)) r5 33 #[.agg #[vi C.1,sl A5 C.2.1 c5]] (λb d=>jL F (DTree.mk C.1 C.2.1) r5 cs b A5 c5 (hJ.mono cU d.view)) ?_));intro u V7 dN k;obtain⟨u1,u2,rfl,cW,cY⟩:=iP k;obtain⟨A7,c7,rfl,d1⟩:=i9 cW;obtain rfl:=ic _ _ _ cY;refine au1 ?_;cases bp;exact il;rintro v b ⟨A6,c6,V6,dM,d0,rfl,d⟩;refine⟨V6,(bU::o::[]),d,?_⟩;clear d;refine au0 ?_;cases W;exact ie;rw[bL,cond_true] at W;refine au0 ?_;cases W;exact ie
 rintro a b ⟨V4,aK,hf,d⟩;revert hf d;refine T.i ?_;revert g;refine T.c (λcy g=>?_) (λcy g=>?_);refine au1 ?_;cases g;exact il;refine au2 ?_;refine oc g λr6 ct g=>(T.ia (W1.w1 (vSc hO) r6 11 #[sl q p x] (λb d=>kL F p r6 ct b q x (hJ.mono (hJ.mono a0 (vt (vt (vt aF aI) aJ) aK)) d.view)) ?_));intro u V8 aZ k;obtain rfl:=ic _ _ _ k;refine au0 ?_;revert g;refine T.c (λcz g=>?_) (λcz g=>?_);refine au1 ?_;cases g;exact il;refine au1 ?_;refine oc g λA cu g=>(T.ia (W1.ci 8 [sl q p x] (λv b=>∃t A8 c8 A9 c9 V9,View.le V8 V9/\hJ (made w V9) eStr A8 c8 A.1/\hJ V9 iy A9 c9 A.2.2/\v=pB t 0/\Hp w V9 ((box t 79 [sl A8 A.1 c8,sN,vi A.2.1,sl A9 A.2.2 c9])::o::[]) b) (λb d=>jt F p A cu w q x V8 (o::[]) b (hJ.mono a0 (vt (vt (vt (vt aF aI) aJ) aK) aZ)) (d.u)) ?_));rintro v b ⟨t,A8,c8,A9,c9,V9,bo,cV,bP,rfl,d⟩;refine⟨_,_,d,?_⟩;clear d;refine au2 ?_;refine oc g λn cv g=>?_;let bw:=[pB t 0];refine T.ia (W1.ci 13 bw (λv b=>∃L R M S a4 bf al,View.le V9 al/\hJ al eStr L R n.1/\hJ al ij M S n.2.1/\hJ (made w al) iC a4 bf n.2.2.1/\v=.tuple #[sl a4 n.2.2.1 bf,vi n.2.2.2]/\Hp w al ((box t 79 [sl L n.1 R,sl M n.2.1 S,vi A.2.1,sl A9 A.2.2 c9])::o::[]) b) (λb d=>jx F A.1 [] A.2.1 A.2.2 n cv w t A8 c8 none 0 A9 c9 V9 (o::[]) b (hJ.mono cV (iq _ _)) (hJ.nil _ _) bP (d.u)) ?_)
 rintro v b ⟨L,R,M,S,a4,bf,al,aX,bQ,bR,dP,rfl,d⟩;refine⟨_,_,d,?_⟩;clear d;refine au1 ?_;revert g;refine T.c (λcA g=>?_) (λcA g=>?_);refine au1 ?_;cases g;exact il;refine au1 ?_;refine oc g λZ cw g=>(T.ia (W1.w1 (vT2 (vSc hO) (vSc hO)) Z 21 #[sl q p x] (λb d=>qN F p Z cw b q x (hJ.mono (hJ.mono a0 (vt (vt (vt (vt (vt (vt aF aI) aJ) aK) aZ) bo) aX)) d.view)) ?_));intro u bb af k;obtain rfl:=(kg.t2 ic ic) _ _ _ k;refine au0 ?_;refine T.ik (oc g λq1 ar g=>?_);refine T.iD (λa b=>∃(z3:Int) (K:List DNode) (z5:Bool),q1=(z3,K,z5)/\∃N U ay,View.le bb ay/\hJ ay iy N U K/\Fr 119 [(0,sl q p x),(3,vi X),(4,sl O I V),(11,pB t 0),(15,vi Z.2),(65,.bool z5)] a/\Hp w ay ((box t 79 [sl L n.1 R,sl M n.2.1 S,vi z3,sl N K U])::[]) b) ?_ ?_;refine au1 ?_;cases bM:(Z.2 !=0);rw[bM,cond_false] at ar;refine au0 ?_;refine oc ar λaL cx ar=>(T.ia (W1.ci 22 [pB t 0,.agg #[vi y.pfs,vi y.obj,vi y.off],.string p2,vi (if (2147483647:Int)<(i64.wrap (Z.1 + 1)) then 2147483647 else i64.wrap (Z.1 + 1))] (λv b=>∃a5 bg aR,View.le bb aR/\hJ aR iy a5 bg aL.2.1/\v=vi aL.2.2/\Hp w aR ((box t 79 [sl L n.1 R,sl M n.2.1 S,vi aL.1,sl a5 aL.2.1 bg])::o::[]) b) (λb d=>kB F n.1 n.2.1 A.2.1 A.2.2 y p2 (if (2147483647:Int)<(i64.wrap (Z.1 + 1)) then 2147483647 else i64.wrap (Z.1 + 1)) aL cx w t L R M S A9 c9 bb (o::[]) b (hJ.mono bQ af) (hJ.mono bR af) (hJ.mono bP (vt aX af)) (d.u)) ?_))
 rintro v b ⟨a5,bg,aR,dD,dQ,rfl,d⟩;refine⟨_,_,d,?_⟩;clear d;refine au0 ?_;cases ar;exact ie;rw[bM,cond_true] at ar;refine au0 ?_;cases ar;exact ie;rintro a b ⟨z3,K,z5,rfl,N,U,ay,aY,bS,hf,d⟩;(try dsimp only at g);let bV:=box t 79 [sl L n.1 R,sl M n.2.1 S,vi z3,sl N K U];revert hf d;refine T.i ?_;revert g;refine T.c (λcB g=>?_) (λcB g=>?_);refine au1 ?_;cases g;exact il;refine au1 ?_;refine oc g λz6 bq g=>(T.ia (W1.im 10 bw (λv b=>∃ah an ab,View.le ay ab/\hJ (made w ab) eElem ah an z6/\v=.slice ah z6.length an/\Hp w ab (bV::[]) b) Tryz.func10 rfl rfl k_ (λ_=>k_) rfl ?_ ?_));refine au2 ?_;refine oc bq λbX cf bq=>(T.ia (W1.w1 (vT2 (vSc (ku eElem)) (vSc hO)) bX 33 #[.agg #[vi z3,sl N K U]] (λb d=>jL F (DTree.mk z3 K) bX cf b N U (hJ.mono bS d.view)) ?_));intro u dp dE k;obtain⟨u3,u4,rfl,cZ,c0⟩:=iP k;obtain⟨dj,dx,rfl,dR⟩:=i9 cZ;obtain rfl:=ic _ _ _ c0;refine au1 ?_;cases bq;exact il;rintro v b ⟨ah,an,ab,aG,cJ,rfl,d⟩;refine⟨ab,(bV::[]),d,?_⟩;clear d;refine au1 ?_;refine oc g λz cg g=>(T.ia (W1.ci 13 bw (λv b=>∃a6 bh a7 bi av aS ac,View.le ab ac/\hJ ac eStr a6 bh z.1/\hJ ac ij a7 bi z.2.1/\hJ (made w ac) iC av aS z.2.2.1/\v=.tuple #[sl av z.2.2.1 aS,vi z.2.2.2]/\Hp w ac ((box t 79 [sl a6 z.1 bh,sl a7 z.2.1 bi,vi z3,sl N K U])::[]) b) (λb d=>jx F n.1 n.2.1 z3 K z cg w t L R M S N U ab [] b (hJ.mono bQ (vt (vt af aY) aG)) (hJ.mono bR (vt (vt af aY) aG)) (hJ.mono bS aG) (d.u)) ?_))
 rintro v b ⟨a6,bh,a7,bi,av,aS,ac,bn,dS,dT,bT,rfl,d⟩;refine⟨_,_,d,?_⟩;clear d;refine au0 ?_;refine T.ik ?_;refine T.iD (λa b=>Fr 119 [(0,sl q p x),(3,vi X),(4,sl O I V),(16,sl ah z6 an),(17,sl av z.2.2.1 aS),(81,.bool ((z.2.2.2 !=0)||((z.2.2.1.length:Int)==0)))] a/\Hp w ac [] b) ?_ ?_;refine au1 ?_;cases dO:(z.2.2.2 !=0);refine au0 ?_;exact ie;refine au0 ?_;exact ie;rintro a b ⟨hf,d⟩;revert hf d;refine T.i ?_;revert g;refine T.c (λcC g=>?_) (λcC g=>?_);refine au1 ?_;cases g;exact il;refine au1 ?_;refine oc g λbu ch g=>(T.ia (W1.w1 (vSc hO) bu 24 #[vi X,vi (z.2.2.1.length:Int)] (λb d=>oL X (z.2.2.1.length:Int) bu ch b) ?_));intro u dq aH k;obtain rfl:=ic _ _ _ k;refine oc g λe1 cj g=>?_;obtain⟨cF,cG,bO⟩:=ig cj;obtain⟨dB,cH,cD⟩:=hJ.elem (hJ.mono bT (vt (iq _ _) aH)) bO;obtain⟨bz,bG,bA,bH,rfl,cL,cM⟩:=cH;refine T.l (.pointer (some ((iz av).add (bu.toNat * 2)))) (λb d=>ib (e:=40) (s:=2) rfl rfl rfl k_ k_ cF cG ((hJ.mono bT (vt (iq _ _) aH)).some_ bO c_)) ?_;let bE:Value:=.agg #[sl bz e1.pages bG,sl bA e1.writes bH];refine T.l bE (λb d=>lN (λj u hj=>d.cell_view (View.cell_mono vr (cD j u hj).2))) ?_;refine au0 ?_
 refine oc g λY ck g=>(T.ia (W1.w1 (vT2 (vAg iC) (vSc hO)) Y 23 #[bE,sl O I V] (λb d=>rv F e1 I Y ck b bz bG (hJ.mono cL d.view) bA bH (hJ.mono cM d.view) O V (hJ.mono (hJ.mono cK (vt (vt (vt (vt (vt (vt (vt (vt (vt (vt (vt aF aI) aJ) aK) aZ) bo) aX) af) aY) aG) bn) aH)) d.view)) ?_));intro u bB bI k;obtain⟨u5,u6,rfl,da,db⟩:=iP k;obtain⟨dC,rfl,cI⟩:=jS da;obtain⟨a8,bj,a9,bk,rfl,cN,cO⟩:=cI;obtain rfl:=ic _ _ _ db;refine au0 ?_;refine T.N1 λb5=>?_;refine au2 ?_;revert g;refine T.c (λcE g=>?_) (λcE g=>?_);refine au1 ?_;cases g;exact il;refine au1 ?_;refine oc g λm cl g=>?_;let bW:=box b5 40 [sl a8 Y.1.pages bj,sl a9 Y.1.writes bk];refine T.ia (W1.ci 19 [.agg #[sl a8 Y.1.pages bj,sl a9 Y.1.writes bk]] (λv b=>∃b6 aN aT aO aU G H ad,View.le bB ad/\hJ (made w ad) eStr aN aT m.1/\hJ (made w ad) ij aO aU m.2.1/\v=.tuple #[pB b6 0,vi 0]/\Hp w ad ((box b6 79 [sl aN m.1 aT,sl aO m.2.1 aU,vi m.2.2.1,sl G m.2.2.2 H])::(row 97 (eAt w iy) G H m.2.2.2)::bW::[]) b) (λb d=>ko F Y.1.pages Y.1.writes m cl w a8 bj a9 bk bB (bW::[]) b (hJ.mono cN (iq _ _)) (hJ.mono cO (iq _ _)) (d.u)) ?_);rintro v b ⟨b6,aN,aT,aO,aU,G,H,ad,bJ,dU,dV,rfl,d⟩;refine⟨_,_,d,?_⟩;clear d;refine au0 ?_;refine oc g λz7 B g=>?_;refine T.iD (λa b=>∃bc,View.le ad bc/\Fr 119 [(10,.bool z7)] a/\Hp w bc [] b) ?_ ?_;refine au1 ?_;refine oc B λz8 br B=>?_;let bt:=box b6 79 [sl aN m.1 aT,sl aO m.2.1 aU,vi m.2.2.1,sl G m.2.2.2 H];let df:=row 97 (eAt w iy) G H m.2.2.2;let a1:=bt::df::[]
 refine T.ia (W1.im 10 [pB b6 0] (λv b=>∃aw aD az,View.le ad az/\hJ (made w az) eElem aw aD z8/\v=.slice aw z8.length aD/\Hp w az a1 b) Tryz.func10 rfl rfl k_ (λ_=>k_) rfl ?_ ?_);refine au2 ?_;refine oc br λbY cm br=>(T.ia (W1.w1 (vT2 (vSc (ku eElem)) (vSc hO)) bY 33 #[.agg #[vi m.2.2.1,sl G m.2.2.2 H]] (λb d=>jL F (DTree.mk m.2.2.1 m.2.2.2) bY cm b G H (d.row_slOk (i:=1) b_).ofAt) ?_));intro u dr dG k;obtain⟨u7,u8,rfl,dc,dd⟩:=iP k;obtain⟨dk,dy,rfl,dW⟩:=i9 dc;obtain rfl:=ic _ _ _ dd;refine au1 ?_;cases br;exact il;rintro v b ⟨aw,aD,az,bK,cP,rfl,d⟩;refine⟨az,a1,d,?_⟩;clear d;refine au0 ?_;refine oc B λbv cn B=>(T.ia (W1.w1 (vSc eBool) bv 20 #[sl aw z8 aD,sl q p x] (λb d=>ji F z8 p bv cn b aw aD (hJ.mono (hJ.mono cP (iq _ _)) d.view) q x (hJ.mono (hJ.mono a0 (vt (vt (vt (vt (vt (vt (vt (vt (vt (vt (vt (vt (vt (vt aF aI) aJ) aK) aZ) bo) aX) af) aY) aG) bn) aH) bI) bJ) bK)) d.view)) ?_));intro u ca cc k;obtain rfl:=jH _ _ _ k;refine au0 ?_;cases bN:bv;rw[bN,cond_false] at B;refine au0 ?_;refine oc B λz9 bs B=>(T.ia (W1.im 10 [pB b6 0] (λv b=>∃ax aE aA,View.le ca aA/\hJ (made w aA) eElem ax aE z9/\v=.slice ax z9.length aE/\Hp w aA a1 b) Tryz.func10 rfl rfl k_ (λ_=>k_) rfl ?_ ?_));refine au2 ?_;refine oc bs λbZ co bs=>(T.ia (W1.w1 (vT2 (vSc (ku eElem)) (vSc hO)) bZ 33 #[.agg #[vi m.2.2.1,sl G m.2.2.2 H]] (λb d=>jL F (DTree.mk m.2.2.1 m.2.2.2) bZ co b G H (d.row_slOk (i:=1) b_).ofAt) ?_));intro u ds dH k
 obtain⟨u9,d3,rfl,de,cX⟩:=iP k;obtain⟨dl,dz,rfl,dX⟩:=i9 de;obtain rfl:=ic _ _ _ cX;refine au1 ?_;cases bs;exact il;rintro v b ⟨ax,aE,aA,cd,cQ,rfl,d⟩;refine⟨aA,a1,d,?_⟩;clear d;refine au0 ?_;refine oc B λb0 cp B=>(T.ia (W1.w1 (vSc eBool) b0 20 #[sl ax z9 aE,sl ah z6 an] (λb d=>ji F z9 z6 b0 cp b ax aE (hJ.mono (hJ.mono cQ (iq _ _)) d.view) ah an (hJ.mono (hJ.mono cJ (vt (iq _ _) (vt (vt (vt (vt (vt (vt bn aH) bI) bJ) bK) cc) cd))) d.view)) ?_));intro u dt dI k;obtain rfl:=jH _ _ _ k;refine au0 ?_;refine T.kr (E:=iy) (H':=(bt::[])) 1 b_ rfl (λdu dJ dY=>?_);cases B;exact ie;rw[bN,cond_true] at B;refine au0 ?_;refine T.kr (E:=iy) (H':=(bt::[])) 1 b_ rfl (λdv dK dZ=>?_);cases B;exact ie;rintro a b ⟨bc,dF,hf,d⟩;revert hf d;refine T.i ?_;cases g;exact il
section
def ofL (l:List UInt8):ByteArray:=⟨l.toArray⟩
theorem GR (s:ByteArray):∃l,s=ofL l:=⟨s.data.toList,rfl⟩
@[simp] theorem DJ (l:List UInt8):(ofL l).size=l.length:=rfl
theorem HN {a b:List UInt8}:ofL a=ofL b↔a=b:=by
 constructor
 . intro h;have:=congrArg (λs:ByteArray=>s.data.toList) h;simpa[ofL] using this
 . rintro rfl;rfl
theorem zW (l:List UInt8)(i:Int):qP (ofL l) i=if 0<=i then l[i.toNat]? else none:=by
 unfold qP;split
 . show (if h:i.toNat<l.toArray.size then some l.toArray[i.toNat] else none)=_;by_cases hi:i.toNat<l.length
   . rw[dif_pos (by simpa using hi),a_ hi];rfl
   . rw[dif_neg (by simpa using hi),l_ o_]
 . rfl
theorem Hf (a b:List UInt8):ofL a++ofL b=ofL (a++b):=by
 have:(ofL a++ofL b).data=(ofL (a++b)).data:=by rw[ByteArray.data_append];simp[ofL]
 exact ByteArray.ext this
theorem xp {a b:List UInt8}(h:a.length+b.length<=9223372036854775807):m5 (ofL a) (ofL b)=some (ofL (a++b)):=by unfold m5;rw[if_pos (by simpa using h),Hf]
theorem Gd (l:List UInt8)(lo hi:Nat):(ofL l).extract lo hi=ofL ((l.take hi).drop lo):=by apply ByteArray.ext;rw[ByteArray.data_extract];simp[ofL,List.extract,List.drop_take]
theorem w9 {l:List UInt8}{lo hi:Int}(h0:0<=lo)(h1:lo<=hi)(h2:hi<=l.length):km (ofL l) lo hi=some (ofL ((l.take hi.toNat).drop lo.toNat)):=by unfold km;rw[if_pos ⟨h0,h1,by simpa using h2⟩,Gd]
theorem KK (a b:List UInt8):seq (ofL a) (ofL b)=(a==b):=by rw[Bool.eq_iff_iff,tF,HN];simp
theorem GH (l:List Int):lW l=ofL (l.map λn=>f_ n.toNat):=by
 have key:∀(l:List Int) (s:ByteArray),l.foldl (λs n=>s.push (f_ n.toNat)) s=ofL (s.data.toList++l.map λn=>f_ n.toNat):=by
  intro l
  induction l with
  |nil=>intro s;simp[ofL]
  |cons n l ih=>intro s;rw[List.foldl_cons,ih];congr 1;simp
 simpa[lW] using key l ByteArray.empty
theorem zf (l:List UInt8):lW (l.map λb=>(b.toNat:Int))=ofL l:=by
 rw[GH,List.map_map];congr 1;have:(λb:UInt8=>f_ ((b.toNat:Int)).toNat)=id:=by funext b;simp
 rw[show (λn:Int=>f_ n.toNat)∘(λb:UInt8=>(b.toNat:Int))=id from this,List.map_id]
theorem vT {α β:Type}(a:α)(f:α->Option β):(some a).bind f=f a:=by
 have h:∀o:Option α,o=some a->o.bind f=f a:=λo ho=>by rw[ho];rfl
 exact h _ rfl
theorem wg {α:Type}(a b:α):(bif true then a else b)=a:=by
 have h:∀c:Bool,c=true->(bif c then a else b)=a:=λc hc=>by rw[hc];rfl
 exact h _ rfl
theorem vY {α:Type}(a b:α):(bif false then a else b)=b:=by
 have h:∀c:Bool,c=false->(bif c then a else b)=b:=λc hc=>by rw[hc];rfl
 exact h _ rfl
theorem AX {σ ρ:Type}{f:σ->Option (σ⊕ρ)}(g:Nat->σ)(W:Nat->Option ρ)(n:Nat){res:ρ}(hs:∀k,k<n->f (g k)=some (match W k with|some r=>.inr r|none=>.inl (g (k+1))))(he:f (g n)=some (.inr res)) :
 ∀(m k N:Nat),k+m=n->m<N->iter f N (g k)=some (((List.range' k m).findSome? W).getD res)
 |0,k,N,hk,hN=>by obtain⟨N,rfl⟩:∃M,N=M+1:=⟨N-1,by omega⟩;rw[iter,show k=n by omega,he];rfl
 |m+1,k,N,hk,hN=>by
  obtain⟨N,rfl⟩:∃M,N=M+1:=⟨N-1,by omega⟩;rw[iter,hs k o_,List.range'_succ,i_]
  cases hW:W k with
  |some r=>rfl
  |none=>exact AX g W n hs he m (k+1) N o_ o_
theorem wq {n:Int}(h0:-9223372036854775808<=n)(h1:n<=9223372036854775807):IntKind.i64.wrap n=n:=by rw[IntKind.wrap_i64];omega
theorem Lo (n:Int):IntKind.u8.wrap n=n % 256:=by simp[IntKind.wrap,IntKind.bits,IntKind.signed]
theorem FC (n:Int):IntKind.u16.wrap n=n % 65536:=by simp[IntKind.wrap,IntKind.bits,IntKind.signed]
end
section
def stp (x:BitVec 16):BitVec 16:=if x.msb then (x <<< 1) ^^^ 0x1021#16 else x <<< 1
def IH (b:Bool):BitVec 16:=if b then 0x1021#16 else 0#16
theorem Fu (x:BitVec 16):stp x=(x <<< 1) ^^^ IH x.msb:=by unfold stp IH;split <;> simp_all
theorem JQ (a b:Bool):IH (a ^^ b)=IH a ^^^ IH b:=by cases a <;> cases b <;> rfl
theorem LB (a b c d:BitVec 16):(a ^^^ b) ^^^ (c ^^^ d)=(a ^^^ c) ^^^ (b ^^^ d):=by rw[BitVec.xor_assoc,<-BitVec.xor_assoc b c d,BitVec.xor_comm b c,BitVec.xor_assoc c b d,<-BitVec.xor_assoc]
theorem KO (x y:BitVec 16):stp (x ^^^ y)=stp x ^^^ stp y:=by rw[Fu,Fu,Fu,BitVec.msb_xor,JQ,BitVec.shiftLeft_xor_distrib,LB]
def fd (x:BitVec 16)(b:Bool):BitVec 16:=stp (x ^^^ (if b then 0x8000#16 else 0#16))
def D4 (x:BitVec 16)(l:List Bool):BitVec 16:=l.foldl fd x
def Jx (b:Bool):BitVec 16:=if b then 0x8000#16 else 0#16
theorem FW (x:BitVec 16)(l m:List Bool):D4 x (l++m)=D4 (D4 x l) m:=List.foldl_append
def FB:List Bool->BitVec 16
 |[]=>0#16
 |b::l=>Jx b ^^^ (FB l >>> 1)
def Fv:Nat->BitVec 16->BitVec 16
 |0,x=>x
 |n+1,x=>Fv n (stp x)
theorem GA:∀(l:List Bool) (i:Nat),i+l.length<16->(FB l).getLsbD i=false
 |[],i,_=>by simp[FB]
 |b::l,i,h=>by
  have h1:=GA l (i+1) (by simp at h;omega)
  have h2:(Jx b).getLsbD i=false:=by
   cases b
   . simp[Jx]
   . have:i<15:=(by simp at h;omega);simp only[Jx,if_true];rw[show (0x8000#16:BitVec 16)=BitVec.twoPow 16 15 from rfl,BitVec.getLsbD_twoPow];simp;omega
  simp[FB,h1,h2,Nat.add_comm 1 i]
theorem J3 {y:BitVec 16}(h0:y.getLsbD 0=false):stp (y >>> 1)=y:=by
 have hm:(y >>> 1).msb=false:=by rw[BitVec.msb_eq_getLsbD_last];simp
 rw[Fu,hm];simp only[IH,Bool.false_eq_true,if_false,BitVec.xor_zero];apply BitVec.eq_of_getLsbD_eq;intro i hi;rcases Nat.eq_zero_or_pos i with rfl|hp
 . simp;simpa using h0
 . rw[BitVec.getLsbD_shiftLeft,BitVec.getLsbD_ushiftRight];simp[hi,show ¬ i<1 by omega,show 1+(i-1)=i by omega]
theorem Eg:∀(l:List Bool) (x:BitVec 16),l.length<=16->D4 x l=Fv l.length (x ^^^ FB l)
 |[],x,_=>by simp[D4,Fv,FB]
 |b::l,x,h=>by
  have hl:l.length<=15:=by simpa using h
  show D4 (fd x b) l=Fv l.length (stp (x ^^^ (Jx b ^^^ (FB l >>> 1))));rw[Eg l _ o_,<-BitVec.xor_assoc,KO,J3 (GA l 0 o_)];rfl
def FL (b:UInt8):List Bool:=(List.range 8).map λj=>b.toNat.testBit (7-j)
def Dk (l:List UInt8):List Bool:=l.flatMap FL
def crc (l:List UInt8):BitVec 16:=D4 0#16 (Dk l)
theorem BL (b:UInt8):(FL b).length=8:=by simp[FL]
theorem ES (a b:List UInt8):Dk (a++b)=Dk a++Dk b:=List.flatMap_append
theorem Hw (b:UInt8):FB (FL b)=BitVec.ofNat 16 b.toNat <<< 8:=by
 have:∀n,n<256->FB ((List.range 8).map λj=>n.testBit (7-j))=BitVec.ofNat 16 n <<< 8:=by decide +kernel
 exact this _ b.toNat_lt
def Je (x:BitVec 16)(b:UInt8):BitVec 16:=Fv 8 (x ^^^ (BitVec.ofNat 16 b.toNat <<< 8))
theorem H7 (x:BitVec 16)(b:UInt8):D4 x (FL b)=Je x b:=by rw[Eg _ _ (by rw[BL];decide),BL,Hw];rfl
theorem GP (a b:List UInt8):crc (a++b)=D4 (crc a) (Dk b):=by rw[crc,ES,FW];rfl
end
section
theorem obs {α:Type _}{β:Type _}(a:α)(f:α->Option β):(some a).bind f=f a:=rfl
theorem gge {α:Type _}{l:List α}{i:Nat}(h:i<l.length):l[i]? = some l[i]:=a_ h
theorem ggs {α:Type _}{l:List α}{i:Nat}{a:α}:l[i]? = some a↔∃h:i<l.length,l[i]=a:=t_
theorem w64 {n:Int}(h0:-9223372036854775808<=n)(h1:n<=9223372036854775807):IntKind.i64.wrap n=n:=by rw[IntKind.wrap_i64];omega
theorem vX {α:Type}(l:List α)(k:Nat):idx l (k:Int)=l[k]?:=by unfold idx;rw[if_neg o_,Int.toNat_natCast]
theorem wo {α:Type}{b:Nat}{l m:List α}(h:(l.length+m.length)*b<=140737488355328)(hm:l.length+m.length<=9223372036854775807):grow b l m=some (l++m):=by unfold grow;rw[if_pos ⟨h,by unfold maxLen;omega⟩]
theorem Cw {α:Type}{l:List α}{lo hi:Int}(h0:0<=lo)(h1:lo<=hi)(h2:hi<=l.length):js l lo hi=some ((l.take hi.toNat).drop lo.toNat):=by unfold js;rw[if_pos ⟨h0,h1,h2⟩]
theorem xg {α:Type}{l:List α}{k:Nat}(h:k<=l.length):js l 0 (k:Int)=some (l.take k):=by rw[Cw o_ o_ o_];simp
theorem wL {α:Type}{l:List α}{k:Nat}(h:k<=l.length):js l (k:Int) (l.length:Int)=some (l.drop k):=by rw[Cw o_ o_ o_];simp
theorem wI {c:Int}(h:c≠0):(c !=0)=true:=by simpa using h
theorem ww {c:Int}(h:c=0):(c !=0)=false:=by simp[h]
section loops
variable {σ ρ α τ:Type} {F:Nat}
theorem HJ {f:σ->Option (σ⊕ρ)}(g:Nat->σ){r:ρ}:∀(n:Nat) (N:Nat),(∀k,k<n->f (g k)=some (.inl (g (k+1))))->f (g n)=some (.inr r)->n<N->iter f N (g 0)=some r
 |0,N,_,he,hN=>by obtain⟨N,rfl⟩:∃M,N=M+1:=⟨N-1,by omega⟩;rw[iter,he]
 |n+1,N,hs,he,hN=>by obtain⟨N,rfl⟩:∃M,N=M+1:=⟨N-1,by omega⟩;rw[iter,hs 0 o_];exact HJ (λk=>g (k+1)) n N (λk hk=>hs (k+1) o_) he o_
theorem zH [h:Big F]{n:Nat}(hn:n<=9223372036854775807):n<F:=by have:=h.le;omega
theorem wC [Big F]{f:σ->Option (σ⊕ρ)}(g:Nat->σ)(n:Nat){r:ρ}{s:σ}(h0:s=g 0)(hn:n<=9223372036854775807)(hs:∀k,k<n->f (g k)=some (.inl (g (k+1))))(he:f (g n)=some (.inr r)):iter f F s=some r:=by rw[h0];exact HJ g n F hs he (zH hn)
theorem JB [Big F]{f:σ->Option (σ⊕ρ)}(g:Nat->σ){r:ρ}(n:Nat)(hs:∀k,k<n->f (g k)=some (.inl (g (k+1))))(he:f (g n)=some (.inr r))(hn:n<=9223372036854775807){s:σ}(h0:s=g 0):iter f F s=some r :=
 wC g n h0 hn hs he
theorem xT [Big F]{f:σ->Option (σ⊕ρ)}{k:ρ->Option τ}{q:τ}(g:Nat->σ){r:ρ}(n:Nat){s:σ}(hn:n<=9223372036854775807)(h0:s=g 0)(hk:k r=some q)(hs:∀k,k<n->f (g k)=some (.inl (g (k+1))))(he:f (g n)=some (.inr r)) :
 (iter f F s).bind k=some q:=by
 rw[wC g n h0 hn hs he];exact hk
theorem yb [Big F]{f:Int->Option (Int⊕ρ)}(l:List α)(w:Nat->α->Option ρ)(res:ρ)(hn:l.length<=9223372036854775807){s:Int}(h0:s=0)
 (hs:∀(k:Nat) (e:α),l[k]? = some e->(∀j x,j<k->l[j]? = some x->w j x=none)->f (k:Int)=some (match w k e with|some r=>.inr r|none=>.inl ((k:Int)+1)))
 (he:f (l.length:Int)=some (.inr res)):iter f F s=some (((l.zipIdx).findSome? λp=>w p.2 p.1).getD res):=by
 subst h0
 have key:∀(m k N:Nat),k+m=l.length->m<N->(∀j x,j<k->l[j]? = some x->w j x=none)->iter f N (k:Int)=some ((((l.drop k).zipIdx k).findSome? λp=>w p.2 p.1).getD res):=by
  intro m
  induction m with
  |zero=>intro k N hk hN _;obtain⟨N,rfl⟩:∃M,N=M+1:=⟨N-1,by omega⟩;rw[iter,show k=l.length by omega,he,List.drop_length];rfl
  |succ m ih =>
   intro k N hk hN hb;obtain⟨N,rfl⟩:∃M,N=M+1:=⟨N-1,by omega⟩;have hkl:k<l.length:=o_;rw[iter,hs k l[k] (a_ hkl) hb,v_ hkl,List.zipIdx_cons,i_];dsimp only
   cases hw:w k l[k] with
   |some r=>rfl
   |none =>
    refine ih (k+1) N o_ o_ λj x hj hx=>?_;rcases Nat.lt_or_ge j k with h1|h1
    . exact hb j x h1 hx
    . obtain rfl:j=k:=o_;rw[a_ hkl] at hx;obtain rfl:=Option.some.inj hx;exact hw
 have:=key l.length 0 F o_ (zH hn) (λj x hj=>by omega);rw[List.drop_zero] at this;exact this
theorem DG [Big F]{f:Int->Option (Int⊕ρ)}(l:List α)(w:α->Option ρ)(res:ρ)(hn:l.length<=9223372036854775807){s:Int}(h0:s=0)
 (hs:∀(k:Nat) (e:α),l[k]? = some e->f (k:Int)=some (match w e with|some r=>.inr r|none=>.inl ((k:Int)+1)))
 (he:f (l.length:Int)=some (.inr res)):iter f F s=some ((l.findSome? w).getD res):=by
 rw[yb l (λ_ e=>w e) res hn h0 (λk e hk _=>hs k e hk) he];congr 2
 have:∀(l:List α) (n:Nat),(l.zipIdx n).findSome? (λp=>w p.1)=l.findSome? w:=by
  intro l
  induction l with
  |nil=>intro n;rfl
  |cons a l ih=>intro n;rw[List.zipIdx_cons,i_,i_,ih]
 exact this l 0
theorem yv {l:List α}{w:Nat->α->Option ρ}:(l.zipIdx.findSome? λp=>w p.2 p.1)=none↔∀k e,l[k]? = some e->w k e=none:=by
 rw[List.findSome?_eq_none_iff];constructor
 . intro h k e hk;exact h (e,k) (by rw[u_];exact hk)
 . rintro h ⟨e,k⟩ hp;rw[u_] at hp;exact h k e hp
theorem zO {l:List α}{w:Nat->α->Option ρ}{r:ρ}(h:(l.zipIdx.findSome? λp=>w p.2 p.1)=some r):∃k e,l[k]? = some e/\w k e=some r:=by obtain⟨⟨e,k⟩,hp,hr⟩:=List.exists_of_findSome?_eq_some h;rw[u_] at hp;exact⟨k,e,hp,hr⟩
theorem xq [Big F]{f:τ×Int->Option ((τ×Int)⊕ρ)}(l:List α)(st:τ->α->τ)(a0:τ){r:ρ}(hn:l.length<=9223372036854775807){s:τ×Int}(h0:s=(a0,0))
 (hs:∀(k:Nat) (e:α),l[k]? = some e->f ((l.take k).foldl st a0,(k:Int))=some (.inl (st ((l.take k).foldl st a0) e,(k:Int)+1)))
 (he:f (l.foldl st a0,(l.length:Int))=some (.inr r)):iter f F s=some r:=by
 refine wC (λk=>((l.take k).foldl st a0,(k:Int))) l.length (by rw[h0];rfl) hn (λk hk=>?_) (by rw[List.take_length];exact he);rw[hs k l[k] (a_ hk),List.take_add_one,a_ hk,Option.toList_some,List.foldl_append];simp
theorem DH [Big F]{f:σ->Option (σ⊕ρ)}{K:ρ->Option τ}(R:Nat->σ->τ->Prop)
 (hR:∀m s q,R m s q->(∃r,f s=some (.inr r)/\K r=some q)\/∃m' s',m'<m/\f s=some (.inl s')/\R m' s' q) {m:Nat} {s:σ} {q:τ} (hm:m<=9223372036854775807) (h:R m s q):(iter f F s).bind K=some q:=by
 have key:∀(n N m:Nat) (s:σ),m<=n->n<N->R m s q->(iter f N s).bind K=some q:=by
  intro n
  induction n with
  |zero =>
   intro N m s hmn hN hs;obtain⟨N,rfl⟩:∃M,N=M+1:=⟨N-1,by omega⟩;rcases hR m s q hs with ⟨r,h1,h2⟩|⟨m',s',h1,h2,h3⟩
   . rw[iter,h1];exact h2
   . omega
  |succ n ih =>
   intro N m s hmn hN hs;obtain⟨N,rfl⟩:∃M,N=M+1:=⟨N-1,by omega⟩;rcases hR m s q hs with ⟨r,h1,h2⟩|⟨m',s',h1,h2,h3⟩
   . rw[iter,h1];exact h2
   . rw[iter,h2];exact ih N m' s' o_ o_ h3
 exact key m F m s (Nat.le_refl _) (zH hm) h
theorem Dv {β:Type}(g:α->β)(l:List α):∀a:List β,l.foldl (λa e=>a++[g e]) a=a++l.map g:=by
 induction l with
 |nil=>intro a;simp
 |cons x l ih=>intro a;rw[List.foldl_cons,ih];simp
def KT (p:Nat->Bool):Nat->Nat
 |0=>0
 |n+1=>if p (KT p n) then KT p n else if p n then n else n+1
end loops
end
end Go.Proofs.YtnofgfobljadbaaGreat
