/- Plain Lean: bytes as lists, loops that count. Its conditions: none. -/
import Derived.ProofKit
import Derived.Deep.Slices
import Derived.SizedLaws
import Derived.Test.YtnofgfobljadbaaGreatStepLO
open List renaming length_append→a_, mem_cons→g_, mem_cons_of_mem→j_, getElem_mem→l_, take_length→p_, replicate→q_, length_drop→t_, length_take→u_, getD_eq_getElem?_getD→v_, foldl_cons→x_, length_cons→y_, take_add_one→B_, mem_cons_self→C_, mem_iff_getElem?→D_, range→E_, mem_of_getElem?→F_, length_set→H_, append_nil→I_, mem_append→J_, append_assoc→K_, take_left'→L_, nil_append→M_, pairwise_cons→N_, drop_left'→P_, getElem?_set→Q_, filter_sublist→S_, length_singleton→T_, length_eq_zero_iff→U_, getElem?_eq_none→V_, range'→W_, foldl_append→X_, getElem?_replicate→Y_, flatMap_cons→g8, cons_append→l7, getElem_of_mem→l9, filter_cons_of_neg→m4, pairwise_append→m9, pairwise_iff_getElem→n9, mem_zipIdx_iff_getElem?→p6, map_cons→t7, mem_append_left→w7, mem_or_eq_of_mem_set→B2, mem_of_mem_take→C2, count_cons→C4, length_flatMap→C5, sum_cons→C6, getElem?_eq_getElem→C7, drop_take→E0, findSome?_cons→E1, mem_append_right→E2, findSome?_eq_none_iff→E7, mem_range'→G0, filter_cons_of_pos→L5, length_replicate→L6, take_of_length_le→L7, nodup_cons→M2, mem_flatMap→M3, getElem?_append_left→M5, getElem?_append_right→M6, take_append_drop→M7, drop_eq_nil_of_le→M8, take_succ_cons→N0, exists_of_findSome?_eq_some→N4, filter_eq_nil_iff→N5, filterMap_cons_some→N6, mem_of_find?_eq_some→N7
open Int renaming toNat_natCast→d_, le_refl→g6, lt_or_eq_of_le→K0, toNat_of_nonneg→M1
open UInt8 renaming ofNat→f_, toNat_ofNat'→O_, toNat_inj→B1
open Option renaming some→i_, getD_none→Z_, getD_some→B3, bind_some→L3
open Nat renaming mod_eq_of_lt→z_, pow_succ→g9, le_of_eq→o8, le_trans→p7, le_refl→p8, mul_comm→t6, zero_le→C1, zero_mul→E3, zero_add→E4, add_mul→E5, pow_zero→E6, mul_le_mul_right→M4, pow_le_pow_right→M9, add_sub_cancel_left→N8
open ByteArray renaming mk→G_
open Bool renaming cond_eq_ite→R_, or_eq_true→m0, eq_iff_iff→w6, and_eq_true→L4, not_true→L8, not_false→L9
open Sum renaming inr→v8
namespace Go.Proofs.YtnofgfobljadbaaGreat
set_option linter.unusedSimpArgs false
set_option linter.unusedVariables false
section
section
def ofL (l:List UInt8):ByteArray:=⟨l.toArray⟩
theorem Gw (s:ByteArray):∃l,s=ofL l:=⟨s.data.toList,rfl⟩
@[simp] theorem Dt (l:List UInt8):(ofL l).size=l.length:=rfl
theorem Hq {a b:List UInt8}:ofL a=ofL b↔a=b:=by
 constructor
 . intro h;have:=congrArg (λs:ByteArray=>s.data.toList) h;simpa[ofL] using this
 . rintro rfl;rfl
theorem zM (l:List UInt8)(i:Int):qv (ofL l) i=if 0<=i then l[i.toNat]? else none:=by
 unfold qv;split
 . show (if h:i.toNat<l.toArray.size then some l.toArray[i.toNat] else none)=_;by_cases hi:i.toNat<l.length
   . rw[dif_pos (by simpa using hi),C7 hi];rfl
   . rw[dif_neg (by simpa using hi),V_ o_]
 . rfl
theorem GP (a b:List UInt8):ofL a++ofL b=ofL (a++b):=by
 have:(ofL a++ofL b).data=(ofL (a++b)).data:=by rw[ByteArray.data_append];simp[ofL]
 exact ByteArray.ext this
theorem xo {a b:List UInt8}(h:a.length+b.length<=9223372036854775807):mn (ofL a) (ofL b)=some (ofL (a++b)):=by unfold mn;rw[if_pos (by simpa using h),GP]
theorem FV (l:List UInt8)(lo hi:Nat):(ofL l).extract lo hi=ofL ((l.take hi).drop lo):=by apply ByteArray.ext;rw[ByteArray.data_extract];simp[ofL,List.extract,E0]
theorem xd {l:List UInt8}{lo hi:Int}(h0:0<=lo)(h1:lo<=hi)(h2:hi<=l.length):jL (ofL l) lo hi=some (ofL ((l.take hi.toNat).drop lo.toNat)):=by unfold jL;rw[if_pos ⟨h0,h1,by simpa using h2⟩,FV]
theorem Kj (a b:List UInt8):seq (ofL a) (ofL b)=(a==b):=by rw[w6,sZ,Hq];simp
theorem Gm (l:List Int):lw l=ofL (l.map λn=>f_ n.toNat):=by
 have key:∀(l:List Int) (s:ByteArray),l.foldl (λs n=>s.push (f_ n.toNat)) s=ofL (s.data.toList++l.map λn=>f_ n.toNat):=by
  intro l
  induction l with
  |nil=>intro s;simp[ofL]
  |cons n l ih=>intro s;rw[x_,ih];congr 1;simp
 simpa[lw] using key l ByteArray.empty
theorem yU (l:List UInt8):lw (l.map λb=>(b.toNat:Int))=ofL l:=by
 rw[Gm,List.map_map];congr 1;have:(λb:UInt8=>f_ ((b.toNat:Int)).toNat)=id:=by funext b;simp
 rw[show (λn:Int=>f_ n.toNat)∘(λb:UInt8=>(b.toNat:Int))=id from this,List.map_id]
theorem wd {α β:Type}(a:α)(f:α->Option β):(some a).bind f=f a:=by
 have h:∀o:Option α,o=some a->o.bind f=f a:=λo ho=>by rw[ho];rfl
 exact h _ rfl
theorem wt {α:Type}(a b:α):(bif true then a else b)=a:=by
 have h:∀c:Bool,c=true->(bif c then a else b)=a:=λc hc=>by rw[hc];rfl
 exact h _ rfl
theorem wi {α:Type}(a b:α):(bif false then a else b)=b:=by
 have h:∀c:Bool,c=false->(bif c then a else b)=b:=λc hc=>by rw[hc];rfl
 exact h _ rfl
theorem AN {σ ρ:Type}{f:σ->Option (σ⊕ρ)}(g:Nat->σ)(W:Nat->Option ρ)(n:Nat){res:ρ}(hs:∀k,k<n->f (g k)=some (match W k with|some r=>.inr r|none=>.inl (g (k+1))))(he:f (g n)=some (.inr res)) :
 ∀(m k N:Nat),k+m=n->m<N->iter f N (g k)=some (((W_ k m).findSome? W).getD res)
 |0,k,N,hk,hN=>by obtain⟨N,rfl⟩:∃M,N=M+1:=⟨N-1,by omega⟩;rw[iter,show k=n by omega,he];rfl
 |m+1,k,N,hk,hN=>by
  obtain⟨N,rfl⟩:∃M,N=M+1:=⟨N-1,by omega⟩;rw[iter,hs k o_,List.range'_succ,E1]
  cases hW:W k with
  |some r=>rfl
  |none=>exact AN g W n hs he m (k+1) N o_ o_
theorem wA {n:Int}(h0:-9223372036854775808<=n)(h1:n<=9223372036854775807):IntKind.i64.wrap n=n:=by rw[IntKind.wrap_i64];omega
theorem KW (n:Int):IntKind.u8.wrap n=n % 256:=by simp[IntKind.wrap,IntKind.bits,IntKind.signed]
theorem Fg (n:Int):IntKind.u16.wrap n=n % 65536:=by simp[IntKind.wrap,IntKind.bits,IntKind.signed]
end
section
def stp (x:BitVec 16):BitVec 16:=if x.msb then (x <<< 1) ^^^ 0x1021#16 else x <<< 1
def Ii (b:Bool):BitVec 16:=if b then 0x1021#16 else 0#16
theorem E8 (x:BitVec 16):stp x=(x <<< 1) ^^^ Ii x.msb:=by unfold stp Ii;split <;> simp_all
theorem Jr (a b:Bool):Ii (a ^^ b)=Ii a ^^^ Ii b:=by cases a <;> cases b <;> rfl
theorem La (a b c d:BitVec 16):(a ^^^ b) ^^^ (c ^^^ d)=(a ^^^ c) ^^^ (b ^^^ d):=by rw[BitVec.xor_assoc,<-BitVec.xor_assoc b c d,BitVec.xor_comm b c,BitVec.xor_assoc c b d,<-BitVec.xor_assoc]
theorem Ko (x y:BitVec 16):stp (x ^^^ y)=stp x ^^^ stp y:=by rw[E8,E8,E8,BitVec.msb_xor,Jr,BitVec.shiftLeft_xor_distrib,La]
def fd (x:BitVec 16)(b:Bool):BitVec 16:=stp (x ^^^ (if b then 0x8000#16 else 0#16))
def DK (x:BitVec 16)(l:List Bool):BitVec 16:=l.foldl fd x
def Ja (b:Bool):BitVec 16:=if b then 0x8000#16 else 0#16
theorem FB (x:BitVec 16)(l m:List Bool):DK x (l++m)=DK (DK x l) m:=X_
def Ff:List Bool->BitVec 16
 |[]=>0#16
 |b::l=>Ja b ^^^ (Ff l >>> 1)
def E9:Nat->BitVec 16->BitVec 16
 |0,x=>x
 |n+1,x=>E9 n (stp x)
theorem Gf:∀(l:List Bool) (i:Nat),i+l.length<16->(Ff l).getLsbD i=false
 |[],i,_=>by simp[Ff]
 |b::l,i,h=>by
  have h1:=Gf l (i+1) (by simp at h;omega)
  have h2:(Ja b).getLsbD i=false:=by
   cases b
   . simp[Ja]
   . have:i<15:=(by simp at h;omega);simp only[Ja,if_true];rw[show (0x8000#16:BitVec 16)=BitVec.twoPow 16 15 from rfl,BitVec.getLsbD_twoPow];simp;omega
  simp[Ff,h1,h2,Nat.add_comm 1 i]
theorem JF {y:BitVec 16}(h0:y.getLsbD 0=false):stp (y >>> 1)=y:=by
 have hm:(y >>> 1).msb=false:=by rw[BitVec.msb_eq_getLsbD_last];simp
 rw[E8,hm];simp only[Ii,Bool.false_eq_true,if_false,BitVec.xor_zero];apply BitVec.eq_of_getLsbD_eq;intro i hi;rcases Nat.eq_zero_or_pos i with rfl|hp
 . simp;simpa using h0
 . rw[BitVec.getLsbD_shiftLeft,BitVec.getLsbD_ushiftRight];simp[hi,show ¬ i<1 by omega,show 1+(i-1)=i by omega]
theorem DY:∀(l:List Bool) (x:BitVec 16),l.length<=16->DK x l=E9 l.length (x ^^^ Ff l)
 |[],x,_=>by simp[DK,E9,Ff]
 |b::l,x,h=>by
  have hl:l.length<=15:=by simpa using h
  show DK (fd x b) l=E9 l.length (stp (x ^^^ (Ja b ^^^ (Ff l >>> 1))));rw[DY l _ o_,<-BitVec.xor_assoc,Ko,JF (Gf l 0 o_)];rfl
def Fq (b:UInt8):List Bool:=(E_ 8).map λj=>b.toNat.testBit (7-j)
def C8 (l:List UInt8):List Bool:=l.flatMap Fq
def crc (l:List UInt8):BitVec 16:=DK 0#16 (C8 l)
theorem BE (b:UInt8):(Fq b).length=8:=by simp[Fq]
theorem Ey (a b:List UInt8):C8 (a++b)=C8 a++C8 b:=List.flatMap_append
theorem G9 (b:UInt8):Ff (Fq b)=BitVec.ofNat 16 b.toNat <<< 8:=by
 have:∀n,n<256->Ff ((E_ 8).map λj=>n.testBit (7-j))=BitVec.ofNat 16 n <<< 8:=by decide +kernel
 exact this _ b.toNat_lt
def IL (x:BitVec 16)(b:UInt8):BitVec 16:=E9 8 (x ^^^ (BitVec.ofNat 16 b.toNat <<< 8))
theorem HK (x:BitVec 16)(b:UInt8):DK x (Fq b)=IL x b:=by rw[DY _ _ (by rw[BE];decide),BE,G9];rfl
theorem Gt (a b:List UInt8):crc (a++b)=DK (crc a) (C8 b):=by rw[crc,Ey,FB];rfl
end
section
open Go.ChangeShapes Go.WideShapes Go.ChangeAt Go.RowKit
section
variable {H:Type} {enc:TypeId×Value->H} {P:Program}
theorem Ba (hl:laidOutB P=true){W W':World}{sp:Nat->Bool}:∀(ts:List TypeId) (vs:List Value) (ds:List (DataW H)) (p:List MemPlace),
 (∀t∈ts,P.readableRec t=true/\t<P.types.size)->DataW.TrodAll enc P W 0 (λ_=>true) true ts vs ds p->(∀x∈p,W.sameAt W' x)->(∀x∈p,sp x.block=true) ->
 DataW.TrodAll enc P W' 0 sp true ts vs ds p
 |[],[],[],_,_,h,_,_=>h
 |t::ts,v::vs,d::ds,ps,ht,h,hs,hsp=>by
  obtain⟨p,q,h1,h2,rfl⟩:=h;have hp:∀x∈p,x∈p++q:=λx hx=>w7 q hx;have hq:∀x∈q,x∈p++q:=λx hx=>E2 p hx;obtain⟨hr,hlt⟩:=ht t s_
  exact⟨p,q,WideElems.Trod_stays hl hr hlt h1 (λx hx=>hs x (hp x hx)) (λx hx=>hsp x (hp x hx)),
   Ba hl ts vs ds q (λt' h'=>ht t' (by simp[h'])) h2 (λx hx=>hs x (hq x hx)) (λx hx=>hsp x (hq x hx)),rfl⟩
 |[],_::_,_,_,_,h,_,_=>h.elim
 |[],[],_::_,_,_,h,_,_=>h.elim
 |_::_,[],_,_,_,h,_,_=>h.elim
 |_::_,_::_,[],_,_,h,_,_=>h.elim
end
def Hc (P:Program)(F:FuncId)(fn:Func):Prop:=∀(H:Type) (enc:TypeId×Value->H) (W:World) (base:Nat) (args:Array Value) (ds:List (DataW H)) (p:List MemPlace),(∀(j:Nat) t v,fn.params[j]? = some t->args[j]? = some v->Value.okWide P W .any base t v)->DataW.TrodAll enc P W 0 (λ_=>true) true fn.params.toList args.toList ds p->(DataW.weightsEach P fn.params.toList ds).all (·<=reachBytes)=true->Calls P F args W λe W'=>e=.returned (.bool true)/\Below W.heap.size W W'
theorem GH {C:Checked}{os:Os}{F:FuncId}{fn:Func}{s:ChangeSpec}{tb:TypeId}{H:Type}{enc:TypeId×Value->H}(hcall:Hc C.prog F fn)
 (own:ownKnob C.prog.godebug=none) (started:os.Started) (noInit:C.prog.inits.idxOf? F=none) (hfn:C.prog.funcs[F]? = some fn)
 (witness:∃(w:World) (tape:Tape) (i:Input),w.os=os/\(w.forCall tape i).Shaped C.prog/\i.vars=[]/\Input.okWide C.prog (w.forCall tape i) .any w.heap.size F i /\
  s.pre6 enc C.prog fn [] false (w.forCall tape i).memory i.args/\Assume.holds {} C.prog (lone (Frame.enter C.prog F i.args .normal) [] (w.forCall tape i)))
 (hvars:s.vars=[]) (hres:fn.resultTypes = #[tb]) (htb:C.prog.underlying tb=some .bool) (laid:laidOutB C.prog=true)
 (hread:∀t∈fn.params.toList,C.prog.readableRec t=true/\t<C.prog.types.size)
 (hspec:∀(ds:List (DataW H)),ds.length=fn.params.toList.length->(s.fn H ds).results=[.lit (.bool true)]/\(s.fn H ds).args=ds/\(s.fn H ds).vars=[]) :
 ReturnsInHanded {} C os F .any (s.pre6 enc C.prog fn [] false) (s.post enc C.prog fn false true false false):=by
 refine returnsInHanded_of_change_sized (C:=C) own started noInit hfn witness ?_;intro W base args ds gs before hval hW _ hw _;have hW':=hW;obtain⟨p,q,hA,hV,rfl,hfz,hnd⟩:=hW;rw[hvars] at hV;obtain⟨rfl,rfl⟩:=trodVars_none hV;have hvt:s.plain.varTypes C.prog=[]:=by show DataSpec.varTypes _ _=[];unfold DataSpec.varTypes ChangeSpec.plain;simp[hvars]
 rw[hvt,I_,I_] at hw
 have hlen:∀(ts:List TypeId) (vs:List Value) (ds:List (DataW H)) (p:List MemPlace),DataW.TrodAll enc C.prog W 0 (λ_=>true) true ts vs ds p->ds.length=ts.length:=by
  intro ts
  induction ts with
  |nil=>intro vs ds p h;cases vs <;> cases ds <;> first|rfl|exact h.elim
  |cons t ts ih =>
   intro vs ds p h
   cases vs with
   |nil=>exact h.elim
   |cons v vs =>
    cases ds with
    |nil=>exact h.elim
    |cons d ds=>obtain⟨p1,q1,_,h2,_⟩:=h;simp[ih _ _ _ h2]
 refine(hcall H enc W base args ds p hval hA hw).mono λe W' ⟨he,hb⟩=>?_;subst he;obtain⟨hs1,hs2,hs3⟩:=hspec ds (hlen _ _ _ _ hA);have hlt:∀x∈p,x.block<W.heap.size:=λx hx=>hW'.lt x (by simpa using hx)
 have hstay:∀sp:Nat->Bool,(∀x∈p,sp x.block=true)->DataW.TrodAll enc C.prog W' 0 sp true fn.params.toList args.toList ds p:=λsp hsp =>
  Ba laid _ _ _ _ hread hA (λx hx=>hb.same (hlt x hx)) hsp
 refine⟨_,rfl,ds,[],p++[],[],p,[],hW',?_,?_,?_,World.keptBut_mono (λx hx=>⟨by simpa using hx,.inr (.inl (by simpa using hx))⟩) (hb.frame (·∈p)),λh=>by cases h⟩
 . rw[I_,hs1,hres];exact trodAll_mk1 (shut_bool htb true)
 . rw[I_,hs2];exact hstay _ λx hx=>by simpa using hlt x hx
 . rw[I_,hs3,hvars];rfl
section
variable {H:Type} {enc:TypeId×Value->H} {P:Program} {w:World} {base:Nat} {spare:Nat->Bool} {held:Bool}
end
def Hd {H:Type}(P:Program)(t:TypeId)(d:DataW H):Prop:=∀n∈DataW.weights P t d,n<=reachBytes
def yv {α:Type}(P:Program)(t:TypeId)(E:Enc α)(ok:α->Prop):Prop:=∀(H:Type) (enc:TypeId×Value->H) (w:World) (base:Nat) (sp:Nat->Bool) (held:Bool) (fuel:Nat) (cs:List Value) (x:DataW H×List MemPlace),DataW.trod enc P w base sp held fuel t cs=some x->Hd P t x.1->∃d,E.rep (vw w) cs d/\ok d
def Ay (k:IntKind)(n:Int):Prop:=(Lit.int k n).wf=true
def okStrW (s:ByteArray):Prop:=s.size<=reachBytes
def GR {α:Type}(bytes:Nat)(ok:α->Prop)(l:List α):Prop:=l.length*bytes<=reachBytes/\∀x∈l,ok x
theorem Dr {H:Type}{P:Program}{ts:List TypeId}{ds:List (DataW H)}(hw:(DataW.weightsEach P ts ds).all (·<=reachBytes)=true){j:Nat}{t:TypeId}{d:DataW H}(ht:ts[j]? = some t)(hd:ds[j]? = some d):Hd P t d:=λn hn=>by have:=List.all_eq_true.1 hw n (DataW.weights_mem_each ht hd n hn);simpa using this
theorem Au {H:Type}{P:Program}{e:TypeId}:∀ {ds:List (DataW H)} {d:DataW H} {n:Nat},d∈ds->n∈DataW.weights P e d->n∈DataW.weightsAll P e ds
 |d0::ds,d,n,hd,hn=>by
  unfold DataW.weightsAll;rcases g_.1 hd with rfl|hd
  . exact w7 _ hn
  . exact E2 _ (Au hd hn)
section
variable {P:Program} {t:TypeId}
theorem zL {k:IntKind}(ht:P.underlying t=some (.int k)):yv P t (eK k) (Ay k):=λH enc w base sp held fuel cs x h _=>by obtain⟨n,hc,_,hw⟩:=DataW.trod_int ht h;exact⟨n,hc,hw⟩
theorem Ic (ht:P.underlying t=some .string):yv P t eStr okStrW:=λH enc w base sp held fuel cs x h hw=>by obtain⟨s,hc,hx,_⟩:=DataW.trod_string ht h;refine⟨s,hc,?_⟩;show s.size<=reachBytes;have:=hw s.data.toList.length (by rw[hx];simp[DataW.weights]);simpa using this
theorem GV {α:Type}{e:TypeId}{E:Enc α}{ok:α->Prop}{bytes:Nat}(ht:P.underlying t=some (.slice e))(hs:P.cellsOf e=E.size)(hby:P.bytesOf e=bytes)(he:yv P e E ok):yv P t (qF E) (GR bytes ok):=λH enc w base sp held fuel cs x h hw=>by
 rcases Deep.open_slice ht h with ⟨rfl,_⟩|⟨a,len,cap,m,n,D,Pl,rfl,_,hlc,hcm,hm,hx,hi⟩
 . exact⟨[],⟨none,0,rfl,fI.nil _ _⟩,by simp,λx hx=>by simp at hx⟩
 . have hlm:len<=m:=by rw[hm];split <;> omega
   subst hx;have hlen:len*bytes<=reachBytes:=by have:=hw ((((E_ len).map D).length+((E_ (m-len)).map λj=>D (len+j)).length)*P.bytesOf e) (by simp[DataW.weights,ht]);rw[hby] at this;simp only[List.length_map,List.length_range] at this;exact p7 (M4 _ o_) this
   have hlight:∀i,i<len->Hd P e (D i):=λi hil n hn=>hw n (by
    simp only[DataW.weights,ht]
    refine j_ _ (w7 _ (Au (List.mem_map.2 ⟨i,List.mem_range.2 hil,rfl⟩) hn)))
   have key:∀i,i<len->∃(cs':List Value) (d:α),w.cells? base (a.add (i*E.size)) E.size=some cs'/\E.rep (vw w) cs' d/\ok d:=λi hil=>by obtain⟨cs',h1,h2⟩:=hi i o_;rw[hs] at h1;obtain⟨d,h3,h4⟩:=he H enc w base sp held n cs' _ h2 (hlight i hil);exact⟨cs',d,h1,h3,h4⟩
   have build:∀k,k<=len->∃(l:List α) (xs:List Value),l.length=k/\io (vw w) E xs l/\m5 (vw w) (some a) xs/\∀x∈l,ok x:=by
    intro k
    induction k with
    |zero=>intro _;exact⟨[],[],rfl,⟨by simp,λk x hk=>by simp at hk⟩,λj u hu=>by simp at hu,λx hx=>by simp at hx⟩
    |succ k ih =>
     intro hk;obtain⟨l,xs,h1,h2,h3,h4⟩:=ih o_;obtain⟨cs',d,h5,h6,h7⟩:=key k o_;refine⟨l++[d],xs++cs',by simp[h1],h2.append (rI h6),λj u hu=>?_,λx hx=>?_⟩
     . by_cases hj:j<xs.length
       . rw[M5 hj] at hu;exact h3 j u hu
       . rw[M6 o_] at hu;refine⟨a,rfl,?_⟩;obtain⟨_,_,hat⟩:=World.cells?_some h5;have hl5:cs'.length=E.size:=E.len h6
         have hjl:j-xs.length<cs'.length:=by
          rcases Nat.lt_or_ge (j-xs.length) cs'.length with h|h
          . exact h
          . rw[V_ h] at hu;cases hu
         have:=hat (j-xs.length) o_;rw[hu,lY] at this;have e:k*E.size+(j-xs.length)=j:=(by rw[h2.1,h1] at hj ⊢;omega);rw[e] at this;exact this
     . rcases J_.1 hx with hx|hx
       . exact h4 x hx
       . simp at hx;subst hx;exact h7
   obtain⟨l,xs,h1,h2,h3,h4⟩:=build len (p8 _);subst h1;exact⟨l,⟨some a,cap,rfl,hlc,hcm,xs,h2,h3⟩,hlen,h4⟩
theorem yV (cs:List Value)(a k:Nat):cs.drop a=(cs.drop a).take k++cs.drop (a+k):=by rw[<-List.drop_drop,M7]
theorem Ge {fs:Array Field}{H:Type}{enc:TypeId×Value->H}{w:World}{base:Nat}{sp:Nat->Bool}{held:Bool}{fuel:Nat}{cs:List Value}{x:DataW H×List MemPlace}(ht:P.underlying t=some (.struct fs))
 (h:DataW.trod enc P w base sp held fuel t cs=some x):cs.length=P.cellsOf t:=by
 obtain⟨_,_,_,_,hl,_,_⟩:=DataW.trod_struct ht h;exact hl
theorem xS {α:Type}{E:Enc α}{ok:α->Prop}{fs:Array Field}{H:Type}{enc:TypeId×Value->H}{w:World}{base:Nat}{sp:Nat->Bool}{held:Bool}{fuel:Nat}{cs:List Value}{x:DataW H×List MemPlace}(ht:P.underlying t=some (.struct fs))
 (h:DataW.trod enc P w base sp held fuel t cs=some x) (hw:Hd P t x.1) {i:Nat} {f:Field} (hi:fs[i]? = some f) (ho:yv P f.type E ok) :
 ∃d,E.rep (vw w) ((cs.drop f.offset).take (P.cellsOf f.type)) d/\ok d:=by
 obtain⟨xs,n,_,hx,_,hxl,hg⟩:=DataW.trod_struct ht h;have h1:=hg i f hi;have hlt:i<xs.length:=by rw[hxl];exact(Array.getElem?_eq_some_iff.1 hi).1
 rw[C7 hlt] at h1;refine ho H enc w base sp held n _ _ h1 λn hn=>hw n ?_;subst hx;simp only[DataW.weights,ht];refine DataW.weights_mem_each (j:=i) (t:=f.type) (d:=(xs[i]).1) ?_ ?_ n hn
 . rw[List.getElem?_map,Array.getElem?_toList,hi];rfl
 . rw[List.getElem?_map,C7 hlt];rfl
def okKey (x:DKey):Prop:=(Ay .i64) x.pfs/\(Ay .i64) x.obj/\(Ay .i64) x.off
theorem Ib {f0 f1 f2:Field}(ht:P.underlying t=some (.struct #[f0,f1,f2]))(hc:P.cellsOf t=3)
 (o0:f0.offset=0) (c0:P.cellsOf f0.type=1) (h0:yv P f0.type gi (Ay .i64))
 (o1:f1.offset=1) (c1:P.cellsOf f1.type=1) (h1:yv P f1.type gi (Ay .i64))
 (o2:f2.offset=2) (c2:P.cellsOf f2.type=1) (h2:yv P f2.type gi (Ay .i64)):yv P t wa okKey:=λH enc w base sp held fuel cs x h hw=>by
 have hl:=Ge ht h;obtain⟨d0,r0,k0⟩:=xS ht h hw (i:=0) (f:=f0) rfl h0;obtain⟨d1,r1,k1⟩:=xS ht h hw (i:=1) (f:=f1) rfl h1;obtain⟨d2,r2,k2⟩:=xS ht h hw (i:=2) (f:=f2) rfl h2;rw[o0,c0] at r0;rw[o1,c1] at r1;rw[o2,c2] at r2;have e:cs=(cs.drop 0).take 1++((cs.drop 1).take 1++((cs.drop 2).take 1++cs.drop 3)):=by rw[<-yV cs 2 1,<-yV cs 1 1,<-yV cs 0 1];rfl
 refine⟨⟨d0,d1,d2⟩,?_,⟨k0,k1,k2⟩⟩;show cs=DKey.cells _;rw[e,show (cs.drop 0).take 1=_ from r0,show (cs.drop 1).take 1=_ from r1,show (cs.drop 2).take 1=_ from r2,M8 o_];rfl
def okElem (x:DElem):Prop:=okKey x.key/\(Ay .i64) x.made/\(Ay .i64) x.gone/\okStrW x.val
theorem GU {f0 f1 f2 f3:Field}(ht:P.underlying t=some (.struct #[f0,f1,f2,f3]))(hc:P.cellsOf t=6)
 (o0:f0.offset=0) (c0:P.cellsOf f0.type=3) (h0:yv P f0.type wa okKey)
 (o1:f1.offset=3) (c1:P.cellsOf f1.type=1) (h1:yv P f1.type gi (Ay .i64))
 (o2:f2.offset=4) (c2:P.cellsOf f2.type=1) (h2:yv P f2.type gi (Ay .i64))
 (o3:f3.offset=5) (c3:P.cellsOf f3.type=1) (h3:yv P f3.type eStr okStrW):yv P t eElem okElem:=λH enc w base sp held fuel cs x h hw=>by
 have hl:=Ge ht h;obtain⟨d0,r0,k0⟩:=xS ht h hw (i:=0) (f:=f0) rfl h0;obtain⟨d1,r1,k1⟩:=xS ht h hw (i:=1) (f:=f1) rfl h1;obtain⟨d2,r2,k2⟩:=xS ht h hw (i:=2) (f:=f2) rfl h2;obtain⟨d3,r3,k3⟩:=xS ht h hw (i:=3) (f:=f3) rfl h3;rw[o0,c0] at r0;rw[o1,c1] at r1;rw[o2,c2] at r2;rw[o3,c3] at r3;have e:cs=(cs.drop 0).take 3++((cs.drop 3).take 1++((cs.drop 4).take 1++((cs.drop 5).take 1++cs.drop 6))):=by rw[<-yV cs 5 1,<-yV cs 4 1,<-yV cs 3 1,<-yV cs 0 3];rfl
 refine⟨⟨d0,d1,d2,d3⟩,?_,⟨k0,k1,k2,k3⟩⟩;show cs=DElem.cells _;rw[e,show (cs.drop 0).take 3=_ from r0,show (cs.drop 3).take 1=_ from r1,show (cs.drop 4).take 1=_ from r2,show (cs.drop 5).take 1=_ from r3,M8 o_];rfl
end
end
section
open Go.ChangeShapes
variable {F:Nat} [Big F]
theorem CT (X:BitVec 16):BitVec.ofInt 16 (X.toNat:Int)=X:=by simp
theorem JN (X:BitVec 16):IntKind.u16.wrap (X.toNat:Int)=(X.toNat:Int):=by rw[Fg];have:=X.isLt;omega
theorem IK (X Y:BitVec 16):ve .u16 (X.toNat:Int) (Y.toNat:Int)=((X ^^^ Y).toNat:Int):=by show IntKind.u16.wrap ((BitVec.ofInt 16 (X.toNat:Int) ^^^ BitVec.ofInt 16 (Y.toNat:Int)).toNat:Int)=_;rw[CT,CT,JN]
theorem Ky (X Y:BitVec 16):vx .u16 (X.toNat:Int) (Y.toNat:Int)=((X &&& Y).toNat:Int):=by show IntKind.u16.wrap ((BitVec.ofInt 16 (X.toNat:Int) &&& BitVec.ofInt 16 (Y.toNat:Int)).toNat:Int)=_;rw[CT,CT,JN]
theorem Kr (X:BitVec 16){n:Nat}(hn:n<=16):shl .u16 (X.toNat:Int) n=((X <<< n).toNat:Int):=by show IntKind.u16.wrap ((X.toNat:Int)*2 ^ min n 16)=_;rw[Fg,Nat.min_eq_left hn,BitVec.toNat_shiftLeft,Nat.shiftLeft_eq];rw[Int.natCast_emod,Int.natCast_mul,Int.natCast_pow];rfl
theorem ID (X:BitVec 16):X &&& 0x8000#16=if X.msb then 0x8000#16 else 0#16:=by
 apply BitVec.eq_of_getLsbD_eq;intro i hi;rw[BitVec.getLsbD_and,show (0x8000#16:BitVec 16)=BitVec.twoPow 16 15 from rfl,BitVec.getLsbD_twoPow,BitVec.msb_eq_getLsbD_last];by_cases h:i=15
 . subst h;cases hx:X.getLsbD 15 <;> simp[hx,BitVec.getLsbD_twoPow]
 . have h':¬ 15=i:=λe=>h e.symm;cases X.getLsbD (16-1) <;> simp[h',BitVec.getLsbD_twoPow]
theorem Km (X:BitVec 16):(bif ((vx .u16 (X.toNat:Int) 32768) !=0) then some (ve .u16 (shl .u16 (X.toNat:Int) 1) 4129) else some (shl .u16 (X.toNat:Int) 1))=some ((stp X).toNat:Int):=by
 have e1:vx .u16 (X.toNat:Int) 32768=((X &&& 0x8000#16).toNat:Int):=Ky X 0x8000#16;rw[e1,ID,Kr X c_];unfold stp
 cases X.msb with
 |true=>exact congrArg some (IK (X <<< 1) 0x1021#16)
 |false=>rfl
theorem Ep:∀k X,E9 (k+1) X=stp (E9 k X)
 |0,_=>rfl
 |k+1,X=>Ep k (stp X)
theorem DA (l:List UInt8)(hl:l.length<=9223372036854775807):qZ F (ofL l)=some ((crc l).toNat:Int):=by
 unfold qZ
 have inner:∀X:BitVec 16,iter (σ:=Int×Int) (ρ:=Int) (λx=>match x with
  |(x3,x4) =>
   bif decide (x4<8) then
    (
     bif ((vx .u16 x3 32768) !=0) then
      some (ve .u16 (shl .u16 x3 1) 4129)
      else
       some (shl .u16 x3 1):Option (Int)).bind λz3 =>
    some (.inl (z3,IntKind.i64.wrap (x4+1)))
    else
     some (.inr x3)) F ((X.toNat:Int),0)=some ((E9 8 X).toNat:Int):=λX=>by
  refine vE (λk=>(((E9 k X).toNat:Int),(k:Int))) 8 (λk hk=>?_) rfl c_ rfl;dsimp only;rw[Km,show decide ((k:Int)<8)=true from by simp;omega,wA o_ o_];simp[Ep]
 have outer:∀k,k<l.length->(qv (ofL l) (k:Int))=some l[k]!:=λk hk=>by rw[zM,if_pos o_,d_,gge hk,getElem!_pos l k hk]
 refine vh (r:=((crc l).toNat:Int)) (λk=>(((crc (l.take k)).toNat:Int),(k:Int))) l.length hl (by simp[crc,C8,DK]) ?_ (λk hk=>?_) ?_
 . rw[wA o_ (by have:=(crc l).isLt;omega)]
 . dsimp only;rw[show decide ((k:Int)<((ofL l).size:Int))=true from by simp;omega,outer k hk];have e1:IntKind.u16.wrap ((l[k]!).toNat:Int)=(((BitVec.ofNat 16 (l[k]!).toNat).toNat:Nat):Int):=by have:=(l[k]!).toNat_lt;rw[Fg,BitVec.toNat_ofNat];omega
   simp only[obs,cond_true];rw[e1,Kr _ c_,IK,inner,wA o_ o_];have e2:l.take (k+1)=l.take k++[l[k]!]:=(by rw[B_,gge hk,getElem!_pos l k hk];rfl);have e3:crc (l.take (k+1))=IL (crc (l.take k)) l[k]!:=(by rw[e2,Gt,C8,g8,List.flatMap_nil,I_,HK]);rw[e3];simp[IL]
 . dsimp only;rw[show decide ((l.length:Int)<((ofL l).size:Int))=false from by simp,p_];rfl
def two (X:BitVec 16):List UInt8:=[f_ (X.toNat / 256),f_ (X.toNat % 256)]
theorem BA (X:BitVec 16):(two X).length=2:=rfl
theorem KM {n:Int}(h0:0<=n)(h1:n<=140737488355328):qH 1 n=some ():=by unfold qH maxLen;rw[if_pos ⟨h0,by omega,by omega⟩]
theorem xF {α:Type}(l:List α)(k:Nat):idx l (k:Int)=l[k]?:=by unfold idx;rw[if_neg o_,d_]
end
section
open Go.ChangeShapes
variable {F:Nat} [Big F]
def wu (n:Nat):Nat->List UInt8
 |0=>[]
 |k+1=>f_ (n / 256 ^ k)::wu n k
def wz (l:List UInt8):Nat:=l.foldl (λn b=>n*256+b.toNat) 0
theorem we (n:Nat):∀k,(wu n k).length=k
 |0=>rfl
 |k+1=>by rw[wu,y_,we n k]
theorem HP (l:List UInt8)(x:Nat):l.foldl (λn b=>n*256+b.toNat) x=x*256 ^ l.length+wz l:=by
 unfold wz
 induction l generalizing x with
 |nil=>simp
 |cons b l ih=>rw[x_,ih,x_,ih (0*256+b.toNat),y_,g9,E3,E4,E5,Nat.mul_assoc,t6 256,Nat.add_assoc]
theorem Ct (b:UInt8)(l:List UInt8):wz (b::l)=b.toNat*256 ^ l.length+wz l:=by show List.foldl _ (0*256+b.toNat) l=_;rw[HP,E3,E4]
theorem CX:∀l:List UInt8,wz l<256 ^ l.length
 |[]=>by decide
 |b::l=>by have:=CX l;have hb:=b.toNat_lt;rw[Ct,y_,g9];have h1:(b.toNat+1)*256 ^ l.length<=256*256 ^ l.length:=M4 _ o_;rw[E5,Nat.one_mul] at h1;rw[t6 (256 ^ l.length)];omega
theorem xA (n:Nat):∀k,wz (wu n k)=n % 256 ^ k
 |0=>by rw[E6,Nat.mod_one];rfl
 |k+1=>by have h:=Nat.mod_mul (x:=n) (a:=256 ^ k) (b:=256);rw[wu,Ct,we,xA n k,g9,h,O_];show n / 256 ^ k % 256*256 ^ k+n % 256 ^ k=_;rw[t6,Nat.add_comm]
theorem Fp:∀(l:List UInt8) (m:Nat),wu (m*256 ^ l.length+wz l) l.length=l
 |[],_=>rfl
 |b::l,m=>by
  rw[y_,wu,Ct];have hl:=CX l;have e1:m*256 ^ (l.length+1)+(b.toNat*256 ^ l.length+wz l)=(m*256+b.toNat)*256 ^ l.length+wz l:=by rw[g9,E5,Nat.mul_assoc,t6 256];omega
  rw[e1,Fp l (m*256+b.toNat)];congr 1;have e2:((m*256+b.toNat)*256 ^ l.length+wz l) / 256 ^ l.length=m*256+b.toNat:=by rw[t6,Nat.mul_add_div (Nat.pow_pos c_),Nat.div_eq_of_lt hl,Nat.add_zero]
  rw[e2];apply B1.1;rw[O_];have:=b.toNat_lt;omega
theorem Ew (l:List UInt8):wu (wz l) l.length=l:=by have:=Fp l 0;rwa[E3,E4] at this
theorem Ft (x b:Nat)(hb:b<256)(hx:x<36028797018963968):bor .i64 (shl .i64 (x:Int) 8) (b:Int)=((x*256+b:Nat):Int):=by
 have e1:shl .i64 (x:Int) 8=((x*256:Nat):Int):=by
  show IntKind.i64.wrap ((x:Int)*2 ^ min 8 64)=_;have:(2:Int) ^ min 8 64=256:=by decide
  rw[this,wA o_ o_];omega
 rw[e1];show IntKind.i64.wrap ((BitVec.ofInt 64 ((x*256:Nat):Int) ||| BitVec.ofInt 64 (b:Int)).toNat:Int)=_;rw[BitVec.ofInt_natCast,BitVec.ofInt_natCast,BitVec.toNat_or,BitVec.toNat_ofNat,BitVec.toNat_ofNat,z_ o_,z_ o_];have e2:(x*256) ||| b=x*256+b:=by have:=Nat.shiftLeft_add_eq_or_of_lt (b:=b) (i:=8) hb x;rw[Nat.shiftLeft_eq] at this;exact this.symm
 rw[e2,wA o_ o_]
theorem xU (l:List UInt8)(hl:l.length<=7):kZ F (ofL l)=some ((wz l:Nat):Int):=by
 unfold kZ;have bound:∀k,wz (l.take k)<256 ^ 7:=λk=>Nat.lt_of_lt_of_le (CX _) (M9 c_ (by rw[u_];omega));refine vh (λk=>(((wz (l.take k):Nat):Int),(k:Int))) l.length o_ (by simp[wz]) (r:=((wz l:Nat):Int)) rfl (λk hk=>?_) ?_
 . dsimp only;have hb:=bound k;have hb1:=bound (k+1);have e1:qv (ofL l) (k:Int)=some l[k]!:=by rw[zM,if_pos o_,d_,gge hk,getElem!_pos l k hk]
   have e2:l.take (k+1)=l.take k++[l[k]!]:=(by rw[B_,gge hk,getElem!_pos l k hk];rfl);have e3:wz (l.take (k+1))=wz (l.take k)*256+(l[k]!).toNat:=(by rw[e2];unfold wz;rw[X_];rfl);have hlt:=(l[k]!).toNat_lt;rw[e3] at hb1 ⊢;have hp:(256:Nat) ^ 7=72057594037927936:=c_;rw[hp] at hb1;rw[show decide ((k:Int)<((ofL l).size:Int))=true from decide_eq_true (show (k:Int)<(l.length:Int) by omega),wt,e1,wd,wA o_ o_,wA o_ o_,Ft _ _ hlt o_];simp
 . dsimp only;rw[show decide ((l.length:Int)<((ofL l).size:Int))=false from decide_eq_false (show ¬ (l.length:Int)<(l.length:Int) by omega),p_];rfl
theorem Ga (n:Nat):shr .i64 (n:Int) 8=((n / 256:Nat):Int):=by
 show Int.fdiv (n:Int) (2 ^ min 8 64)=_;have:(2:Int) ^ min 8 64=256:=by decide
 rw[this,Int.fdiv_eq_ediv_of_nonneg _ c_,Int.natCast_ediv];rfl
theorem Fc (n:Nat):IntKind.u8.wrap (n:Int)=((f_ n).toNat:Int):=by rw[KW,O_];omega
theorem yl (n m:Nat)(hm:m<=100):jT F (n:Int) (m:Int)=some (ofL (wu n m)):=by
 unfold jT;rw[KM o_ o_,wd];have hlen:((q_ ((m:Int).toNat) (0:Int)).length:Int)=m:=by simp
 refine vh (λk=>(q_ (m-k) (0:Int)++(wu n k).map (λb=>(b.toNat:Int)),((n / 256 ^ k:Nat):Int),(k:Int))) m o_ (by simp[wu]) (r:=(wu n m).map (λb=>(b.toNat:Int))) ?_ (λk hk=>?_) ?_
 . rw[yU]
 . dsimp only;rw[hlen,show decide ((k:Int)<(m:Int))=true from decide_eq_true o_,wt];have w1:IntKind.i64.wrap (IntKind.i64.wrap ((m:Int)-1)-k)=((m-k-1:Nat):Int):=by rw[wA (n:=(m:Int)-1) o_ o_,wA o_ o_];omega
   have w2:IntKind.i64.wrap ((k:Int)+1)=((k+1:Nat):Int):=(by rw[wA o_ o_];rfl);rw[w1,xF,M5 (by simp;omega),Y_,if_pos o_,wd,d_,w2,Ga,Fc];rw[List.set_append_left _ _ (by simp;omega)];congr 1;congr 1;congr 1
   . rw[show m-k=(m-k-1)+1 by omega,List.replicate_succ',List.set_append_right _ _ s_,wu];simp[show m-(k+1)=m-k-1 by omega]
   . rw[Nat.div_div_eq_div_mul,g9]
 . dsimp only;rw[hlen,show decide ((m:Int)<(m:Int))=false from decide_eq_false o_,wi,Nat.sub_self];rfl
theorem BL (n:Nat):nK (n:Int)=some (ofL (wu n 2)):=by unfold nK;rw[Ga,Fc,Fc];have:=yU [f_ (n / 256),f_ n];simp only[t7,List.map_nil] at this;rw[this];simp[wu]
theorem Fb (X:BitVec 16):two X=wu X.toNat 2:=by
 have h:f_ (X.toNat % 256)=f_ X.toNat:=by apply B1.1;rw[O_,O_];omega
 simp[two,wu,h]
theorem Ck (a b:UInt8)(l:List UInt8):lP (ofL (a::b::l))=some ((wz [a,b]:Nat):Int):=by have ha:=a.toNat_lt;have hb:=b.toNat_lt;unfold lP;rw[zM,zM];simp only[show (0:Int)<=0 from by decide,show (0:Int)<=1 from by decide,if_true,show (0:Int).toNat=0 from rfl,show (1:Int).toNat=1 from rfl,List.getElem?_cons_zero,List.getElem?_cons_succ,wd];rw[wA o_ o_,wA o_ o_,Ft _ _ hb o_];simp[wz]
def yb (k:Nat)(B:List UInt8):List UInt8:=f_ k::(wu B.length 2++B)
def yi (k:Nat)(B:List UInt8):List UInt8:=yb k B++two (crc (yb k B))
theorem yc (k:Nat)(B:List UInt8):(yb k B).length=B.length+3:=by rw[yb,y_,a_,we];omega
theorem yx (k:Nat)(B:List UInt8):(yi k B).length=B.length+5:=by rw[yi,a_,yc,BA]
theorem yX (k:Nat)(B:List UInt8)(h0:1<=k)(h1:k<=255)(h:B.length<=3000):mE F ⟨k,ofL B⟩=some (ofL (yi k B),0):=by
 unfold mE;dsimp only;have e1:lw [IntKind.u8.wrap (k:Int)]=ofL [f_ k]:=by rw[Fc];exact yU [f_ k]
 have e2:nK ((ofL B).size:Int)=some (ofL (wu B.length 2)):=BL B.length;have e3:mn (ofL [f_ k]) (ofL (wu B.length 2))=some (ofL ([f_ k]++wu B.length 2)):=xo (by rw[we];simp);have e4:mn (ofL ([f_ k]++wu B.length 2)) (ofL B)=some (ofL (yb k B)):=by rw[xo (by simp[we];omega)];simp[yb]
 have e5:qZ F (ofL (yb k B))=some ((crc (yb k B)).toNat:Int):=DA _ (by rw[yc];omega);have e6:nK ((crc (yb k B)).toNat:Int)=some (ofL (two (crc (yb k B)))):=by rw[BL,Fb]
 have e7:mn (ofL (yb k B)) (ofL (two (crc (yb k B))))=some (ofL (yi k B)):=by rw[xo (by rw[yc,BA];omega)];rfl
 have b1:(decide ((k:Int)<1)||decide ((255:Int)<(k:Int)))=false:=by simp;omega
 have b2:decide ((3000:Int)<((ofL B).size:Int))=false:=decide_eq_false (show ¬ (3000:Int)<(B.length:Int) by omega);rw[b1,wi,b2,wi,e1,e2,wd,e3,wd,e4,wd,e5,wd,e6,wd,e7,wd]
def w9 (l:List UInt8):DFrame×Int×Int:=if l.length<5 then (⟨0,ofL []⟩,0,7) else let n:=wz ((l.drop 1).take 2);if l.getD 0 0=0\/3000<n then (⟨0,ofL []⟩,0,3) else if l.length<n+5 then (⟨0,ofL []⟩,0,7) else if wz ((l.drop (n+3)).take 2)≠(crc (l.take (n+3))).toNat then (⟨0,ofL []⟩,0,6) else (⟨((l.getD 0 0).toNat:Int),ofL ((l.take (n+3)).drop 3)⟩,((n+5:Nat):Int),0)
theorem Ei (l:List UInt8)(h:2<=l.length):lP (ofL l)=some ((wz (l.take 2):Nat):Int):=by
 match l,h with
 |a::b::l,_=>exact Ck a b l
theorem JM (l:List UInt8):wz (l.take 2)<65536:=by have:=CX (l.take 2);have h2:256 ^ (l.take 2).length<=256 ^ 2:=M9 c_ (by rw[u_];omega);omega
theorem zU (l:List UInt8)(hl:l.length<=9223372036854775807):mD F (ofL l)=some (w9 l):=by
 unfold mD w9;by_cases h5:l.length<5
 . rw[show decide (((ofL l).size:Int)<5)=true from decide_eq_true (show (l.length:Int)<5 by omega),wt,if_pos h5];rfl
 . rw[show decide (((ofL l).size:Int)<5)=false from decide_eq_false (show ¬ (l.length:Int)<5 by omega),wi,if_neg h5];have hs:jL (ofL l) 1 ((ofL l).size:Int)=some (ofL (l.drop 1)):=by have:=xd (l:=l) (lo:=1) (hi:=(l.length:Int)) c_ o_ o_;rw[d_,p_] at this;exact this
   have hn:=JM (l.drop 1);rw[hs,wd,Ei _ (by rw[t_];omega),wd]
   generalize hN:wz ((l.drop 1).take 2)=n at *
   dsimp only;have h0:qv (ofL l) 0=some (l.getD 0 0):=(by rw[zM,if_pos c_,v_];show l[0]? = _;rw[gge o_];rfl);rw[h0,wd]
   have hz:((if l.getD 0 0=0\/3000<n then true else false:Bool))=((((l.getD 0 0).toNat:Int)==0)||decide ((3000:Int)<(n:Int))):=by
    have e1:(((l.getD 0 0).toNat:Int)==0)=decide (l.getD 0 0=0):=(by rw[w6,beq_iff_eq,decide_eq_true_iff,<-B1];exact Int.natCast_eq_zero);have e2:decide ((3000:Int)<(n:Int))=decide (3000<n):=(by rw[decide_eq_decide];omega);rw[e1,e2,<-Bool.decide_or];by_cases hP:l.getD 0 0=0\/3000<n
    . rw[if_pos hP,decide_eq_true hP]
    . rw[if_neg hP,decide_eq_false hP]
   have hc:(bif (((l.getD 0 0).toNat:Int)==0) then some true else some (decide ((3000:Int)<(n:Int))))=some (if l.getD 0 0=0\/3000<n then true else false):=(by rw[hz];cases(((l.getD 0 0).toNat:Int)==0) <;> rfl);rw[hc,wd];by_cases hb:l.getD 0 0=0\/3000<n
   . rw[if_pos hb,if_pos hb,wt];rfl
   . rw[if_neg hb,if_neg hb,wi];have w5:IntKind.i64.wrap ((n:Int)+5)=((n+5:Nat):Int):=(by rw[wA o_ o_];rfl);have w3:IntKind.i64.wrap ((n:Int)+3)=((n+3:Nat):Int):=(by rw[wA o_ o_];rfl);rw[w5,w3];by_cases hs5:l.length<n+5
     . rw[show decide (((ofL l).size:Int)<((n+5:Nat):Int))=true from decide_eq_true (show (l.length:Int)<((n+5:Nat):Int) by omega),wt,if_pos hs5];rfl
     . rw[show decide (((ofL l).size:Int)<((n+5:Nat):Int))=false from decide_eq_false (show ¬ (l.length:Int)<((n+5:Nat):Int) by omega),wi,if_neg hs5];have s2:jL (ofL l) ((n+3:Nat):Int) ((ofL l).size:Int)=some (ofL (l.drop (n+3))):=(by have:=xd (l:=l) (lo:=((n+3:Nat):Int)) (hi:=(l.length:Int)) o_ o_ o_;rw[d_,d_,p_] at this;exact this);have s3:jL (ofL l) 0 ((n+3:Nat):Int)=some (ofL (l.take (n+3))):=(by have:=xd (l:=l) (lo:=0) (hi:=((n+3:Nat):Int)) c_ o_ o_;rw[d_] at this;exact this);have s4:jL (ofL l) 3 ((n+3:Nat):Int)=some (ofL ((l.take (n+3)).drop 3)):=(by have:=xd (l:=l) (lo:=3) (hi:=((n+3:Nat):Int)) c_ o_ o_;rw[d_] at this;exact this);rw[s2,wd,Ei _ (by rw[t_];omega),wd,s3,wd,DA _ (by rw[u_];omega),wd];by_cases hv:wz ((l.drop (n+3)).take 2)≠(crc (l.take (n+3))).toNat
       . have:(((wz ((l.drop (n + 3)).take 2):Nat):Int) !=((crc (l.take (n + 3))).toNat:Int))=true:=(by rw[bne_iff_ne];omega);rw[this,wt,if_pos hv];rfl
       . have:(((wz ((l.drop (n + 3)).take 2):Nat):Int) !=((crc (l.take (n + 3))).toNat:Int))=false:=(by rw[bne_eq_false_iff_eq];omega);have hlt:=(l.getD 0 0).toNat_lt;rw[this,wi,if_neg hv,wd,s4,wd,wA o_ o_]
theorem Kp (X:BitVec 16):wz (two X)=X.toNat:=by have:=X.isLt;rw[Fb,xA];exact z_ this
theorem HY (k:Nat)(B more:List UInt8):(yi k B++more).take (B.length+3)=yb k B:=by rw[yi,K_];exact L_ (yc k B)
theorem HV (k:Nat)(B more:List UInt8):(yi k B++more).drop (B.length+3)=two (crc (yb k B))++more:=by rw[yi,K_];exact P_ (yc k B)
theorem HW (k:Nat)(B more:List UInt8):((yi k B++more).drop 1).take 2=wu B.length 2:=by simp only[yi,yb,l7,K_,List.drop_succ_cons,List.drop_zero];exact L_ (we _ _)
theorem JB {B:List UInt8}(h:B.length<=3000):wz (wu B.length 2)=B.length:=by rw[xA];exact z_ o_
theorem FN {k:Nat}(h1:k<=255):(f_ k).toNat=k:=by rw[O_];exact z_ o_
theorem J4 {k:Nat}(h0:1<=k)(h1:k<=255):f_ k≠0:=by intro h;have:=congrArg UInt8.toNat h;rw[FN h1] at this;have h3:(0:UInt8).toNat=0:=rfl;omega
theorem KG (k:Nat)(B more:List UInt8):(yi k B++more).getD 0 0=f_ k:=rfl
theorem Gx (k:Nat)(B:List UInt8):(yb k B).drop 3=B:=by simp[yb,wu]
theorem Cg (k:Nat)(B more:List UInt8)(h0:1<=k)(h1:k<=255)(h:B.length<=3000):w9 (yi k B++more)=(⟨(k:Int),ofL B⟩,((B.length+5:Nat):Int),0):=by
 unfold w9;have hl:(yi k B++more).length=B.length+5+more.length:=by rw[a_,yx]
 rw[if_neg o_,HW,JB h];dsimp only;rw[KG,if_neg (by rintro(h'|h');exact J4 h0 h1 h';omega),if_neg o_,HV,HY,L_ (BA _),Kp,if_neg s_,Gx,FN h1]
theorem D4 {l:List UInt8}(h:(w9 l).2.2=0):∃(k:Nat) (B:List UInt8),1<=k/\k<=255/\B.length<=3000/\B.length+5<=l.length/\w9 l=(⟨(k:Int),ofL B⟩,((B.length+5:Nat):Int),0)/\yi k B=l.take (B.length+5):=by
 unfold w9 at h ⊢;by_cases h5:l.length<5
 . rw[if_pos h5] at h;cases h
 rw[if_neg h5] at h ⊢;dsimp only at h ⊢;generalize hn:wz ((l.drop 1).take 2)=n at h ⊢;by_cases hb:l.getD 0 0=0\/3000<n
 . rw[if_pos hb] at h;cases h
 rw[if_neg hb] at h ⊢;by_cases hs:l.length<n+5
 . rw[if_pos hs] at h;cases h
 rw[if_neg hs] at h ⊢;by_cases hv:wz ((l.drop (n+3)).take 2)≠(crc (l.take (n+3))).toNat
 . rw[if_pos hv] at h;cases h
 rw[if_neg hv];have hv':wz ((l.drop (n+3)).take 2)=(crc (l.take (n+3))).toNat:=Decidable.not_not.1 hv;have hB:((l.take (n+3)).drop 3).length=n:=by rw[t_,u_];omega
 have h0:(l.getD 0 0).toNat≠0:=λe=>hb (.inl (B1.1 e));have hlt:=(l.getD 0 0).toNat_lt;refine⟨(l.getD 0 0).toNat,(l.take (n+3)).drop 3,by omega,by omega,by rw[hB];omega,by rw[hB];omega,by rw[hB],?_⟩
 have hhead:yb (l.getD 0 0).toNat ((l.take (n+3)).drop 3)=l.take (n+3):=by
  rw[yb,hB];have e1:wu n 2=(l.drop 1).take 2:=by have:=Ew ((l.drop 1).take 2);rw[hn,show ((l.drop 1).take 2).length=2 by rw[u_,t_];omega] at this;exact this
  have e2:f_ (l.getD 0 0).toNat=l.getD 0 0:=by simp
  rw[e1,e2]
  have three:∀l:List UInt8,3<=l.length->l.getD 0 0::((l.drop 1).take 2++(l.take (n+3)).drop 3)=l.take (n+3):=λl hl=>by
   match l,hl with
   |a::b::c::l,_=>simp[N0]
   |[a,b],h=>simp at h
   |[a],h=>simp at h
   |[],h=>simp at h
  exact three l o_
 rw[yi,hhead,hB,Fb,<-hv'];have e3:=Ew ((l.drop (n+3)).take 2);rw[show ((l.drop (n+3)).take 2).length=2 by rw[u_,t_];omega] at e3;rw[e3,show n+5=(n+3)+2 by omega];exact List.take_add.symm
end
section
variable {F:Nat} [Big F]
theorem Gv {α:Type}[DecidableEq α](test:α->α->Bool)(ht:∀x y,test x y=true↔x=y)(p q:List α)(hp:p.length<=9223372036854775807) :
 (bif ((p.length:Int) !=(q.length:Int)) then
  some false
 else
  (iter (σ:=Int) (ρ:=(Unit)⊕Bool) (λx1 =>
   bif decide (x1<(p.length:Int)) then
    (idx p x1).bind λe1 =>
    (idx q x1).bind λe2 =>
    bif (!(test e1 e2)) then
     some (.inr (.inr false))
    else
     some (.inl (IntKind.i64.wrap (x1+1)))
    else
     some (.inr (.inl ()))) F 0).bind λz=>match z with
  |.inl _ =>
   some true
  |.inr q=>some q)=some (decide (p=q)):=by
 by_cases hl:p.length=q.length
 . rw[show ((p.length:Int) !=(q.length:Int))=false by rw[bne_eq_false_iff_eq];omega,cond_false];obtain⟨W,hW⟩:∃W:Nat->α->Option (Unit⊕Bool),∀k e,W k e=if q[k]? = some e then none else some (v8 false):=⟨_,λ_ _=>rfl⟩;rw[tD p W (Sum.inl ()) hp rfl (λk e hk _=>?_) s_]
   . by_cases he:p=q
     . subst he;rw[vo.2 λk e hk=>by rw[hW,if_pos hk],decide_eq_true rfl];rfl
     . rw[decide_eq_false he]
       cases hf:p.zipIdx.findSome? λa=>W a.2 a.1 with
       |some r =>
        obtain⟨k,e,_,hr⟩:=vp hf;rw[hW] at hr;split at hr
        . cases hr
        . obtain rfl:=i_.inj hr;rfl
       |none =>
        exfalso;apply he;rw[vo] at hf;apply List.ext_getElem?;intro k
        cases hk:p[k]? with
        |none=>rw[List.getElem?_eq_none_iff] at hk;rw[V_ o_]
        |some e =>
         have:=hf k e hk;rw[hW] at this;split at this
         . rename_i h;exact h.symm
         . cases this
   . have hkl:=(ggs.1 hk).1;have hq:q[k]? = some (q[k]'o_):=gge o_;rw[decide_eq_true o_,cond_true,vD,vD,hk,hq,obs,obs,w64 o_ o_,hW];by_cases he:q[k]'o_=e
     . rw[if_pos (by rw[hq,he]),(ht _ _).2 he.symm];rfl
     . have hf:test e (q[k]'o_)=false:=by
        cases hx:test e (q[k]'o_)
        . rfl
        . exact absurd ((ht _ _).1 hx).symm he
       rw[if_neg (by rw[hq];simpa using he),hf];rfl
 . rw[show ((p.length:Int) !=(q.length:Int))=true by rw[bne_iff_ne];omega,cond_true,decide_eq_false (λe=>hl (by rw[e]))]
theorem KA (p q:List DElem)(hp:p.length<=9223372036854775807):kw F p q=some (decide (p=q)):=Gv (λx y=>x==y) (λx y=>by simp) p q hp
end
section
open Go.ChangeShapes
variable {F:Nat} [Big F]
def okW (n:Nat)(w:DWrite):Prop:=0<=w.page/\w.page<n/\w.text.size<=3500
structure GoodD (d:DDisk):Prop where
 np:d.pages.length<=201
 nw:d.writes.length<=400
 pages:∀s∈d.pages,s.size<=3500
 writes:∀w∈d.writes,okW d.pages.length w
def B5 (n:Nat)(i:Int)(s:ByteArray):Int:=if i<0\/n<=i then 1 else if 3500<s.size then 2 else 0
theorem Cy (d:DDisk)(i:Int)(s:ByteArray):oB d i s=some (B5 d.pages.length i s):=by
 unfold oB B5;by_cases h:i<0\/(d.pages.length:Int)<=i
 . rw[if_pos h,show (decide (i<0)||decide ((d.pages.length:Int)<=i))=true by simpa using h,wt]
 . rw[if_neg h,show (decide (i<0)||decide ((d.pages.length:Int)<=i))=false by simpa using h,wi];by_cases h2:3500<s.size
   . rw[if_pos h2,decide_eq_true o_,wt]
   . rw[if_neg h2,decide_eq_false o_,wi]
theorem CV {n:Nat}{i:Int}{s:ByteArray}:B5 n i s=0↔0<=i/\i<n/\s.size<=3500:=by
 unfold B5;split
 . constructor
   . intro h;cases h
   . omega
 . split
   . constructor
     . intro h;cases h
     . omega
   . constructor
     . intro _;omega
     . intro _;rfl
theorem zq {ρ:Type}{W:Nat->Option ρ}{n:Nat}:(W_ 0 n).findSome? W=none↔∀k,k<n->W k=none:=by
 rw[E7];constructor
 . intro h k hk;exact h k (by simp[G0];omega)
 . intro h k hk;simp[G0] at hk;exact h k o_
theorem zS {ρ:Type}{W:Nat->Option ρ}{n:Nat}{r:ρ}(h:(W_ 0 n).findSome? W=some r):∃k,k<n/\W k=some r:=by obtain⟨k,hk,hr⟩:=N4 h;simp[G0] at hk;exact⟨k,by omega,hr⟩
theorem yF (d:DDisk):∃c:Int,lj F d=some c/\(c=0↔GoodD d):=by
 unfold lj;by_cases h:201<d.pages.length\/400<d.writes.length
 . refine⟨2,?_,?_⟩
   . rw[show (decide ((201:Int)<(d.pages.length:Int))||decide ((400:Int)<(d.writes.length:Int)))=true by simp;omega,wt]
   . constructor
     . intro h;cases h
     . intro g;have:=g.np;have:=g.nw;omega
 . rw[show (decide ((201:Int)<(d.pages.length:Int))||decide ((400:Int)<(d.writes.length:Int)))=false by simp;omega,wi]
   have key:=AN (ρ:=Unit⊕Int) (f:=λx1:Int =>
    bif decide (x1<(d.pages.length:Int)) then
     (idx d.pages x1).bind λe1 =>
     bif decide ((3500:Int)<(e1.size:Int)) then
      some (.inr (.inr 2))
     else
      some (.inl (IntKind.i64.wrap (x1+1)))
     else
      some (.inr (.inl ()))) (λk=>(k:Int)) (λk=>match d.pages[k]? with|some s=>if 3500<s.size then some (.inr 2) else none|none=>none) d.pages.length (res:=.inl ()) (λk hk=>by
    rw[decide_eq_true (show (k:Int)<(d.pages.length:Int) by omega),wt,xF,gge hk,wd];dsimp only;by_cases hs:3500<(d.pages[k]).size
    . rw[if_pos hs,decide_eq_true o_,wt]
    . rw[if_neg hs,decide_eq_false o_,wi,wA o_ o_];rfl) (by
    rw[decide_eq_false o_];rfl) d.pages.length 0 F o_ (sv o_)
   rw[show iter _ F (0:Int)=_ from key,wd]
   cases hf:(W_ 0 d.pages.length).findSome? (λk=>match d.pages[k]? with|some s=>if 3500<s.size then some (.inr 2:Unit⊕Int) else none|none=>none) with
   |some r =>
    obtain⟨k,hk,hr⟩:=zS hf;rw[gge hk] at hr;dsimp only at hr;split at hr
    . rename_i hbig;obtain rfl:=i_.inj hr;refine⟨2,rfl,?_⟩;constructor
      . intro h;cases h
      . intro g;have:=g.pages _ (l_ hk);omega
    . cases hr
   |none =>
    rw[zq] at hf
    have hp:∀s∈d.pages,s.size<=3500:=λs hs=>by
     obtain⟨k,hk,rfl⟩:=l9 hs;have:=hf k hk;rw[gge hk] at this;dsimp only at this;split at this
     . cases this
     . omega
    rw[Z_];dsimp only
    have key2:=AN (ρ:=Unit⊕Int) (f:=λx2:Int =>
     bif decide (x2<(d.writes.length:Int)) then
      (idx d.writes x2).bind λe2 =>
      (oB d e2.page e2.text).bind λr1 =>
      bif (r1 !=0) then
       some (.inr (.inr r1))
      else
       some (.inl (IntKind.i64.wrap (x2+1)))
      else
       some (.inr (.inl ()))) (λk=>(k:Int)) (λk=>match d.writes[k]? with|some w=>if B5 d.pages.length w.page w.text≠0 then some (.inr (B5 d.pages.length w.page w.text)) else none|none=>none) d.writes.length (res:=.inl ()) (λk hk=>by
     rw[decide_eq_true (show (k:Int)<(d.writes.length:Int) by omega),wt,xF,gge hk,wd,Cy,wd];dsimp only;by_cases hs:B5 d.pages.length (d.writes[k]).page (d.writes[k]).text≠0
     . rw[if_pos hs,show (B5 d.pages.length (d.writes[k]).page (d.writes[k]).text !=0)=true by simpa using hs,wt]
     . rw[if_neg hs,show (B5 d.pages.length (d.writes[k]).page (d.writes[k]).text !=0)=false by simpa using hs,wi,wA o_ o_];rfl) (by
     rw[decide_eq_false o_];rfl) d.writes.length 0 F o_ (sv o_)
    rw[show iter _ F (0:Int)=_ from key2,wd]
    cases hf2:(W_ 0 d.writes.length).findSome? (λk=>match d.writes[k]? with|some w=>if B5 d.pages.length w.page w.text≠0 then some (.inr (B5 d.pages.length w.page w.text):Unit⊕Int) else none|none=>none) with
    |some r =>
     obtain⟨k,hk,hr⟩:=zS hf2;rw[gge hk] at hr;dsimp only at hr;split at hr
     . rename_i hbad;obtain rfl:=i_.inj hr;refine⟨B5 d.pages.length (d.writes[k]).page (d.writes[k]).text,rfl,?_⟩;constructor
       . intro h;exact absurd h hbad
       . intro g;exact CV.2 (g.writes _ (l_ hk))
     . cases hr
    |none =>
     rw[zq] at hf2;refine⟨0,rfl,?_⟩;constructor
     . intro _;refine⟨by omega,by omega,hp,λw hw=>?_⟩;obtain⟨k,hk,rfl⟩:=l9 hw;have:=hf2 k hk;rw[gge hk] at this;dsimp only at this;split at this
       . cases this
       . rename_i h0;exact CV.1 (Decidable.not_not.1 h0)
     . intro _;rfl
def xh:List DWrite->Int->Option ByteArray
 |[],_=>none
 |w::ws,i=>match xh ws i with
  |some t=>some t
  |none=>if w.page=i then some w.text else none
theorem BR (w:DWrite)(i:Int):∀ws:List DWrite,xh (ws++[w]) i=if w.page=i then some w.text else xh ws i
 |[]=>by simp[xh]
 |v::ws=>by
  rw[l7,xh,BR w i ws];by_cases h:w.page=i
  . simp[h]
  . simp[h,xh]
def seen (d:DDisk)(i:Nat):ByteArray:=(xh d.writes i).getD (d.pages.getD i (ofL []))
theorem zR (d:DDisk)(i:Nat)(hi:i<d.pages.length)(hn:d.writes.length<=1000000):mC F d (i:Int)=some (seen d i):=by
 unfold mC
 have key:∀(m N:Nat),m<=d.writes.length->m<N->iter (σ:=Int) (ρ:=Unit⊕ByteArray) (λx1 =>
  bif decide ((0:Int)<=x1) then
   (idx d.writes x1).bind λe1 =>
   bif (e1.page==(i:Int)) then
    (idx d.writes x1).bind λe2 =>
    some (.inr (.inr e2.text))
   else
    some (.inl (IntKind.i64.wrap (x1-1)))
   else
    some (.inr (.inl ()))) N ((m:Int)-1)=some (match xh (d.writes.take m) i with|some t=>.inr t|none=>.inl ()):=by
  intro m
  induction m with
  |zero=>intro N _ hN;obtain⟨N,rfl⟩:∃M,N=M+1:=⟨N-1,by omega⟩;rw[iter,decide_eq_false o_];rfl
  |succ m ih =>
   intro N hm hN;obtain⟨N,rfl⟩:∃M,N=M+1:=⟨N-1,by omega⟩;have e0:(((m+1:Nat):Int)-1)=(m:Int):=o_;rw[iter,e0,decide_eq_true (show (0:Int)<=(m:Int) by omega),wt,xF,gge (show m<d.writes.length by omega),wd,wd];have e2:d.writes.take (m+1)=d.writes.take m++[d.writes[m]]:=(by rw[B_,gge (show m<d.writes.length by omega)];rfl);rw[e2,BR];by_cases h:(d.writes[m]).page=(i:Int)
   . rw[show ((d.writes[m]).page==(i:Int))=true by simpa using h,wt,if_pos h]
   . rw[show ((d.writes[m]).page==(i:Int))=false by simpa using h,wi,if_neg h];dsimp only;rw[wA o_ o_];exact ih N o_ o_
 rw[wA o_ o_,key d.writes.length F (p8 _) (sv o_),wd,p_];unfold seen
 cases xh d.writes i with
 |some t=>rfl
 |none=>dsimp only;rw[xF,gge hi,wd,Z_,v_,gge hi];rfl
theorem yd {α:Type}{b:Nat}{l m:List α}(h:(l.length+m.length)*b<=140737488355328)(hm:l.length+m.length<=9223372036854775807):grow b l m=some (l++m):=by unfold grow;rw[if_pos ⟨h,by unfold maxLen;omega⟩]
def Bb (d:DDisk)(i:Int)(s:ByteArray):Prop:=GoodD d/\0<=i/\i<d.pages.length/\s.size<=3500/\d.writes.length<400
theorem FC (d:DDisk)(i:Int)(s:ByteArray):(Bb d i s/\l8 F d i s=some (⟨d.pages,d.writes++[⟨i,s⟩]⟩,0))\/(¬ Bb d i s/\∃c:Int,c≠0/\l8 F d i s=some (⟨[],[]⟩,c)):=by
 unfold l8;obtain⟨c,hc,hg⟩:=yF (F:=F) d;rw[hc,wd];by_cases h0:c=0
 . subst h0;have g:=hg.1 rfl;have gp:=g.np;have gw:=g.nw;rw[show ((0:Int) !=0)=false by decide,wi,Cy,wd];by_cases h1:B5 d.pages.length i s=0
   . have h1':=CV.1 h1;rw[h1,show ((0:Int) !=0)=false by decide,wi];by_cases h2:d.writes.length=400
     . right;refine⟨λh=>by have:=h.2.2.2.2;omega,8,by decide,?_⟩;rw[show ((d.writes.length:Int)==400)=true by rw[beq_iff_eq];omega,wt]
     . left;refine⟨⟨g,h1'.1,h1'.2.1,h1'.2.2,by omega⟩,?_⟩;rw[show ((d.writes.length:Int)==400)=false by rw[beq_eq_false_iff_ne];omega,wi,yd (by simp;omega) (by simp;omega),wd,yd (by simp;omega) (by simp;omega),wd,wd,yd (by simp;omega) (by simp;omega),wd];simp
   . right;refine⟨λh=>h1 (CV.2 ⟨h.2.1,h.2.2.1,h.2.2.2.1⟩),_,h1,?_⟩;rw[show (B5 d.pages.length i s !=0)=true by simpa using h1,wt]
 . right;refine⟨λh=>h0 (hg.2 h.1),c,h0,?_⟩;rw[show (c !=0)=true by simpa using h0,wt]
theorem FD {d:DDisk}{i:Int}{s:ByteArray}(h:Bb d i s):GoodD ⟨d.pages,d.writes++[⟨i,s⟩]⟩:=by
 obtain⟨g,h1,h2,h3,h4⟩:=h;refine⟨g.np,by simp;omega,g.pages,λw hw=>?_⟩;rcases J_.1 hw with hw|hw
 . exact g.writes w hw
 . simp at hw;subst hw;exact⟨h1,h2,h3⟩
theorem KB (p q:List ByteArray)(hp:p.length<=9223372036854775807):kK F p q=some (decide (p=q)):=Gv (λx y=>seq x y) sZ p q hp
theorem IZ (p q:List DWrite)(hp:p.length<=9223372036854775807):kR F p q=some (decide (p=q)):=Gv (λx y=>x==y) (λx y=>by simp) p q hp
theorem Fk (a b:DDisk)(h1:a.pages.length<=100000)(h2:a.writes.length<=100000)(h3:b.pages.length<=100000)(h4:b.writes.length<=100000):kY F a b=some (decide (a=b)):=by
 unfold kY;rw[KB _ _ o_,wd];obtain⟨p,w⟩:=a;obtain⟨p',w'⟩:=b;dsimp only at h1 h2 h3 h4 ⊢;by_cases h:p=p'
 . rw[decide_eq_true h,wt,IZ _ _ o_,wd,wd];subst h;simp
 . rw[decide_eq_false h,wi,wd,decide_eq_false];intro e;exact h (DDisk.mk.inj e).1
def G2 (ps:List ByteArray)(w:DWrite):List ByteArray:=ps.set w.page.toNat w.text
def apply (ws:List DWrite)(ps:List ByteArray):List ByteArray:=ws.foldl G2 ps
theorem wQ (ws:List DWrite)(ps:List ByteArray):(apply ws ps).length=ps.length:=by
 unfold apply
 induction ws generalizing ps with
 |nil=>rfl
 |cons w ws ih=>rw[x_,ih];simp[G2]
theorem DV (ps:List ByteArray)(i:Nat)(hi:i<ps.length):∀(ws:List DWrite) (ps:List ByteArray),i<ps.length->(∀w∈ws,0<=w.page)->(apply ws ps).getD i (ofL [])=(xh ws i).getD (ps.getD i (ofL []))
 |[],_,_,_=>rfl
 |w::ws,ps,hi,h=>by
  have hw:=h w (C_);show (apply ws (G2 ps w)).getD i _=_;rw[DV ps i hi ws (G2 ps w) (by simp[G2];exact hi) (λv hv=>h v (j_ _ hv)),xh]
  cases xh ws i with
  |some t=>rfl
  |none =>
   rw[Z_,G2,v_,Q_];by_cases hq:w.page=(i:Int)
   . rw[if_pos hq,if_pos o_,if_pos o_];rfl
   . rw[if_neg hq,if_neg o_];rfl
theorem JH {d:DDisk}(g:GoodD d):iter (σ:=(List ByteArray)×Int) (ρ:=(List ByteArray)) (λx=>match x with
 |(x1,x2) =>
  bif decide (x2<(d.writes.length:Int)) then
   (idx d.writes x2).bind λe1 =>
   (idx x1 e1.page).bind λe2 =>
   some (.inl ((x1.set e1.page.toNat e1.text),IntKind.i64.wrap (x2+1)))
   else
    some (.inr x1)) F (d.pages,0)=some (apply d.writes d.pages):=by
 have gp:=g.np;have gw:=g.nw;have hl:∀k,(apply (d.writes.take k) d.pages).length=d.pages.length:=λk=>wQ _ _
 have run:(iter (σ:=(List ByteArray)×Int) (ρ:=(List ByteArray)) (λx=>match x with
  |(x1,x2) =>
   bif decide (x2<(d.writes.length:Int)) then
    (idx d.writes x2).bind λe1 =>
    (idx x1 e1.page).bind λe2 =>
    some (.inl ((x1.set e1.page.toNat e1.text),IntKind.i64.wrap (x2+1)))
    else
     some (.inr x1)) F (d.pages,0)).bind (λz2=>some z2)=some (apply d.writes d.pages):=by
  refine vh (λk=>(apply (d.writes.take k) d.pages,(k:Int))) (r:=apply d.writes d.pages) d.writes.length o_ (by simp[apply]) rfl (λk hk=>?_) ?_
  . dsimp only;have hw:=g.writes _ (l_ hk);have e2:d.writes.take (k+1)=d.writes.take k++[d.writes[k]]:=by rw[B_,gge hk];rfl
    have hi:idx (apply (d.writes.take k) d.pages) (d.writes[k]).page=some ((apply (d.writes.take k) d.pages)[(d.writes[k]).page.toNat]'(by rw[hl];have:=hw.1;have:=hw.2.1;omega)):=by have:=hw.1;unfold idx;rw[if_neg o_];exact gge _
    have e3:apply (d.writes.take (k+1)) d.pages=(apply (d.writes.take k) d.pages).set (d.writes[k]).page.toNat (d.writes[k]).text:=(by rw[e2,apply,X_];rfl);rw[decide_eq_true (show (k:Int)<(d.writes.length:Int) by omega),wt,xF,gge hk,wd,hi,wd,wA o_ o_,e3];rfl
  . dsimp only;rw[decide_eq_false (show ¬ (d.writes.length:Int)<(d.writes.length:Int) by omega),p_];rfl
 obtain⟨z,hz,hz2⟩:=Option.bind_eq_some_iff.1 run;rw[hz];exact hz2
theorem ya {d:DDisk}(g:GoodD d):kF F d=some (⟨apply d.writes d.pages,[]⟩,0):=by
 unfold kF;obtain⟨c,hc,hg⟩:=yF (F:=F) d;have h0:=hg.2 g;subst h0;have gp:=g.np;have gw:=g.nw;rw[hc,wd,show ((0:Int) !=0)=false by decide,wi,yd (by simp;omega) (by simp;omega),wd,M_];have hl:∀k,(apply (d.writes.take k) d.pages).length=d.pages.length:=λk=>wQ _ _
 have run:(iter (σ:=(List ByteArray)×Int) (ρ:=(List ByteArray)) (λx=>match x with
  |(x1,x2) =>
   bif decide (x2<(d.writes.length:Int)) then
    (idx d.writes x2).bind λe1 =>
    (idx x1 e1.page).bind λe2 =>
    some (.inl ((x1.set e1.page.toNat e1.text),IntKind.i64.wrap (x2+1)))
    else
     some (.inr x1)) F (d.pages,0)).bind (λz2=>some z2)=some (apply d.writes d.pages):=by
  refine vh (λk=>(apply (d.writes.take k) d.pages,(k:Int))) (r:=apply d.writes d.pages) d.writes.length o_ (by simp[apply]) rfl (λk hk=>?_) ?_
  . dsimp only;have hw:=g.writes _ (l_ hk);have e2:d.writes.take (k+1)=d.writes.take k++[d.writes[k]]:=by rw[B_,gge hk];rfl
    have hi:idx (apply (d.writes.take k) d.pages) (d.writes[k]).page=some ((apply (d.writes.take k) d.pages)[(d.writes[k]).page.toNat]'(by rw[hl];have:=hw.1;have:=hw.2.1;omega)):=by have:=hw.1;unfold idx;rw[if_neg o_];exact gge _
    have e3:apply (d.writes.take (k+1)) d.pages=(apply (d.writes.take k) d.pages).set (d.writes[k]).page.toNat (d.writes[k]).text:=(by rw[e2,apply,X_];rfl);rw[decide_eq_true (show (k:Int)<(d.writes.length:Int) by omega),wt,xF,gge hk,wd,hi,wd,wA o_ o_,e3];rfl
  . dsimp only;rw[decide_eq_false (show ¬ (d.writes.length:Int)<(d.writes.length:Int) by omega),p_];rfl
 rw[run,wd]
theorem yQ {d:DDisk}(g:GoodD d):GoodD ⟨apply d.writes d.pages,[]⟩:=by
 refine⟨by rw[wQ];exact g.np,by simp,?_,by simp⟩
 have key:∀(ws:List DWrite) (ps:List ByteArray),(∀w∈ws,w.text.size<=3500)->(∀s∈ps,s.size<=3500)->∀s∈apply ws ps,s.size<=3500:=by
  intro ws
  induction ws with
  |nil=>intro ps _ h;exact h
  |cons w ws ih =>
   intro ps hw h;refine ih (G2 ps w) (λv hv=>hw v (j_ _ hv)) (λs hs=>?_);rcases B2 hs with h1|h1
   . exact h s h1
   . rw[h1];exact hw w (C_)
 exact key _ _ (λw hw=>(g.writes w hw).2.2) g.pages
end
section
def ord (a b:Int):Int:=if a<b then -1 else if b<a then 1 else 0
theorem BP (a b:Int):lU a b=some (ord a b):=by
 unfold lU ord;simp only[R_,decide_eq_true_eq];split
 . rfl
 . split <;> rfl
structure Cmp {α:Type} (f:α->α->Int):Prop where
 one:∀a b,f a b = -1\/f a b=0\/f a b=1
 neg:∀a b,f a b = - f b a
 zero:∀a b,f a b=0↔a=b
 trans:∀a b c,f a b<=0->f b c<=0->f a c<=0
theorem CP:Cmp ord:=by refine⟨λa b=>?_,λa b=>?_,λa b=>?_,λa b c=>?_⟩ <;> unfold ord <;> (repeat' split) <;> omega
def lex {α β γ:Type}(p:γ->α)(q:γ->β)(f:α->α->Int)(g:β->β->Int)(x y:γ):Int:=if f (p x) (p y)≠0 then f (p x) (p y) else g (q x) (q y)
theorem Cmp.lexic {α β γ:Type}{p:γ->α}{q:γ->β}{f:α->α->Int}{g:β->β->Int}(hf:Cmp f)(hg:Cmp g)(hpq:∀x y,p x=p y->q x=q y->x=y):Cmp (lex p q f g):=by
 have le:∀x y,lex p q f g x y<=0↔(f (p x) (p y)<0\/f (p x) (p y)=0/\g (q x) (q y)<=0):=λx y=>by unfold lex;split <;> omega
 refine⟨λa b=>?_,λa b=>?_,λa b=>?_,λa b c h1 h2=>?_⟩
 . unfold lex;split
   . exact hf.one _ _
   . exact hg.one _ _
 . have h1:=hf.neg (p a) (p b);have h2:=hg.neg (q a) (q b);unfold lex;split <;> split <;> omega
 . unfold lex;split
   . rename_i h;refine⟨λh'=>absurd h' h,λh'=>?_⟩;subst h';exact absurd ((hf.zero _ _).2 rfl) h
   . rename_i h;have h0:p a=p b:=(hf.zero _ _).1 o_;rw[hg.zero];exact⟨hpq a b h0,λh'=>by rw[h']⟩
 . rw[le] at h1 h2 ⊢;have ht:=hf.trans (p a) (p b) (p c) o_ o_;rcases K0 ht with h|h
   . exact .inl h
   . right;refine⟨h,?_⟩;have hac:=(hf.zero _ _).1 h;have h3:=hf.neg (p a) (p b);rw[hac] at h1 h3;have h4:f (p c) (p b)=0:=o_;have h5:f (p b) (p c)=0:=o_;exact hg.trans _ (q b) _ o_ o_
def cmpK:DKey->DKey->Int:=lex DKey.pfs (λk=>k) ord (lex DKey.obj DKey.off ord ord)
theorem IU (a b:DKey):cmpK a b=if ord a.pfs b.pfs≠0 then ord a.pfs b.pfs else if ord a.obj b.obj≠0 then ord a.obj b.obj else ord a.off b.off:=rfl
theorem wv:Cmp cmpK:=by
 have h:Cmp (lex Prod.fst Prod.snd ord (lex Prod.fst Prod.snd ord ord):Int×Int×Int->Int×Int×Int->Int) :=
  CP.lexic (CP.lexic CP λx y h1 h2=>Prod.ext h1 h2) λx y h1 h2=>Prod.ext h1 h2
 have e:∀a b:DKey,cmpK a b=lex Prod.fst Prod.snd ord (lex Prod.fst Prod.snd ord ord) (a.pfs,a.obj,a.off) (b.pfs,b.obj,b.off):=λ_ _=>rfl;refine⟨λa b=>?_,λa b=>?_,λa b=>?_,λa b c=>?_⟩
 . rw[e];exact h.one _ _
 . rw[e,e];exact h.neg _ _
 . rw[e,h.zero];obtain⟨a1,a2,a3⟩:=a;obtain⟨b1,b2,b3⟩:=b;simp
 . rw[e,e,e];exact h.trans _ _ _
theorem GE (a b:DKey):qT a b=some (cmpK a b):=by
 unfold qT;rw[IU];simp only[BP,L3,R_,bne_iff_ne,ne_eq];by_cases h1:ord a.pfs b.pfs=0
 . by_cases h2:ord a.obj b.obj=0
   . by_cases h3:ord a.off b.off=0 <;> simp[h1,h2,h3]
   . simp[h1,h2]
 . simp[h1]
def cmpS:DSpot->DSpot->Int:=lex DSpot.key DSpot.made cmpK ord
theorem Fx (a b:DSpot):cmpS a b=if cmpK a.key b.key≠0 then cmpK a.key b.key else ord a.made b.made:=rfl
theorem wq:Cmp cmpS:=wv.lexic CP λx y h1 h2=>by obtain⟨x1,x2⟩:=x;obtain⟨y1,y2⟩:=y;simp_all
theorem wH (a b:DSpot):ji a b=some (cmpS a b):=by unfold ji;rw[Fx];simp only[BP,GE,L3,R_,bne_iff_ne,ne_eq];by_cases h1:cmpK a.key b.key=0 <;> simp[h1]
def Ah (e:DElem)(t:Int):Bool:=decide (e.made<=t)&&(e.gone==0||decide (t<e.gone))
def wT (e:DElem):Int:=if e.made<e.gone then e.gone else e.made
theorem BJ (e:DElem):nJ e=some (wT e):=by unfold nJ wT;simp
def BH (k:DKey):Int:=if k.pfs<0\/15<k.pfs\/k.obj<0\/1048576<k.obj\/k.off<0\/1073741824<k.off then 1 else 0
theorem BO (k:DKey):nM k=some (BH k):=by unfold nM BH;simp only[R_,m0,decide_eq_true_eq];split <;> rfl
def wm (e:DElem):Int:=if BH e.key≠0 then 1 else if e.made<1\/2147483647<e.made\/e.gone≠0/\(e.gone<=e.made\/2147483647<e.gone) then 9 else if 40<e.val.size then 2 else 0
theorem IQ (k:DKey):BH k=0\/BH k=1:=by unfold BH;split <;> simp
theorem wM (e:DElem):ke e=some (wm e):=by
 unfold ke wm;simp only[BO,L3,R_,m0,L4,decide_eq_true_eq,bne_iff_ne,ne_eq];rcases IQ e.key with h|h
 . simp only[h,not_true_eq_false,if_false];by_cases h1:e.made<1\/2147483647<e.made\/¬e.gone=0/\(e.gone<=e.made\/2147483647<e.gone)
   . rw[if_pos h1,if_pos h1]
   . rw[if_neg h1,if_neg h1];by_cases h2:40<e.val.size
     . rw[if_pos h2,if_pos o_]
     . rw[if_neg h2,if_neg o_]
 . simp[h]
theorem xN {e:DElem}(h:wm e=0):BH e.key=0/\1<=e.made/\e.made<=2147483647/\(e.gone=0\/e.made<e.gone/\e.gone<=2147483647)/\e.val.size<=40:=by
 unfold wm at h;split at h
 . cases h
 . split at h
   . cases h
   . split at h
     . cases h
     . rename_i h1 h2 h3;refine⟨by simpa using h1,?_⟩;omega
theorem wrap_i64 {x:Int}(h1:-9223372036854775808<=x)(h2:x<9223372036854775808):IntKind.i64.wrap x=x:=by rw[IntKind.wrap_i64];omega
end
section
theorem KP {a b:Int}:ord a b<0↔a<b:=by unfold ord;(repeat' split) <;> omega
theorem Cmp.refl {α:Type}{f:α->α->Int}(h:Cmp f)(a:α):f a a=0:=(h.zero a a).2 rfl
theorem Cmp.lt_trans {α:Type}{f:α->α->Int}(h:Cmp f){a b c:α}(h1:f a b<0)(h2:f b c<0):f a c<0:=by
 have h3:=h.trans a b c o_ o_;rcases K0 h3 with h4|h4
 . exact h4
 . have:=(h.zero _ _).1 h4;subst this;have:=h.neg a b;omega
theorem Cmp.lt_le {α:Type}{f:α->α->Int}(h:Cmp f){a b c:α}(h1:f a b<0)(h2:f b c<=0):f a c<0:=by
 rcases K0 h2 with h3|h3
 . exact h.lt_trans h1 h3
 . have:=(h.zero _ _).1 h3;subst this;exact h1
theorem Cmp.pos {α:Type}{f:α->α->Int}(h:Cmp f){a b:α}:0<f a b↔f b a<0:=by have:=h.neg a b;omega
theorem Cmp.tri {α:Type}{f:α->α->Int}(h:Cmp f)(a b:α):f a b<0\/a=b\/f b a<0:=by
 have h1:=h.neg a b;rcases h.one a b with h2|h2|h2
 . left;omega
 . right;left;exact(h.zero _ _).1 h2
 . right;right;omega
def wg (e:DElem):DSpot:=⟨e.key,e.made⟩
theorem BI {a b:DSpot}:cmpS a b<0↔cmpK a.key b.key<0\/(a.key=b.key/\a.made<b.made):=by
 rw[Fx];by_cases h:cmpK a.key b.key=0
 . rw[if_neg (by simpa using h),KP];have:=(wv.zero _ _).1 h;simp[this,wv.refl]
 . rw[if_pos h];have:a.key≠b.key:=λe=>h ((wv.zero _ _).2 e);simp[this]
def Bef (p e:DElem):Prop:=cmpS (wg p) (wg e)<0/\(p.key=e.key->p.gone≠0/\p.gone<=e.made)
theorem Bef.key {p e:DElem}(h:Bef p e):cmpK p.key e.key<0\/p.key=e.key/\p.made<e.made/\p.gone≠0/\p.gone<=e.made:=by
 rcases BI.1 h.1 with h1|h1
 . exact .inl h1
 . exact .inr ⟨h1.1,h1.2,h.2 h1.1⟩
theorem yL {p e:DElem}:Bef p e↔cmpK p.key e.key<0\/p.key=e.key/\p.made<e.made/\p.gone≠0/\p.gone<=e.made:=by
 refine⟨Bef.key,λh=>⟨?_,?_⟩⟩
 . rw[BI];rcases h with h|h
   . exact .inl h
   . exact .inr ⟨h.1,h.2.1⟩
 . intro hk;rcases h with h|h
   . rw[hk,wv.refl] at h;omega
   . exact h.2.2
theorem Bef.trans {p q e:DElem}(hq:wm q=0)(h1:Bef p q)(h2:Bef q e):Bef p e:=by
 obtain⟨_,_,_,h3,_⟩:=xN hq
 rw[yL] at *
 rcases h1 with h1|⟨k1,h1⟩ <;> rcases h2 with h2|⟨k2,h2⟩
 . exact .inl (wv.lt_trans h1 h2)
 . rw[<-k2];exact .inl h1
 . rw[k1];exact .inl h2
 . refine .inr ⟨k1.trans k2,?_⟩;omega
structure Run (l:List DElem):Prop where
 len:l.length<=400
 ok:∀e∈l,wm e=0
 ord:l.Pairwise Bef
theorem Run.nil:Run []:=⟨by simp,by simp,List.Pairwise.nil⟩
theorem Run.sub {l m:List DElem}(h:Run l)(hs:m.Sublist l):Run m :=
 ⟨p7 hs.length_le h.len,λe he=>h.ok e (hs.subset he),h.ord.sublist hs⟩
theorem Bef.irrefl {e:DElem}(h:Bef e e):False:=by have:=h.1;rw[wq.refl] at this;omega
theorem Bef.asymm {a b:DElem}(h:Bef a b)(k:Bef b a):False:=by have h1:=h.1;have h2:=k.1;have:=wq.neg (wg a) (wg b);omega
theorem Ev:∀ {l m:List DElem},l.Pairwise Bef->m.Pairwise Bef->(∀e,e∈l↔e∈m)->l=m
 |[],[],_,_,_=>rfl
 |[],b::m,_,_,h=>by have:=(h b).2 s_;simp at this
 |a::l,[],_,_,h=>by have:=(h a).1 s_;simp at this
 |a::l,b::m,hl,hm,h=>by
  rw[N_] at hl hm
  have hab:a=b:=by
   have h1:=(h a).1 s_;have h2:=(h b).2 s_;rcases g_.1 h1 with h1|h1
   . exact h1
   . rcases g_.1 h2 with h2|h2
     . exact h2.symm
     . exact(Bef.asymm (hm.1 a h1) (hl.1 b h2)).elim
  subst hab;congr 1;refine Ev hl.2 hm.2 λe=>?_;constructor
  . intro he;rcases g_.1 ((h e).1 (j_ _ he)) with h1|h1
    . subst h1;exact(Bef.irrefl (hl.1 _ he)).elim
    . exact h1
  . intro he;rcases g_.1 ((h e).2 (j_ _ he)) with h1|h1
    . subst h1;exact(Bef.irrefl (hm.1 _ he)).elim
    . exact h1
def hist (l:List DElem)(k:DKey):List DElem:=l.filter λe=>e.key==k
theorem wJ {l:List DElem}{k:DKey}{e:DElem}:e∈hist l k↔e∈l/\e.key=k:=by simp[hist]
theorem Run.hist {l:List DElem}(hl:Run l)(k:DKey):Run (hist l k):=hl.sub S_
def lo (l:List DElem)(k:DKey):List DElem:=l.filter λe=>decide (cmpK e.key k<0)
def hi (l:List DElem)(k:DKey):List DElem:=l.filter λe=>decide (0<cmpK e.key k)
theorem Jh {l:List DElem}{k:DKey}{e:DElem}:e∈lo l k↔e∈l/\cmpK e.key k<0:=by simp[lo]
theorem GM {l:List DElem}{k:DKey}{e:DElem}:e∈hi l k↔e∈l/\0<cmpK e.key k:=by simp[hi]
theorem Bef.le {a b:DElem}(h:Bef a b):cmpK a.key b.key<=0:=by
 rcases h.key with h|h
 . omega
 . rw[h.1,wv.refl];omega
theorem EV:∀ {l:List DElem} (k:DKey),l.Pairwise Bef->l=lo l k++(hist l k++hi l k)
 |[],k,_=>rfl
 |a::l,k,h=>by
  rw[N_] at h;have ih:=EV k h.2;have low:0<=cmpK a.key k->lo l k=[]:=λh0=>by unfold lo;rw[N5];intro e he;have h1:=(h.1 e he).le;have h2:=wv.trans k a.key e.key (by have:=wv.neg k a.key;omega) h1;have:=wv.neg k e.key;simp;omega
  have mid:0<cmpK a.key k->hist l k=[]:=λh0=>by unfold hist;rw[N5];intro e he;have h1:=(h.1 e he).le;have h2:=wv.lt_le (a:=k) (b:=a.key) (c:=e.key) (by have:=wv.neg k a.key;omega) h1;simp;intro e';rw[e',wv.refl] at h2;omega
  rcases wv.tri a.key k with h1|h1|h1
  . have e1:lo (a::l) k=a::lo l k:=by unfold lo;rw[L5 (by simpa using h1)]
    have e2:hist (a::l) k=hist l k:=(by unfold hist;rw[m4];simp;intro e;rw[e,wv.refl] at h1;omega);have e3:hi (a::l) k=hi l k:=(by unfold hi;rw[m4];simp;omega);rw[e1,e2,e3,l7,<-ih]
  . have e0:cmpK a.key k=0:=by rw[h1,wv.refl]
    have e1:lo (a::l) k=[]:=(by have:=low o_;unfold lo at *;rw[m4 (by simp;omega)];exact this);have e2:hist (a::l) k=a::hist l k:=(by unfold hist;rw[L5 (by simpa using h1)]);have e3:hi (a::l) k=hi l k:=(by unfold hi;rw[m4];simp;omega);rw[e1,e2,e3];rw[low o_,M_] at ih;rw[M_,l7,<-ih]
  . have e0:0<cmpK a.key k:=wv.pos.2 h1;have e1:lo (a::l) k=[]:=by have:=low o_;unfold lo at *;rw[m4 (by simp;omega)];exact this
    have e2:hist (a::l) k=[]:=(by have:=mid e0;unfold hist at *;rw[m4];exact this;simp;intro e;rw[e,wv.refl] at h1;omega);have e3:hi (a::l) k=a::hi l k:=(by unfold hi;rw[L5 (by simpa using e0)]);rw[e1,e2,e3];rw[low o_,mid e0,M_,M_] at ih;rw[M_,M_,<-ih]
def upd (l:List DElem)(k:DKey)(h:List DElem):List DElem:=lo l k++(h++hi l k)
theorem BB {l:List DElem}{k:DKey}{h:List DElem}(hl:l.Pairwise Bef):(upd l k h).length+(hist l k).length=l.length+h.length:=by
 have:=congrArg List.length (EV k hl);unfold upd
 simp only[a_] at *
 omega
theorem JK {l:List DElem}(k:DKey)(hl:l.Pairwise Bef):upd l k (hist l k)=l:=(EV k hl).symm
theorem zj {l:List DElem}{k:DKey}{h:List DElem}{e:DElem}(hl:l.Pairwise Bef):e∈upd l k h↔e∈h\/e∈l/\e.key≠k:=by
 unfold upd;rw[J_,J_,Jh,GM];constructor
 . rintro(⟨h1,h2⟩|h1|⟨h1,h2⟩)
   . exact .inr ⟨h1,λe=>by rw[e,wv.refl] at h2;omega⟩
   . exact .inl h1
   . exact .inr ⟨h1,λe=>by rw[e,wv.refl] at h2;omega⟩
 . rintro(h1|⟨h1,h2⟩)
   . exact .inr (.inl h1)
   . rcases wv.tri e.key k with h3|h3|h3
     . exact .inl ⟨h1,h3⟩
     . exact absurd h3 h2
     . exact .inr (.inr ⟨h1,wv.pos.2 h3⟩)
theorem Run.upd {l:List DElem}{k:DKey}{h:List DElem}(hl:Run l)(hk:∀e∈h,e.key=k)(ho:∀e∈h,wm e=0)(hp:h.Pairwise Bef)(hn:(upd l k h).length<=400):Run (upd l k h):=by
 refine⟨hn,λe he=>?_,?_⟩
 . rcases(zj hl.ord).1 he with h1|h1
   . exact ho e h1
   . exact hl.ok e h1.1
 . unfold Go.Proofs.YtnofgfobljadbaaGreat.upd;rw[m9,m9];refine⟨hl.ord.sublist S_,⟨hp,hl.ord.sublist S_,λa ha b hb=>?_⟩,λa ha b hb=>?_⟩
   . rw[yL];left;have:=(GM.1 hb).2;rw[hk a ha];exact wv.pos.1 this
   . rw[yL];left;have h1:=(Jh.1 ha).2;rcases J_.1 hb with hb|hb
     . rw[hk b hb];exact h1
     . exact wv.lt_trans h1 (wv.pos.1 (GM.1 hb).2)
def xn (l:List DElem):Int:=l.foldl (λt e=>if t<wT e then wT e else t) 0
theorem GG (l:List DElem):∀t0 t:Int,l.foldl (λt e=>if t<wT e then wT e else t) t0<=t↔t0<=t/\∀e∈l,wT e<=t:=by
 induction l with
 |nil=>intro t0 t;simp
 |cons a l ih =>
  intro t0 t;rw[x_,ih,List.forall_mem_cons];split <;> constructor <;> rintro⟨h1,h2⟩
  . exact⟨by omega,by omega,h2⟩
  . exact⟨h2.1,h2.2⟩
  . exact⟨by omega,by omega,h2⟩
  . exact⟨h1,h2.2⟩
theorem yZ {l:List DElem}{t:Int}:xn l<=t↔0<=t/\∀e∈l,wT e<=t:=GG l 0 t
theorem BQ (l:List DElem):0<=xn l:=((yZ (l:=l) (t:=xn l)).1 (g6 _)).1
theorem zH {l:List DElem}{e:DElem}(h:e∈l):wT e<=xn l:=((yZ (l:=l) (t:=xn l)).1 (g6 _)).2 e h
theorem zF {e:DElem}{t:Int}:wT e<=t↔e.made<=t/\e.gone<=t:=by unfold wT;split <;> omega
theorem Run.last_le {l:List DElem}(h:Run l):xn l<=2147483647:=by rw[yZ];refine⟨by omega,λe he=>?_⟩;obtain⟨_,_,_,_,_⟩:=xN (h.ok e he);rw[zF];omega
theorem zW {α:Type}{R:α->α->Prop}:∀ {l:List α},l.Pairwise R->∀ {a b:α},a∈l->b∈l->a=b\/R a b\/R b a
 |[],_,_,_,h,_=>by simp at h
 |c::l,h,a,b,ha,hb=>by
  rw[N_] at h;rcases g_.1 ha with ha|ha <;> rcases g_.1 hb with hb|hb
  . left;rw[ha,hb]
  . right;left;rw[ha];exact h.1 b hb
  . right;right;rw[hb];exact h.1 a ha
  . exact zW h.2 ha hb
theorem BS {e:DElem}{t:Int}:Ah e t=true↔e.made<=t/\(e.gone=0\/t<e.gone):=by unfold Ah;simp
theorem Run.live_one {l:List DElem}(h:l.Pairwise Bef){a b:DElem}(ha:a∈l)(hb:b∈l)(hk:a.key=b.key){t:Int}(la:Ah a t=true)(lb:Ah b t=true):a=b:=by
 rw[BS] at la lb;have bad:∀ {x y:DElem},Bef x y->x.key=y.key->(x.made<=t/\(x.gone=0\/t<x.gone))->(y.made<=t/\(y.gone=0\/t<y.gone))->False:=λhb hk h1 h2=>by have:=hb.2 hk;omega
 rcases zW h ha hb with h1|h1|h1
 . exact h1
 . exact(bad h1 hk la lb).elim
 . exact(bad h1 hk.symm lb la).elim
def atR (l:List DElem)(k:DKey)(t:Int):Option DElem:=l.find? λe=>e.key==k&&Ah e t
theorem IG (l:List DElem)(k:DKey)(t:Int):atR l k t=(hist l k).find? λe=>Ah e t:=by unfold atR hist;rw[List.find?_filter];congr 1;funext e;cases e.key==k <;> simp
theorem Eg {e:DElem}{t:Int}(h:wT e<=t):Ah e t=(e.gone==0):=by rw[zF] at h;rw[w6,BS];simp;omega
def cl (t:Int)(e:DElem):Option DElem:=if e.gone=0 then if e.made=t then none else some { e with gone:=t } else some e
def clo (h:List DElem)(t:Int):List DElem:=h.filterMap (cl t)
def yg (k:DKey)(v:ByteArray)(t:Int):DElem:=⟨k,t,0,v⟩
def cutR (l:List DElem)(k:DKey)(t:Int):List DElem:=upd l k (clo (hist l k) t)
def putR (l:List DElem)(k:DKey)(v:ByteArray)(t:Int):List DElem:=upd l k (clo (hist l k) t++[yg k v t])
theorem AL {t:Int}{e x:DElem}:cl t e=some x↔(e.gone≠0/\x=e)\/(e.gone=0/\e.made≠t/\x = { e with gone:=t }):=by
 unfold cl;split
 . split
   . simp_all
   . rename_i h1 h2;simp only[i_.injEq];constructor
     . rintro rfl;exact .inr ⟨h1,h2,rfl⟩
     . rintro(h|h)
       . exact absurd h1 h.1
       . exact h.2.2.symm
 . rename_i h1;simp only[i_.injEq];constructor
   . rintro rfl;exact .inl ⟨h1,rfl⟩
   . rintro(h|h)
     . exact h.2.symm
     . exact absurd h.1 h1
theorem BW {h:List DElem}{t:Int}{x:DElem}:x∈clo h t↔(x∈h/\x.gone≠0)\/∃e∈h,e.gone=0/\e.made≠t/\x = { e with gone:=t }:=by
 unfold clo;rw[List.mem_filterMap];constructor
 . rintro⟨e,he,h1⟩;rcases AL.1 h1 with ⟨h2,rfl⟩|h2
   . exact .inl ⟨he,h2⟩
   . exact .inr ⟨e,he,h2⟩
 . rintro(⟨h1,h2⟩|⟨e,he,h2⟩)
   . exact⟨x,h1,AL.2 (.inl ⟨h2,rfl⟩)⟩
   . exact⟨e,he,AL.2 (.inr h2)⟩
theorem Gq (a b:List DElem)(t:Int):clo (a++b) t=clo a t++clo b t:=List.filterMap_append ..
theorem Db {h:List DElem}{t:Int}(hg:∀e∈h,e.gone≠0):clo h t=h:=by
 unfold clo
 induction h with
 |nil=>rfl
 |cons a h ih=>rw[N6 (b:=a) (AL.2 (.inl ⟨hg a s_,rfl⟩)),ih λe he=>hg e (by simp[he])]
theorem I8 {h:List DElem}{t:Int}(ht:t≠0):∀e∈clo h t,e.gone≠0:=λe he=>by
 rcases BW.1 he with h1|⟨e',_,_,_,rfl⟩
 . exact h1.2
 . exact ht
theorem Gr (h:List DElem)(t:Int):(clo h t).length<=h.length:=List.length_filterMap_le ..
theorem Dn {h:List DElem}{k:DKey}{t:Int}(hk:∀e∈h,e.key=k):∀e∈clo h t,e.key=k:=λe he=>by
 rcases BW.1 he with h1|⟨e',he',_,_,rfl⟩
 . exact hk e h1.1
 . exact hk e' he'
theorem D8 {h:List DElem}{k:DKey}(hp:h.Pairwise Bef)(hk:∀e∈h,e.key=k){a b:List DElem}{e:DElem}(he:h=a++e::b)(hg:e.gone=0):b=[]:=by
 subst he
 cases b with
 |nil=>rfl
 |cons x b=>rw[m9,N_] at hp;have:=(hp.2.1.1 x s_).2 (by rw[hk e s_,hk x s_]);exact absurd hg this.1
theorem Kz {h:List DElem}{k:DKey}{t:Int}(hk:∀e∈h,e.key=k)(ho:∀e∈h,wm e=0)(hp:h.Pairwise Bef)(ht:∀e∈h,wT e<=t)(h0:1<=t)(h1:t<=2147483647) :
 (∀e∈clo h t,wm e=0)/\(clo h t).Pairwise Bef/\(∀e∈clo h t,e.gone<=t/\e.made<t):=by
 refine⟨λe he=>?_,?_,λe he=>?_⟩
 . rcases BW.1 he with h2|⟨e',he',hg,hm,rfl⟩
   . exact ho e h2.1
   . have h3:=ho e' he';have h4:=zF.1 (ht e' he');obtain⟨c1,c2,c3,c4,c5⟩:=xN h3;unfold wm;dsimp only;rw[if_neg (by simpa using c1),if_neg o_,if_neg o_]
 . unfold clo;rw[List.pairwise_filterMap];refine hp.imp_of_mem ?_;intro a b ha hb hab x hx y hy;have g:=hab.2 (by rw[hk a ha,hk b hb]);rcases AL.1 (show cl t a=some x from hx) with ⟨_,rfl⟩|⟨h2,_⟩
   . rcases AL.1 (show cl t b=some y from hy) with ⟨_,rfl⟩|⟨_,_,rfl⟩
     . exact hab
     . exact hab
   . exact absurd h2 g.1
 . rcases BW.1 he with ⟨h2,h3⟩|⟨e',he',hg,hm,rfl⟩
   . have h4:=zF.1 (ht e h2);obtain⟨_,c2,c3,c4,_⟩:=xN (ho e h2);omega
   . have h4:=zF.1 (ht e' he');dsimp only;omega
theorem zk {k:DKey}{v:ByteArray}{t:Int}(hc:wm (yg k v t)=0):BH k=0/\1<=t/\t<=2147483647/\v.size<=40:=by obtain⟨h1,h2,h3,h4,h5⟩:=xN hc;exact⟨h1,h2,h3,h5⟩
section
variable {l:List DElem} {k:DKey} {t:Int} {v:ByteArray}
theorem yR (l:List DElem)(k:DKey):∀e∈hist l k,e.key=k:=λe he=>(wJ.1 he).2
theorem Run.clo (h:Run l)(ht:xn l<=t)(h0:1<=t)(h1:t<=2147483647)(k:DKey) :
 (∀e∈clo (Go.Proofs.YtnofgfobljadbaaGreat.hist l k) t,wm e=0)/\(Go.Proofs.YtnofgfobljadbaaGreat.clo (Go.Proofs.YtnofgfobljadbaaGreat.hist l k) t).Pairwise Bef/\(∀e∈Go.Proofs.YtnofgfobljadbaaGreat.clo (Go.Proofs.YtnofgfobljadbaaGreat.hist l k) t,e.gone<=t/\e.made<t) :=
 Kz (yR l k) (h.hist k).ok (h.hist k).ord (λe he=>by have:=zH (wJ.1 he).1;omega) h0 h1
theorem Run.cutR (h:Run l)(ht:xn l<=t)(h0:1<=t)(h1:t<=2147483647)(k:DKey):Run (cutR l k t):=by obtain⟨c1,c2,c3⟩:=h.clo ht h0 h1 k;refine h.upd (Dn (yR l k)) c1 c2 ?_;have h2:=BB (k:=k) (h:=Go.Proofs.YtnofgfobljadbaaGreat.clo (Go.Proofs.YtnofgfobljadbaaGreat.hist l k) t) h.ord;have h3:=Gr (Go.Proofs.YtnofgfobljadbaaGreat.hist l k) t;have:=h.len;omega
theorem Ju (h:Run l)(ht:xn l<=t)(hc:wm (yg k v t)=0) :
 (∀e∈clo (hist l k) t++[yg k v t],e.key=k)/\(∀e∈clo (hist l k) t++[yg k v t],wm e=0)/\(clo (hist l k) t++[yg k v t]).Pairwise Bef:=by
 obtain⟨_,h0,h1,_⟩:=zk hc;obtain⟨c1,c2,c3⟩:=h.clo ht h0 h1 k;refine⟨λe he=>?_,λe he=>?_,?_⟩
 . rcases J_.1 he with he|he
   . exact Dn (yR l k) e he
   . simp at he;subst he;rfl
 . rcases J_.1 he with he|he
   . exact c1 e he
   . simp at he;subst he;exact hc
 . rw[m9];refine⟨c2,by simp,λa ha b hb=>?_⟩;simp at hb;subst hb;have h2:=c3 a ha;rw[yL];right;refine⟨Dn (yR l k) a ha,h2.2,I8 o_ a ha,h2.1⟩
theorem Run.putR (h:Run l)(ht:xn l<=t)(hc:wm (yg k v t)=0)(hn:(putR l k v t).length<=400):Run (putR l k v t):=by obtain⟨h1,h2,h3⟩:=Ju h ht hc;exact h.upd h1 h2 h3 hn
def xy (l:List DElem)(k:DKey):Option DElem:=(hist l k).find? λe=>e.gone==0
theorem J7 (h:Run l){u:Int}(hu:xn l<=u)(k:DKey):atR l k u=xy l k:=by
 rw[IG];unfold xy
 have key:∀h:List DElem,(∀e∈h,wT e<=u)->h.find? (λe=>Ah e u)=h.find? λe=>e.gone==0:=by
  intro h
  induction h with
  |nil=>intro _;rfl
  |cons a h ih=>intro hh;rw[List.find?_cons,List.find?_cons,Eg (hh a s_),ih λe he=>hh e (by simp[he])]
 exact key _ λe he=>by have:=zH (wJ.1 he).1;omega
theorem yS (h:l.Pairwise Bef){e:DElem}:xy l k=some e↔e∈l/\e.key=k/\e.gone=0:=by
 unfold xy;constructor
 . intro hf;have h1:=N7 hf;have h2:=List.find?_some hf;rw[wJ] at h1;exact⟨h1.1,h1.2,by simpa using h2⟩
 . rintro⟨h1,h2,h3⟩
   cases hf:(hist l k).find? (λe=>e.gone==0) with
   |none=>rw[List.find?_eq_none] at hf;have:=hf e (wJ.2 ⟨h1,h2⟩);simp[h3] at this
   |some a=>have g1:=wJ.1 (N7 hf);have g2:=List.find?_some hf;simp only[beq_iff_eq] at g2;have la:Ah a (max a.made e.made)=true:=(by rw[BS];omega);have le:Ah e (max a.made e.made)=true:=(by rw[BS];omega);rw[Run.live_one h g1.1 h1 (g1.2.trans h2.symm) la le]
theorem H8:xy l k=none↔∀e∈l,e.key=k->e.gone≠0:=by
 unfold xy;rw[List.find?_eq_none];constructor
 . intro h e he hk;have:=h e (wJ.2 ⟨he,hk⟩);simpa using this
 . intro h e he;have:=h e (wJ.1 he).1 (wJ.1 he).2;simpa using this
theorem AY (h:xy l k=none):clo (hist l k) t=hist l k:=Db λe he=>H8.1 h e (wJ.1 he).1 (wJ.1 he).2
theorem DM (h:l.Pairwise Bef){e:DElem}(hn:xy l k=some e):∃a,hist l k=a++[e]/\∀x∈a,x.gone≠0:=by
 obtain⟨h1,h2,h3⟩:=(yS h).1 hn;obtain⟨a,b,hab⟩:=List.append_of_mem (wJ.2 ⟨h1,h2⟩);have hp:=h.sublist (S_ (p:=λe=>e.key==k));have hb:=D8 (show (hist l k).Pairwise Bef from hp) (yR l k) hab h3;subst hb;refine⟨a,hab,λx hx hg=>?_⟩;obtain⟨c,d,rfl⟩:=List.append_of_mem hx;have hab':hist l k=c++x::(d++[e]):=by rw[hab];simp
 have:=D8 (show (hist l k).Pairwise Bef from hp) (yR l k) hab' hg;simp at this
theorem Hf (h:l.Pairwise Bef){e:DElem}(hn:xy l k=some e):∃a,hist l k=a++[e]/\clo (hist l k) t=a++(if e.made=t then [] else [{ e with gone:=t }]):=by
 obtain⟨a,ha,hg⟩:=DM h hn;refine⟨a,ha,?_⟩;have h3:=((yS h).1 hn).2.2;rw[ha,Gq,Db hg];congr 1;unfold clo;by_cases hm:e.made=t
 . rw[if_pos hm,List.filterMap_cons_none (by unfold cl;rw[if_pos h3,if_pos hm])];rfl
 . rw[if_neg hm,N6 (b:={ e with gone:=t }) (by unfold cl;rw[if_pos h3,if_neg hm])];rfl
theorem Bt (h:Run l):(putR l k v t).length=match xy l k with
 |some e=>if e.made=t then l.length else l.length+1
 |none=>l.length+1:=by
 have h1:=BB (k:=k) (h:=clo (hist l k) t++[yg k v t]) h.ord;unfold putR;rw[a_,T_] at h1;generalize (upd l k (clo (hist l k) t++[yg k v t])).length=n at h1 ⊢
 cases hn:xy l k with
 |none=>rw[AY hn] at h1;show n=l.length+1;omega
 |some e =>
  obtain⟨a,ha,hc⟩:=Hf (t:=t) h.ord hn;rw[hc,ha] at h1;dsimp only;by_cases hm:e.made=t
  . rw[if_pos hm] at *;simp at h1 ⊢;omega
  . rw[if_neg hm] at *;simp at h1 ⊢;omega
theorem IW (h:Run l)(hn:xy l k=none):cutR l k t=l:=by unfold cutR;rw[AY hn,JK k h.ord]
end
end
section
variable {F:Nat} [Big F]
theorem wr (e:DElem):i8 e=some (wg e):=rfl
def IJ (p e:DElem):Bool:=decide (cmpS (wg p) (wg e)<0)&&(p.key !=e.key||(p.gone !=0&&decide (p.gone<=e.made)))
theorem Fo {p e:DElem}:IJ p e=true↔Bef p e:=by
 unfold IJ Bef;simp only[L4,m0,decide_eq_true_eq,bne_iff_ne,ne_eq];constructor
 . rintro⟨h1,h2⟩;exact⟨h1,λhk=>h2.resolve_left λh=>h hk⟩
 . rintro⟨h1,h2⟩;exact⟨h1,(Decidable.em (p.key=e.key)).elim (λh=>.inr (h2 h)) .inl⟩
def Ak (l:List DElem)(k:Nat)(e:DElem):Option Int:=if wm e≠0 then some (wm e) else if k=0 then none else match l[k-1]? with
  |some p=>if IJ p e then none else some 3
  |none=>none
theorem C0 {l:List DElem}{e:DElem}(h:wm e=0):Ak l 0 e=none:=by unfold Ak;rw[if_neg (by simpa using h),if_pos rfl]
theorem Bc {l:List DElem}{j:Nat}{p e:DElem}(h:wm e=0)(hj:l[j]? = some p):Ak l (j+1) e=if IJ p e then none else some 3:=by unfold Ak;rw[if_neg (by simpa using h),if_neg o_,Nat.add_sub_cancel,hj]
theorem DW {l:List DElem}{k:Nat}{e:DElem}(h:wm e≠0):Ak l k e=some (wm e):=by unfold Ak;rw[if_pos h]
def AV (l:List DElem):Int:=if 400<l.length then 2 else ((l.zipIdx).findSome? λp=>Ak l p.2 p.1).getD 0
theorem xE {α β γ:Type}(g:β->γ)(w:α->Option β):∀l:List α,(l.findSome? λa=>(w a).map g)=(l.findSome? w).map g
 |[]=>rfl
 |a::l=>by
  rw[E1,E1]
  cases w a with
  |some b=>rfl
  |none=>exact xE g w l
theorem zY (l:List DElem):mG F l=some (AV l):=by
 unfold mG AV;by_cases hl:400<l.length
 . rw[if_pos hl,decide_eq_true o_,cond_true]
 . rw[if_neg hl,decide_eq_false o_,cond_false];rw[tD l (λk e=>(Ak l k e).map v8) (Sum.inl ()) o_ rfl (λk e hk hb=>?_) s_]
   . rw[xE];cases l.zipIdx.findSome? λp=>Ak l p.2 p.1 <;> rfl
   . have hkl:=(ggs.1 hk).1;rw[decide_eq_true o_,cond_true,vD,hk,obs,wM,obs];by_cases hc:wm e=0
     . rw[vd hc,cond_false]
       cases k with
       |zero=>rw[C0 hc];simp[w64]
       |succ j =>
        obtain⟨p,hj⟩:∃p,l[j]? = some p:=⟨_,gge (show j<l.length by omega)⟩;rw[Bc hc hj,show (((j+1:Nat):Int)==0)=false by rw[beq_eq_false_iff_ne];omega,cond_false,w64 o_ o_,show (((j+1:Nat):Int)-1)=(j:Int) by omega,vD,hj,w64 o_ o_];simp only[obs,wr,wH];unfold IJ;by_cases h1:cmpS (wg p) (wg e)<0
        . rw[decide_eq_false o_,cond_false,decide_eq_true h1,Bool.true_and];by_cases h2:p.key=e.key
          . rw[show (p.key==e.key)=true by simpa using h2,cond_true,show (p.key !=e.key)=false by simpa using h2,Bool.false_or];by_cases h3:p.gone=0
            . rw[show (p.gone==0)=true by simpa using h3,cond_true,show (p.gone !=0)=false by simpa using h3];rfl
            . rw[show (p.gone==0)=false by simpa using h3,cond_false,show (p.gone !=0)=true by simpa using h3,Bool.true_and];by_cases h4:p.gone<=e.made
              . rw[decide_eq_false o_,decide_eq_true h4];rfl
              . rw[decide_eq_true o_,decide_eq_false h4];rfl
          . rw[show (p.key==e.key)=false by simpa using h2,cond_false,show (p.key !=e.key)=true by simpa using h2];rfl
        . rw[decide_eq_true o_,cond_true,decide_eq_false h1];rfl
     . rw[vn hc,cond_true,DW hc];rfl
theorem xB {l:List DElem}:AV l=0↔Run l:=by
 unfold AV;by_cases hl:400<l.length
 . rw[if_pos hl];constructor
   . intro h;cases h
   . intro h;have:=h.len;omega
 . rw[if_neg hl]
   cases hf:l.zipIdx.findSome? λp=>Ak l p.2 p.1 with
   |some c =>
    obtain⟨k,e,hk,hb⟩:=vp hf;rw[B3];constructor
    . intro hc;subst hc;unfold Ak at hb;split at hb
      . rename_i h;exact absurd (i_.inj hb) h
      . split at hb
        . cases hb
        . split at hb
          . split at hb
            . cases hb
            . cases hb
          . cases hb
    . intro h;have he:=h.ok e (F_ hk)
      cases k with
      |zero=>rw[C0 he] at hb;cases hb
      |succ j=>have hkl:=(ggs.1 hk).1;have hj:l[j]? = some l[j]:=gge o_;have hp:=n9.1 h.ord j (j+1) o_ hkl o_;rw[(ggs.1 hk).2] at hp;rw[Bc he hj,if_pos (Fo.2 hp)] at hb;cases hb
   |none =>
    rw[vo] at hf;refine⟨λ_=>?_,λ_=>rfl⟩
    have hok:∀e∈l,wm e=0:=λe he=>by
     obtain⟨k,hk,rfl⟩:=l9 he;have h1:=hf k _ (gge hk);by_cases hc:wm l[k]=0
     . exact hc
     . rw[DW hc] at h1;cases h1
    refine⟨by omega,hok,?_⟩;rw[n9]
    have step:∀j (hj:j+1<l.length),Bef l[j] l[j+1]:=λj hj=>by
     have h1:=hf (j+1) _ (gge hj);rw[Bc (hok _ (l_ hj)) (gge (show j<l.length by omega))] at h1;split at h1
     . rename_i h;exact Fo.1 h
     . cases h1
    have far:∀d i (hd:i+d+1<l.length),Bef (l[i]'o_) l[i+d+1]:=by
     intro d
     induction d with
     |zero=>intro i hd;exact step i hd
     |succ d ih=>intro i hd;have h1:=ih i o_;have h2:=step (i+d+1) o_;exact h1.trans (hok _ (l_ _)) h2
    intro i j hi hj hij;have:=far (j-i-1) i o_;have e:i+(j-i-1)+1=j:=o_;simp only[e] at this;exact this
theorem F6 (l:List DElem)(hl:l.length<=9223372036854775807):qu F l=some (xn l):=by unfold qu xn;rw[vq l (λt e=>if t<wT e then wT e else t) 0 (r:=l.foldl (λt e=>if t<wT e then wT e else t) 0) hl rfl (λk e hk=>?_) s_,obs];have hkl:=(ggs.1 hk).1;dsimp only;rw[decide_eq_true o_,cond_true,vD,hk,obs,BJ,obs,w64 o_ o_]
theorem F5 (l:List DElem):qt F l=some (if AV l=0 then xn l else 0,AV l):=by
 unfold qt;rw[zY,obs];by_cases h:AV l=0
 . have:=(xB.1 h).len;rw[vd h,cond_false,F6 l o_,h];rfl
 . rw[vn h,cond_true,if_neg h]
def K7:DElem:=⟨⟨0,0,0⟩,0,0,G_ #[]⟩
section
variable {α:Type} {l a b:List α} {x:α}
end
theorem Run.made {l:List DElem}(h:Run l){e:DElem}(he:e∈l):1<=e.made/\e.made<=2147483647:=by obtain⟨_,h1,h2,_⟩:=xN (h.ok e he);exact⟨h1,h2⟩
def DO (l:List DElem)(k:DKey)(v:ByteArray)(t:Int):Int:=if AV l≠0 then AV l else if wm (yg k v t)≠0 then wm (yg k v t) else if t<xn l then 9 else if 400<(putR l k v t).length then 8 else 0
theorem AR {l:List DElem}{k:DKey}{v:ByteArray}{t:Int}:DO l k v t=0↔Run l/\wm (yg k v t)=0/\xn l<=t/\(putR l k v t).length<=400:=by
 unfold DO;rw[<-xB];split
 . simp_all
 . split
   . simp_all
   . split
     . constructor
       . intro h;cases h
       . omega
     . split
       . constructor
         . intro h;cases h
         . omega
       . simp_all
def IV (l:List DElem)(k:DKey)(t:Int):Int:=if AV l≠0 then AV l else if BH k≠0 then BH k else if t<1\/2147483647<t\/t<xn l then 9 else if (xy l k).isNone then 4 else 0
theorem Cd {l:List DElem}{k:DKey}{t:Int}:IV l k t=0↔Run l/\BH k=0/\1<=t/\t<=2147483647/\xn l<=t/\(xy l k).isSome=true:=by
 unfold IV;rw[<-xB];split
 . simp_all
 . split
   . simp_all
   . split
     . constructor
       . intro h;cases h
       . omega
     . cases xy l k
       . simp
       . simp_all
end
section
variable {F:Nat} [Big F]
theorem Kx (n:Int)(v:ByteArray):mw n v=some ⟨⟨0,0,n⟩,1,0,v⟩:=rfl
theorem Cz (p:List DElem)(hp:p.length<=9223372036854775807):kw F p p=some true:=by rw[KA p p hp,decide_eq_true rfl]
end
section
variable {F:Nat} [Big F]
def bl (s:ByteArray):List UInt8:=s.data.toList
theorem Cq (s:ByteArray):ofL (bl s)=s:=rfl
def AW (s:ByteArray):Option (Nat×Nat×ByteArray):=if (w9 (bl s)).2.2=0/\(w9 (bl s)).1.kind=9/\8<=(w9 (bl s)).1.body.size then some (wz ((bl (w9 (bl s)).1.body).take 4),wz (((bl (w9 (bl s)).1.body).drop 4).take 4),ofL ((bl (w9 (bl s)).1.body).drop 8)) else none
def CD (s:ByteArray):Option (Nat×ByteArray):=if (w9 (bl s)).2.2=0/\(w9 (bl s)).1.kind=8/\4<=(w9 (bl s)).1.body.size/\wz ((bl (w9 (bl s)).1.body).take 4)<=2147483647 then some (wz ((bl (w9 (bl s)).1.body).take 4),ofL ((bl (w9 (bl s)).1.body).drop 4)) else none
theorem Cp (l:List UInt8)(h:4<=l.length):kC F (ofL l)=some ((wz (l.take 4):Nat):Int):=by unfold kC;rw[xd c_ c_ o_,wd,xU _ (by simp;omega),wd];simp
theorem EE (n:Nat):mL F (n:Int)=some (ofL (wu n 4)):=by unfold mL;have:=yl (F:=F) n 4 c_;rw[show ((4:Nat):Int)=4 by rfl] at this;rw[this,wd]
theorem C9 {d:DDisk}(g:GoodD d):lj F d=some 0:=by obtain⟨c,hc,hg⟩:=yF (F:=F) d;rw[hc,hg.2 g]
theorem Ip {d:DDisk}(g:GoodD d)(i:Nat):(seen d i).size<=3500:=by
 have key:∀ws:List DWrite,(∀w∈ws,w.text.size<=3500)->∀t,xh ws (i:Int)=some t->t.size<=3500:=by
  intro ws
  induction ws with
  |nil=>intro _ t h;cases h
  |cons w ws ih =>
   intro hw t h;rw[xh] at h
   cases hl:xh ws (i:Int) with
   |some u=>rw[hl] at h;obtain rfl:=i_.inj h;exact ih (λv hv=>hw v (j_ _ hv)) _ hl
   |none =>
    rw[hl] at h;dsimp only at h;split at h
    . obtain rfl:=i_.inj h;exact hw w (C_)
    . cases h
 unfold seen
 cases hl:xh d.writes (i:Int) with
 |some t=>exact key _ (λw hw=>(g.writes w hw).2.2) t hl
 |none =>
  rw[Z_,v_]
  cases hp:d.pages[i]? with
  |none=>decide
  |some s=>exact g.pages s (F_ hp)
structure SeqOk (d:DDisk) (q:Nat) (t:ByteArray):Prop where
 good:GoodD d
 len:d.pages.length=201
 head:CD (seen d 0)=some (q,t)
theorem GB {s:ByteArray}{q:Nat}{t:ByteArray}(h:CD s=some (q,t)):(w9 (bl s)).2.2=0/\(w9 (bl s)).1.kind=8/\4<=(w9 (bl s)).1.body.size/\q<=2147483647 /\
 q=wz ((bl (w9 (bl s)).1.body).take 4)/\t=ofL ((bl (w9 (bl s)).1.body).drop 4):=by
 unfold CD at h;split at h
 . rename_i hc;obtain⟨h1,h2,h3,h4⟩:=hc;obtain⟨rfl,rfl⟩:=Prod.mk.inj (i_.inj h);exact⟨h1,h2,h3,h4,rfl,rfl⟩
 . cases h
theorem Jz (s:ByteArray)(hs:s.size<=3500)(z:Int×ByteArray×Int) :
 ((mD F s).bind λr3 =>
  (
   bif (r3.2.2 !=0) then
    some true
    else
     bif (r3.1.kind !=8) then
      some true
     else
      bif decide ((r3.1.body.size:Int)<4) then
       some true
      else
       (kC F r3.1.body).bind λr4 =>
       some (decide ((2147483647:Int)<r4)):Option (Bool)).bind λz1 =>
  bif z1 then
   some z
  else
   (kC F r3.1.body).bind λr5 =>
   (jL r3.1.body 4 (r3.1.body.size:Int)).bind λs1 =>
   some (r5,s1,0))=some (match CD s with|some (q,t)=>((q:Int),t,0)|none=>z):=by
 have hg:=zU (F:=F) (bl s) (by have:(bl s).length=s.size:=rfl;omega);rw[Cq] at hg;rw[hg,wd];unfold CD;generalize w9 (bl s)=f;obtain⟨⟨k,b⟩,n,e⟩:=f;dsimp only;by_cases h1:e=0
 . rw[show (e !=0)=false by simpa using h1,wi];by_cases h2:k=8
   . rw[show (k !=8)=false by simpa using h2,wi];by_cases h3:4<=b.size
     . have hn:=Cp (F:=F) (bl b) h3;rw[Cq] at hn;rw[decide_eq_false o_,wi,hn,wd,wd];by_cases h4:wz ((bl b).take 4)<=2147483647
       . have hsl:=xd (l:=bl b) (lo:=4) (hi:=((bl b).length:Int)) c_ (by have:b.size=(bl b).length:=rfl;omega) o_;rw[d_,p_,show Int.toNat 4=4 from rfl] at hsl;rw[decide_eq_false o_,wi,wd,show jL b 4 (b.size:Int)=jL (ofL (bl b)) 4 ((bl b).length:Int) from rfl,hsl,wd,if_pos ⟨h1,h2,h3,h4⟩]
       . rw[decide_eq_true o_,wt,if_neg (λh=>h4 h.2.2.2)]
     . rw[decide_eq_true o_,wt,wd,wt,if_neg (λh=>h3 h.2.2.1)]
   . rw[show (k !=8)=true by simpa using h2,wt,wd,wt,if_neg (λh=>h2 h.2.1)]
 . rw[show (e !=0)=true by simpa using h1,wt,wd,wt,if_neg (λh=>h1 h.1)]
theorem Dz {d:DDisk}{q:Nat}{t:ByteArray}(h:SeqOk d q t):nD F d=some ((q:Int),t,0):=by unfold nD;have hs:=zR (F:=F) d 0 (by rw[h.len];decide) (by have:=h.good.nw;omega);rw[show ((0:Nat):Int)=0 by rfl] at hs;rw[C9 h.good,wd,show ((0:Int) !=0)=false by decide,wi,h.len,show (((201:Nat):Int) !=201)=false by decide,wi,hs,wd,Jz (seen d 0) (Ip h.good 0),h.head]
theorem SeqOk.le {d:DDisk}{q:Nat}{t:ByteArray}(h:SeqOk d q t):q<=2147483647:=(GB h.head).2.2.2.1
def pg (ps:List ByteArray)(i:Nat):ByteArray:=ps.getD i (ofL [])
theorem Br (ps:List ByteArray)(i k:Nat)(s:ByteArray)(h:i<ps.length):pg (ps.set i s) k=if i=k then s else pg ps k:=by
 unfold pg;rw[v_,v_,Q_];by_cases e:i=k
 . rw[if_pos e,if_pos e,if_pos h];rfl
 . rw[if_neg e,if_neg e]
def xI (q:Nat)(ps:List ByteArray)(i:Nat):List ByteArray:=match AW (pg ps i) with
 |none=>ps
 |some (n,p,t)=>if n<=q then ps else (if n=q+1/\1<=p/\p<101 then ps.set p t else ps).set i (ofL [])
def Aj (q:Nat)(ps:List ByteArray)(k:Nat):List ByteArray:=(W_ 101 k).foldl (xI q) ps
theorem Dw (q:Nat)(ps:List ByteArray)(i:Nat):(xI q ps i).length=ps.length:=by
 unfold xI;split
 . rfl
 . split
   . rfl
   . rw[H_];split
     . rw[H_]
     . rfl
theorem yT (q:Nat)(ps:List ByteArray)(k:Nat):Aj q ps (k+1)=xI q (Aj q ps k) (101+k):=by unfold Aj;rw[List.range'_concat,X_];simp
theorem yC (q:Nat)(ps:List ByteArray):∀k,(Aj q ps k).length=ps.length
 |0=>rfl
 |k+1=>by rw[yT,Dw,yC q ps k]
theorem H9 {s:ByteArray}{n p:Nat}{t:ByteArray}(h:AW s=some (n,p,t)):t.size<=3000:=by
 unfold AW at h;split at h
 . rename_i hc;obtain⟨k,B,_,_,hB,_,hf,_⟩:=D4 hc.1;have ht:t=ofL ((bl (w9 (bl s)).1.body).drop 8):=(Prod.mk.inj (Prod.mk.inj (i_.inj h)).2).2.symm;rw[ht,hf];show ((bl (ofL B)).drop 8).length<=3000;rw[t_];have:(bl (ofL B)).length=B.length:=rfl;omega
 . cases h
theorem GS:AW (ofL [])=none:=by unfold AW;rw[if_neg];intro h;exact absurd h.1 c_
theorem DP (q:Nat){ps:List ByteArray}(i:Nat)(h:∀s∈ps,s.size<=3500):∀s∈xI q ps i,s.size<=3500:=by
 intro s hs;unfold xI at hs;split at hs
 . exact h s hs
 . rename_i n p t ho;split at hs
   . exact h s hs
   . rcases B2 hs with h1|h1
     . split at h1
       . rcases B2 h1 with h2|h2
         . exact h s h2
         . rw[h2];have:=H9 ho;omega
       . exact h s h1
     . rw[h1];decide
theorem Bu (q:Nat){ps:List ByteArray}(h:∀s∈ps,s.size<=3500):∀k,∀s∈Aj q ps k,s.size<=3500
 |0=>h
 |k+1=>by rw[yT];exact DP q _ (Bu q h k)
theorem J8 {ps:List ByteArray}(h:∀s∈ps,s.size<=3500)(i:Nat):(pg ps i).size<=3500:=by
 unfold pg;rw[v_]
 cases hp:ps[i]? with
 |none=>decide
 |some s=>exact h s (F_ hp)
theorem Bj {ps:List ByteArray}{i:Int}(h0:0<=i)(h:i<ps.length):idx ps i=some (pg ps i.toNat):=by unfold idx pg;have:i.toNat<ps.length:=o_;rw[if_neg o_,v_,gge this];rfl
theorem Jw (q:Nat)(hq:q<=2147483647)(ps:List ByteArray)(hl:ps.length=201)(hs:∀s∈ps,s.size<=3500)(k:Nat)(hk:k<100) :
 ((idx ps ((101+k:Nat):Int)).bind λe3 =>
  (mD F e3).bind λr6 =>
  (
   bif (r6.2.2 !=0) then
    some true
    else
     bif (r6.1.kind !=9) then
      some true
     else
      bif decide ((r6.1.body.size:Int)<8) then
       some true
      else
       (kC F r6.1.body).bind λr7 =>
       some (decide (r7<=(q:Int))):Option (Bool)).bind λz7 =>
  bif z7 then
   some ps
  else
   (
    (jL r6.1.body 4 (r6.1.body.size:Int)).bind λs3 =>
     (kC F s3).bind λr8 =>
     (
      (kC F r6.1.body).bind λr9 =>
       bif (r9==(IntKind.i64.wrap ((q:Int)+1))) then
        bif decide ((1:Int)<=r8) then
         some (decide (r8<101))
        else
         some false
       else
        some false:Option (Bool)).bind λz9 =>
     bif z9 then
      (jL r6.1.body 8 (r6.1.body.size:Int)).bind λs4 =>
      (idx ps r8).bind λe4 =>
      some (ps.set r8.toNat s4)
     else
      some ps:Option ((List ByteArray))).bind λz8 =>
   (idx z8 ((101+k:Nat):Int)).bind λe5 =>
   some (z8.set ((101+k:Nat):Int).toNat (G_ #[])))=some (xI q ps (101+k)):=by
 have hsz:=J8 hs (101+k);unfold xI AW;rw[Bj o_ o_,wd,d_];generalize pg ps (101+k)=s at hsz ⊢;have hg:=zU (F:=F) (bl s) (by have:(bl s).length=s.size:=rfl;omega);rw[Cq] at hg;rw[hg,wd];generalize w9 (bl s)=f;obtain⟨⟨kd,b⟩,n,e⟩:=f;dsimp only;by_cases h1:e=0
 . rw[show (e !=0)=false by simpa using h1,wi];by_cases h2:kd=9
   . rw[show (kd !=9)=false by simpa using h2,wi];by_cases h3:8<=b.size
     . have hbl:b.size=(bl b).length:=rfl;have hn:=Cp (F:=F) (bl b) o_;rw[Cq] at hn;rw[decide_eq_false o_,wi,hn,wd,wd,if_pos ⟨h1,h2,h3⟩];dsimp only;generalize hN:wz ((bl b).take 4)=N;by_cases h4:N<=q
       . rw[decide_eq_true o_,wt,if_pos h4]
       . have hsl:=xd (l:=bl b) (lo:=4) (hi:=((bl b).length:Int)) c_ o_ o_;rw[d_,p_,show Int.toNat 4=4 from rfl] at hsl;have hsl8:=xd (l:=bl b) (lo:=8) (hi:=((bl b).length:Int)) c_ o_ o_;rw[d_,p_,show Int.toNat 8=8 from rfl] at hsl8
         rw[decide_eq_false o_,wi,if_neg h4,show jL b 4 (b.size:Int)=jL (ofL (bl b)) 4 ((bl b).length:Int) from rfl,hsl,wd,Cp ((bl b).drop 4) (by rw[t_];omega),wd,wd,
          show jL b 8 (b.size:Int)=jL (ofL (bl b)) 8 ((bl b).length:Int) from rfl,hsl8,wA (n:=(q:Int)+1) o_ o_]
         generalize wz (((bl b).drop 4).take 4)=p;by_cases h5:N=q+1/\1<=p/\p<101
         . rw[if_pos h5,show ((N:Int)==(q:Int)+1)=true by rw[beq_iff_eq];omega,wt,decide_eq_true o_,wt,decide_eq_true o_,wd,wt,wd,Bj o_ o_,wd,wd,d_,Bj o_ (by rw[H_];omega),wd];rfl
         . have hz:(bif ((N:Int)==(q:Int) + 1) then bif decide ((1:Int)<=(p:Int)) then some (decide ((p:Int)<101)) else some false else some false)=some false:=by
            by_cases g1:N=q+1
            . rw[show ((N:Int)==(q:Int)+1)=true by rw[beq_iff_eq];omega,wt];by_cases g2:1<=p
              . rw[decide_eq_true o_,wt,decide_eq_false o_]
              . rw[decide_eq_false o_,wi]
            . rw[show ((N:Int)==(q:Int)+1)=false by rw[beq_eq_false_iff_ne];omega,wi]
           rw[if_neg h5,hz,wd,wi,wd,Bj o_ o_,wd];rfl
     . rw[decide_eq_true o_,wt,wd,wt,if_neg (λh=>h3 h.2.2)]
   . rw[show (kd !=9)=true by simpa using h2,wt,wd,wt,if_neg (λh=>h2 h.2.1)]
 . rw[show (e !=0)=true by simpa using h1,wt,wd,wt,if_neg (λh=>h1 h.1)]
theorem ES {d:DDisk}{q:Nat}{t:ByteArray}(h:SeqOk d q t):mU F d=some (⟨Aj q (apply d.writes d.pages) 100,[]⟩,0):=by
 unfold mU;have hq:=h.le;have gp:=h.good.np;have hal:(apply d.writes d.pages).length=201:=by rw[wQ];exact h.len
 have hsz:=(yQ h.good).pages;rw[Dz h,wd];dsimp only;rw[show ((0:Int) !=0)=false by decide,wi,C9 h.good,wd,show ((0:Int) !=0)=false by decide,wi,yd (by simp;omega) (by simp;omega),wd,M_,JH h.good,wd,wd,wd];dsimp only;refine vh (λk=>(Aj q (apply d.writes d.pages) k,((101+k:Nat):Int))) (r:=Aj q (apply d.writes d.pages) 100) 100 c_ rfl rfl (λk hk=>?_) ?_
 . dsimp only;have:=Jw (F:=F) q hq (Aj q (apply d.writes d.pages) k) (by rw[yC];exact hal) (Bu q hsz k) k hk;rw[decide_eq_true o_,wt,this,wd,wA o_ o_,yT];rfl
 . dsimp only;rw[decide_eq_false o_,wi]
end
section
variable {F:Nat} [Big F]
def zC (q:Nat)(s:ByteArray):Prop:=∀n p t,AW s=some (n,p,t)->n<=q
theorem F2 (q:Nat):zC q (ofL []):=λn p t h=>by rw[GS] at h;cases h
theorem zC.mono {q q':Nat}{s:ByteArray}(h:zC q s)(hq:q<=q'):zC q' s:=λn p t ho=>p7 (h n p t ho) hq
theorem zw {q:Nat}{ps:List ByteArray}{i:Nat}(h:zC q (pg ps i)):xI q ps i=ps:=by
 unfold xI
 cases ho:AW (pg ps i) with
 |none=>rfl
 |some x=>obtain⟨n,p,t⟩:=x;dsimp only;rw[if_pos (h n p t ho)]
theorem CG {q:Nat}{ps:List ByteArray}{i n p:Nat}{t:ByteArray}(ho:AW (pg ps i)=some (n,p,t))(hn:q<n):xI q ps i=(if n=q+1/\1<=p/\p<101 then ps.set p t else ps).set i (ofL []):=by unfold xI;rw[ho];dsimp only;rw[if_neg o_]
theorem F3 (q:Nat)(s:ByteArray):zC q s\/∃n p t,AW s=some (n,p,t)/\q<n:=by
 cases ho:AW s with
 |none=>exact .inl λn p t h=>by rw[ho] at h;cases h
 |some x =>
  obtain⟨n,p,t⟩:=x;by_cases h:n<=q
  . refine .inl λn' p' t' h'=>?_;rw[ho] at h';obtain⟨rfl,_⟩:=Prod.mk.inj (i_.inj h');exact h
  . exact .inr ⟨n,p,t,rfl,by omega⟩
theorem Du {q:Nat}{ps:List ByteArray}{i j:Nat}(hl:ps.length=201)(hi:101<=i)(hi2:i<201)(hj:101<=j\/j=0)(hne:j≠i):pg (xI q ps i) j=pg ps j:=by
 rcases F3 q (pg ps i) with h|⟨n,p,t,ho,hn⟩
 . rw[zw h]
 . rw[CG ho hn];split
   . rename_i hc;rw[Br _ _ _ _ (by rw[H_];omega),if_neg o_,Br _ _ _ _ o_,if_neg o_]
   . rw[Br _ _ _ _ o_,if_neg o_]
theorem Hs {q:Nat}{ps:List ByteArray}(hl:ps.length=201){j:Nat}:∀k,k<=100->(101+k<=j\/j=0)->pg (Aj q ps k) j=pg ps j
 |0,_,_=>rfl
 |k+1,hk,hj=>by rw[yT,Du (by rw[yC];exact hl) o_ o_ o_ o_];exact Hs hl k o_ o_
theorem Em {q:Nat}{ps:List ByteArray}(hl:ps.length=201):∀k,k<=100->∀i,101<=i->i<101+k->zC q (pg (Aj q ps k) i)
 |0,_,i,h1,h2=>by omega
 |k+1,hk,i,h1,h2=>by
  rw[yT];have hl':(Aj q ps k).length=201:=by rw[yC];exact hl
  by_cases hi:i=101+k
  . subst hi;rcases F3 q (pg (Aj q ps k) (101+k)) with h|⟨n,p,t,ho,hn⟩
    . rw[zw h];exact h
    . rw[CG ho hn];have:pg ((if n=q+1/\1<=p/\p<101 then (Aj q ps k).set p t else Aj q ps k).set (101+k) (ofL [])) (101+k)=ofL []:=(by rw[Br _ _ _ _ (by split <;> (try rw[H_]) <;> omega),if_pos rfl]);rw[this];exact F2 q
  . rw[Du hl' o_ o_ o_ hi];exact Em hl k o_ i h1 o_
theorem Dv {q:Nat}{ps:List ByteArray}:∀k,(∀i,101<=i->i<101+k->zC q (pg ps i))->Aj q ps k=ps
 |0,_=>rfl
 |k+1,h=>by rw[yT,Dv k (λi h1 h2=>h i h1 o_),zw (h _ o_ o_)]
theorem zb {ws:List DWrite}{ps:List ByteArray}{j:Nat}(hj:j<ps.length)(h:∀w∈ws,0<=w.page):pg (apply ws ps) j=(xh ws (j:Int)).getD (pg ps j):=DV ps j hj ws ps hj h
theorem Ee:∀ {ws:List DWrite} {i:Int} {t:ByteArray},xh ws i=some t->∃w∈ws,w.page=i/\w.text=t
 |[],_,_,h=>by cases h
 |w::ws,i,t,h=>by
  rw[xh] at h
  cases hl:xh ws i with
  |some u=>rw[hl] at h;obtain rfl:=i_.inj h;obtain⟨v,hv,h1,h2⟩:=Ee hl;exact⟨v,j_ _ hv,h1,h2⟩
  |none =>
   rw[hl] at h;dsimp only at h;split at h
   . rename_i hp;exact⟨w,C_,hp,i_.inj h⟩
   . cases h
theorem zG {ws:List DWrite}{i:Int}(h:∀w∈ws,w.page≠i):xh ws i=none:=by
 cases hl:xh ws i with
 |none=>rfl
 |some t=>obtain⟨w,hw,hp,_⟩:=Ee hl;exact absurd hp (h w hw)
theorem Hx (d:DDisk)(g:GoodD d)(j:Nat)(hj:j<d.pages.length):pg (apply d.writes d.pages) j=seen d j:=zb hj λw hw=>(g.writes w hw).1
theorem Bv (ps:List ByteArray)(j:Nat):seen ⟨ps,[]⟩ j=pg ps j:=rfl
structure Done (d:DDisk) (q:Nat) (t:ByteArray):Prop where
 ok:SeqOk d q t
 clean:d.writes=[]
 quiet:∀i,101<=i->i<201->zC q (pg d.pages i)
theorem KY {d:DDisk}{q:Nat}{t:ByteArray}(h:SeqOk d q t):Done ⟨Aj q (apply d.writes d.pages) 100,[]⟩ q t:=by
 have hal:(apply d.writes d.pages).length=201:=by rw[wQ];exact h.len
 have hsz:∀s∈apply d.writes d.pages,s.size<=3500:=(yQ h.good).pages;have h0:=h.head;rw[<-Hx d h.good 0 (by rw[h.len];decide),<-Hs hal 100 c_ (.inr rfl)] at h0;have hs:=Bu q hsz 100;have hl:=yC q (apply d.writes d.pages) 100;have hd:=Em (q:=q) hal 100 c_;generalize Aj q (apply d.writes d.pages) 100=R at h0 hs hl hd ⊢;rw[hal] at hl;exact⟨⟨⟨o8 hl,C1 _,hs,λw hw=>by cases hw⟩,hl,h0⟩,rfl,λi h1 h2=>hd i h1 o_⟩
theorem HG (ps:List ByteArray):apply [] ps=ps:=rfl
theorem ER {d:DDisk}{q:Nat}{t:ByteArray}(h:Done d q t):mU F d=some (d,0):=by
 have e:d=⟨d.pages,[]⟩:=by obtain⟨p,w⟩:=d;have:=h.clean;dsimp only at this ⊢;rw[this]
 rw[ES h.ok,h.clean,HG,Dv 100 (λi h1 h2=>h.quiet i h1 o_),<-e]
def x0:DDisk:=⟨q_ 201 (ofL []),[]⟩
end
section
variable {F:Nat} [Big F]
structure FitOk (h:ByteArray) (l:List DWrite):Prop where
 head:h.size<=2900
 len:l.length<=100
 page:∀w∈l,1<=w.page/\w.page<101
 text:∀w∈l,w.text.size<=2900
 one:l.Pairwise λa b=>a.page≠b.page
def Bl (l:List DWrite):List Bool:=l.foldl (λs w=>s.set w.page.toNat true) (q_ 201 false)
theorem GL (l:List DWrite)(w:DWrite):Bl (l++[w])=(Bl l).set w.page.toNat true:=by unfold Bl;rw[X_];rfl
theorem GK (l:List DWrite):(Bl l).length=201/\∀p,p<201->(Bl l)[p]? = some (l.any λw=>w.page.toNat==p):=by
 have key:∀(l:List DWrite) (s:List Bool),s.length=201->(l.foldl (λs w=>s.set w.page.toNat true) s).length=201/\∀p,p<201->(l.foldl (λs w=>s.set w.page.toNat true) s)[p]? = some (s.getD p false||l.any λw=>w.page.toNat==p):=by
  intro l
  induction l with
  |nil=>intro s hs;refine⟨hs,λp hp=>?_⟩;rw[List.foldl_nil,List.any_nil,Bool.or_false,v_,gge o_];rfl
  |cons w l ih =>
   intro s hs;rw[x_];obtain⟨h1,h2⟩:=ih (s.set w.page.toNat true) (by rw[H_];exact hs);refine⟨h1,λp hp=>?_⟩;rw[h2 p hp,List.any_cons,v_,Q_,v_];by_cases hw:w.page.toNat=p
   . rw[if_pos hw,if_pos o_,show (w.page.toNat==p)=true by simpa using hw];simp
   . rw[if_neg hw,show (w.page.toNat==p)=false by simpa using hw,Bool.false_or]
 obtain⟨h1,h2⟩:=key l (q_ 201 false) L6;refine⟨h1,λp hp=>?_⟩;have:=h2 p hp;rw[v_,Y_,if_pos hp] at this;exact this
theorem HZ (l:List DWrite){p:Int}(h0:0<=p)(h1:p<201):idx (Bl l) p=some (l.any λw=>w.page.toNat==p.toNat):=by unfold idx;rw[if_neg o_];exact(GK l).2 p.toNat o_
def IH (l:List DWrite)(k:Nat):Option (Unit⊕Int):=match l[k]? with
 |none=>none
 |some w=>if w.page<1\/101<=w.page then some (.inr 1) else if 2900<w.text.size then some (.inr 2) else if ((l.take k).any λv=>v.page.toNat==w.page.toNat)=true then some (.inr 5) else none
theorem I5 (h:ByteArray)(l:List DWrite):∃c:Int,qz F h l=some c/\(c=0↔FitOk h l):=by
 unfold qz;by_cases hb:2900<h.size\/100<l.length
 . refine⟨2,?_,?_⟩
   . rw[show (decide ((2900:Int)<(h.size:Int))||decide ((100:Int)<(l.length:Int)))=true by simp;omega,wt]
   . constructor
     . intro h;cases h
     . intro g;have:=g.head;have:=g.len;omega
 . rw[show (decide ((2900:Int)<(h.size:Int))||decide ((100:Int)<(l.length:Int)))=false by simp;omega,wi]
   have key:=AN (σ:=(List Bool)×Int) (ρ:=Unit⊕Int) (f:=λx=>match x with
    |(x1,x2) =>
     bif decide (x2<(l.length:Int)) then
      (idx l x2).bind λe1 =>
      bif ((decide (e1.page<1))||(decide ((101:Int)<=e1.page))) then
       some (.inr (.inr 1))
      else
       bif decide ((2900:Int)<(e1.text.size:Int)) then
        some (.inr (.inr 2))
       else
        (idx x1 e1.page).bind λe2 =>
        bif e2 then
         some (.inr (.inr 5))
        else
         (idx x1 e1.page).bind λe3 =>
         some (.inl ((x1.set e1.page.toNat true),IntKind.i64.wrap (x2+1)))
      else
       some (.inr (.inl ()))) (λk=>(Bl (l.take k),(k:Int))) (IH l) l.length (res:=.inl ()) (λk hk=>by
    dsimp only;unfold IH;rw[decide_eq_true (show (k:Int)<(l.length:Int) by omega),wt,xF,gge hk,wd];dsimp only;by_cases h1:(l[k]).page<1\/101<=(l[k]).page
    . rw[if_pos h1,show (decide ((l[k]).page<1)||decide ((101:Int)<=(l[k]).page))=true by simpa using h1,wt]
    . rw[if_neg h1,show (decide ((l[k]).page<1)||decide ((101:Int)<=(l[k]).page))=false by simpa using h1,wi];by_cases h2:2900<(l[k]).text.size
      . rw[if_pos h2,decide_eq_true o_,wt]
      . rw[if_neg h2,decide_eq_false o_,wi,HZ _ o_ o_,wd]
        cases h3:(l.take k).any λv=>v.page.toNat==(l[k]).page.toNat with
        |true=>rw[wt,if_pos rfl]
        |false =>
         rw[wi,if_neg c_,wd,wA o_ o_,B_,gge hk,Option.toList_some,GL]
         rfl) (by
    dsimp only
    rw[decide_eq_false o_];rfl) l.length 0 F o_ (sv o_)
   rw[show iter _ F ((q_ 201 false:List Bool),(0:Int))=_ from key,wd]
   cases hf:(W_ 0 l.length).findSome? (IH l) with
   |some r =>
    obtain⟨k,hk,hr⟩:=zS hf;unfold IH at hr;rw[gge hk] at hr;dsimp only at hr;split at hr
    . rename_i h1;obtain rfl:=i_.inj hr;refine⟨1,rfl,?_⟩;constructor
      . intro h;cases h
      . intro g;have:=g.page _ (l_ hk);omega
    . rename_i h1;split at hr
      . rename_i h2;obtain rfl:=i_.inj hr;refine⟨2,rfl,?_⟩;constructor
        . intro h;cases h
        . intro g;have:=g.text _ (l_ hk);omega
      . split at hr
        . rename_i h3;obtain rfl:=i_.inj hr;refine⟨5,rfl,?_⟩;constructor
          . intro h;cases h
          . intro g;rw[List.any_eq_true] at h3;obtain⟨v,hv,hp⟩:=h3;obtain⟨i,hi,rfl⟩:=l9 hv;rw[u_] at hi;rw[List.getElem_take] at hp;have:=(n9.1 g.one) i k o_ hk o_;have p1:=g.page _ (l_ (show i<l.length by omega));have p2:=g.page _ (l_ hk);rw[beq_iff_eq] at hp;omega
        . cases hr
   |none =>
    rw[zq] at hf;refine⟨0,rfl,?_⟩
    have xj:∀k (hk:k<l.length),¬ ((l[k]).page<1\/101<=(l[k]).page)/\¬ 2900<(l[k]).text.size/\¬ ((l.take k).any λv=>v.page.toNat==(l[k]).page.toNat)=true:=λk hk=>by
     have:=hf k hk;unfold IH at this;rw[gge hk] at this;dsimp only at this;split at this
     . cases this
     . rename_i h1;split at this
       . cases this
       . rename_i h2;split at this
         . cases this
         . rename_i h3;exact⟨h1,h2,h3⟩
    constructor
    . intro _;refine⟨by omega,by omega,λw hw=>?_,λw hw=>?_,?_⟩
      . obtain⟨k,hk,rfl⟩:=l9 hw;have:=(xj k hk).1;omega
      . obtain⟨k,hk,rfl⟩:=l9 hw;have:=(xj k hk).2.1;omega
      . rw[n9];intro i j hi hj hij he;refine(xj j hj).2.2 ?_;rw[List.any_eq_true];refine⟨l[i],?_,by rw[beq_iff_eq,he]⟩;rw[D_];exact⟨i,by rw[List.getElem?_take,if_pos hij,gge hi]⟩
    . intro _;rfl
def yB (q:Nat)(P:List ByteArray)(p:Nat):List UInt8:=wu (q+1) 4++wu p 4++bl (pg P p)
def frW (q:Nat)(P:List ByteArray)(i:Nat)(w:DWrite):DWrite:=⟨((101+i:Nat):Int),ofL (yi 9 (yB q P w.page.toNat))⟩
def yy (q:Nat)(P:List ByteArray)(l:List DWrite):List DWrite:=l.mapIdx (frW q P)
def hN (n:Nat)(h:ByteArray):ByteArray:=ofL (yi 8 (wu n 4++bl h))
def hB (q:Nat)(h:ByteArray):ByteArray:=hN (q+1) h
def P2 (q:Nat)(P:List ByteArray)(l:List DWrite):List ByteArray:=apply (yy q P l) P
def P3 (q:Nat)(P:List ByteArray)(l:List DWrite):List ByteArray:=apply l (P2 q P l)
def P4 (q:Nat)(P:List ByteArray)(h:ByteArray)(l:List DWrite):List ByteArray:=apply [⟨0,hB q h⟩] (P3 q P l)
def EZ (q:Nat)(P:List ByteArray)(h:ByteArray)(l:List DWrite):List DDisk:=⟨P,[]⟩::((E_ l.length).map (λk=>⟨P,(yy q P l).take (k+1)⟩)++⟨P2 q P l,[]⟩::((E_ l.length).map (λk=>⟨P2 q P l,l.take (k+1)⟩)++[⟨P3 q P l,[]⟩,⟨P3 q P l,[⟨0,hB q h⟩]⟩]))
def zy (q:Nat)(P:List ByteArray)(h:ByteArray)(l:List DWrite):List DDisk:=EZ q P h l++[⟨P4 q P h l,[]⟩]
structure StepsOk (d:DDisk) (h:ByteArray) (l:List DWrite) (q:Nat) (t:ByteArray):Prop where
 seq:SeqOk d q t
 fit:FitOk h l
 small:∀w∈l,(seen d w.page.toNat).size<=2900
 more:q<2147483647
theorem xu (q:Nat)(P:List ByteArray)(l:List DWrite):(yy q P l).length=l.length:=by unfold yy;rw[List.length_mapIdx]
theorem Ap (q:Nat)(P:List ByteArray)(l:List DWrite)(k:Nat)(hk:k<l.length):(yy q P l)[k]? = some (frW q P k l[k]):=by unfold yy;rw[List.getElem?_mapIdx,gge hk];rfl
theorem zJ {q:Nat}{P:List ByteArray}{l:List DWrite}{w:DWrite}:w∈yy q P l↔∃k,∃hk:k<l.length,w=frW q P k l[k]:=by
 rw[D_];constructor
 . rintro⟨k,hk⟩;have hkl:=(ggs.1 hk).1;rw[xu] at hkl;rw[Ap q P l k hkl] at hk;exact⟨k,hkl,(i_.inj hk).symm⟩
 . rintro⟨k,hk,rfl⟩;exact⟨k,Ap q P l k hk⟩
theorem Ir (q:Nat)(P:List ByteArray)(l:List DWrite)(k:Nat)(hk:k<l.length):(yy q P l).take (k+1)=(yy q P l).take k++[frW q P k l[k]]:=by rw[B_,Ap q P l k hk];rfl
theorem zm (q:Nat)(P:List ByteArray)(p:Nat):(yB q P p).length=8+(pg P p).size:=by unfold yB;rw[a_,a_,we,we];rfl
theorem Hl (n:Nat)(hn:n<=2147483647)(h:ByteArray)(hh:h.size<=2900):mK F (n:Int) h=some (hN n h,0):=by unfold mK hN;have hl:(bl h).length=h.size:=rfl;rw[show (decide ((n:Int)<0)||decide ((2147483647:Int)<(n:Int)))=false by simp;omega,wi,decide_eq_false o_,wi,EE,wd];have hs:=xo (a:=wu n 4) (b:=bl h) (by rw[we];omega);rw[Cq] at hs;have hp:=yX (F:=F) 8 (wu n 4++bl h) c_ c_ (by rw[a_,we];omega);rw[hs,wd,show (DFrame.mk 8 (ofL (wu n 4++bl h)))=⟨((8:Nat):Int),ofL (wu n 4++bl h)⟩ from rfl,hp,wd]
theorem EQ {d:DDisk}{i:Int}{s:ByteArray}(h:Bb d i s):l8 F d i s=some (⟨d.pages,d.writes++[⟨i,s⟩]⟩,0):=by
 rcases FC (F:=F) d i s with ⟨_,h2⟩|⟨h1,_⟩
 . exact h2
 . exact absurd h h1
section
variable {d:DDisk} {h:ByteArray} {l:List DWrite} {q:Nat} {t:ByteArray}
structure Ground (q:Nat) (P:List ByteArray) (h:ByteArray) (l:List DWrite):Prop where
 len:P.length=201
 size:∀s∈P,s.size<=3500
 fit:FitOk h l
 small:∀w∈l,(pg P w.page.toNat).size<=2900
 more:q<2147483647
theorem StepsOk.ground (g:StepsOk d h l q t):Ground q (apply d.writes d.pages) h l:=by refine⟨by rw[wQ];exact g.seq.len,(yQ g.seq.good).pages,g.fit,λw hw=>?_,g.more⟩;have:=g.fit.page w hw;rw[Hx d g.seq.good _ (by rw[g.seq.len];omega)];exact g.small w hw
variable {P:List ByteArray}
theorem Ground.frw (g:Ground q P h l):∀w∈yy q P l,okW 201 w:=λw hw=>by obtain⟨k,hk,rfl⟩:=zJ.1 hw;have:=g.fit.len;refine⟨by show (0:Int)<=((101+k:Nat):Int);omega,by show ((101+k:Nat):Int)<((201:Nat):Int);omega,?_⟩;show (yi 9 (yB q P (l[k]).page.toNat)).length<=3500;have:=g.small _ (l_ hk);rw[yx,zm];omega
theorem Ground.len2 (g:Ground q P h l):(P2 q P l).length=201:=by unfold P2;rw[wQ];exact g.len
theorem Ground.len3 (g:Ground q P h l):(P3 q P l).length=201:=by unfold P3;rw[wQ];exact g.len2
theorem Ground.good1 (g:Ground q P h l){ws:List DWrite}(hn:ws.length<=400)(hw:∀w∈ws,okW 201 w):GoodD ⟨P,ws⟩:=⟨o8 g.len,hn,g.size,λw h=>by show okW P.length w;rw[g.len];exact hw w h⟩
theorem Ground.goodF (g:Ground q P h l):GoodD ⟨P,yy q P l⟩:=g.good1 (by rw[xu];have:=g.fit.len;omega) g.frw
theorem Ground.size2 (g:Ground q P h l):∀s∈P2 q P l,s.size<=3500:=(yQ g.goodF).pages
theorem Ground.okl (g:Ground q P h l):∀w∈l,okW 201 w:=λw hw=>by have:=g.fit.page w hw;have:=g.fit.text w hw;exact⟨by omega,by show w.page<((201:Nat):Int);omega,by omega⟩
theorem Ground.good2 (g:Ground q P h l){ws:List DWrite}(hn:ws.length<=400)(hw:∀w∈ws,okW 201 w):GoodD ⟨P2 q P l,ws⟩:=⟨o8 g.len2,hn,g.size2,λw h=>by show okW (P2 q P l).length w;rw[g.len2];exact hw w h⟩
theorem Ground.goodL (g:Ground q P h l):GoodD ⟨P2 q P l,l⟩:=g.good2 (by have:=g.fit.len;omega) g.okl
theorem Ground.size3 (g:Ground q P h l):∀s∈P3 q P l,s.size<=3500:=(yQ g.goodL).pages
theorem Ground.hsize (g:Ground q P h l):(hB q h).size<=3500:=by show (yi 8 (wu (q+1) 4++bl h)).length<=3500;have:=g.fit.head;have e:(bl h).length=h.size:=rfl;rw[yx,a_,we];omega
theorem Ground.mayH (g:Ground q P h l):Bb ⟨P3 q P l,[]⟩ 0 (hB q h) :=
 ⟨⟨o8 g.len3,C1 _,g.size3,λw h=>by cases h⟩,by decide,by show (0:Int)<((P3 q P l).length:Int);rw[g.len3];decide,g.hsize,by show (0:Nat)<400;decide⟩
theorem Ki (g:Ground q P h l)(k p:Nat)(hp:p<101):seen ⟨P,(yy q P l).take k⟩ p=pg P p:=by
 unfold seen;rw[zG]
 . rfl
 . intro w hw;obtain⟨i,hi,rfl⟩:=zJ.1 (C2 hw);show ((101+i:Nat):Int)≠(p:Int);omega
theorem G7 (s:StepsOk d h l q t):mj F d h l=some (zy q (apply d.writes d.pages) h l,0):=by
 have g:=s.ground;obtain⟨c,hc,hc0⟩:=I5 (F:=F) h l;have c0:=hc0.2 s.fit;subst c0;have hn:=s.fit.len;have hq:=s.more;unfold mj;rw[Dz s.seq,wd];dsimp only;rw[show ((0:Int) !=0)=false by decide,wi,hc,wd,show ((0:Int) !=0)=false by decide,wi];rw[vj l (λw=>if 2900<(seen d w.page.toNat).size then some (.inr ([],2)) else none) (.inl ()) o_ rfl (λk e hk=>?_) (by rw[decide_eq_false o_,wi])]
 . have hnone:l.findSome? (λw=>if 2900<(seen d w.page.toNat).size then some (.inr ([],2):Unit⊕((List DDisk)×Int)) else none)=none:=by rw[E7];intro w hw;have:=s.small w hw;rw[if_neg o_]
   rw[hnone,Z_,wd];dsimp only;rw[show ((q:Int)==2147483647)=false by rw[beq_eq_false_iff_ne];omega,wi,ya s.seq.good,wd,yd s_ s_,wd,wd];dsimp only;generalize apply d.writes d.pages=P at g ⊢
   rw[qi (F:=F) (s:=(([]:List DDisk)++[(⟨P,[]⟩:DDisk)],P,([]:List DWrite),(0:Int))) (λk=>((⟨P,[]⟩:DDisk)::(E_ k).map (λk=>(⟨P,(yy q P l).take (k+1)⟩:DDisk)),P,(yy q P l).take k,(k:Int))) l.length
    (r:=((⟨P,[]⟩:DDisk)::(E_ l.length).map (λk=>(⟨P,(yy q P l).take (k+1)⟩:DDisk)),P,(yy q P l).take l.length)) rfl o_ (λk hk=>?_) ?_,wd]
   . dsimp only;rw[show (yy q P l).take l.length=yy q P l from L7 (by rw[xu];exact p8 _),ya g.goodF,wd];dsimp only;rw[yd (by simp;omega) (by simp;omega),wd,wd];dsimp only;rw[show apply (yy q P l) P=P2 q P l from rfl];generalize hA:(⟨P,[]⟩:DDisk)::(E_ l.length).map (λk=>(⟨P,(yy q P l).take (k+1)⟩:DDisk))++[⟨P2 q P l,[]⟩]=A;have hAl:A.length<=102:=by rw[<-hA];simp;omega
     rw[qi (F:=F) (s:=(A,P2 q P l,([]:List DWrite),(0:Int))) (λk=>(A++(E_ k).map (λk=>(⟨P2 q P l,l.take (k+1)⟩:DDisk)),P2 q P l,l.take k,(k:Int))) l.length
      (r:=(A++(E_ l.length).map (λk=>(⟨P2 q P l,l.take (k+1)⟩:DDisk)),P2 q P l,l.take l.length)) s_ o_ (λk hk=>?_) ?_,wd]
     . dsimp only;rw[p_,ya g.goodL,wd];dsimp only;rw[yd (by simp;omega) (by simp;omega),wd,wd];dsimp only;rw[wA (n:=(q:Int)+1) o_ o_,show (q:Int)+1=((q+1:Nat):Int) by omega,Hl (q+1) o_ h s.fit.head,wd];dsimp only;show ((l8 F ⟨P3 q P l,[]⟩ 0 (hB q h)).bind _).bind _=_;rw[EQ g.mayH,wd];dsimp only;rw[yd (by simp;omega) (by simp;omega),wd,wd];dsimp only;rw[ya (FD g.mayH),wd];dsimp only;rw[yd (by simp;omega) (by simp;omega),wd,wd];dsimp only;rw[<-hA];unfold zy EZ;simp[P3,P4,P2]
     . dsimp only;rw[decide_eq_false o_,wi]
     . dsimp only;have hlk:(l.take k).length=k:=(by rw[u_];omega);have hw:=g.okl _ (l_ hk);have hm:Bb ⟨P2 q P l,l.take k⟩ (l[k]).page (l[k]).text:=(by refine⟨g.good2 o_ (λw hw=>g.okl w (C2 hw)),hw.1,?_,hw.2.2,by show (l.take k).length<400;omega⟩;show (l[k]).page<((P2 q P l).length:Int);rw[g.len2];exact hw.2.1);rw[decide_eq_true o_,wt,xF,gge hk,wd,EQ hm,wd];dsimp only;rw[yd (by simp;omega) (by simp;omega),wd,wd];dsimp only;have htk:l.take (k+1)=l.take k++[l[k]]:=(by rw[B_,gge hk];rfl);rw[wA o_ o_,List.range_succ,List.map_append,List.map_singleton,htk,<-K_];rfl
   . dsimp only;rw[decide_eq_false o_,wi]
   . dsimp only;have hlk:((yy q P l).take k).length=k:=(by rw[u_,xu];omega);have hwk:=g.fit.page _ (l_ hk);have hfr:=g.frw _ (zJ.2 ⟨k,hk,rfl⟩);have hse:=zR (F:=F) ⟨P,(yy q P l).take k⟩ (l[k]).page.toNat (by show (l[k]).page.toNat<P.length;rw[g.len];omega) (by show ((yy q P l).take k).length<=1000000;omega);rw[Ki g k _ o_,show (((l[k]).page.toNat:Nat):Int)=(l[k]).page by omega] at hse;have h4:=EE (F:=F) (l[k]).page.toNat;rw[show (((l[k]).page.toNat:Nat):Int)=(l[k]).page by omega] at h4;have hsm:=g.small _ (l_ hk);have hbl:(bl (pg P (l[k]).page.toNat)).length=(pg P (l[k]).page.toNat).size:=rfl;have hs2:=xo (a:=wu (q+1) 4++wu (l[k]).page.toNat 4) (b:=bl (pg P (l[k]).page.toNat)) (by rw[a_,we,we];omega);rw[Cq] at hs2;have hp:=yX (F:=F) 9 (yB q P (l[k]).page.toNat) c_ c_ (by rw[zm];omega);have hm:Bb ⟨P,(yy q P l).take k⟩ ((101+k:Nat):Int) (ofL (yi 9 (yB q P (l[k]).page.toNat))):=by refine⟨g.good1 o_ (λw hw=>g.frw w (C2 hw)),hfr.1,?_,hfr.2.2,by show ((yy q P l).take k).length<400;omega⟩;show ((101+k:Nat):Int)<(P.length:Int);rw[g.len];exact hfr.2.1
     rw[decide_eq_true o_,wt,xF,gge hk,wd,wA (n:=(q:Int)+1) o_ o_,show (q:Int)+1=((q+1:Nat):Int) by omega,EE,wd,h4,wd,
      xo (by rw[we,we];decide),wd,hse,wd,hs2,wd,show (DFrame.mk 9 (ofL (wu (q+1) 4++wu (l[k]).page.toNat 4++bl (pg P (l[k]).page.toNat))))=⟨((9:Nat):Int),ofL (yB q P (l[k]).page.toNat)⟩ from rfl,hp,wd]
     dsimp only;rw[wA (n:=101+(k:Int)) o_ o_,show (101:Int)+(k:Int)=((101+k:Nat):Int) by omega,EQ hm,wd];dsimp only;rw[yd (by simp;omega) (by simp;omega),wd,wd];dsimp only;rw[wA o_ o_,List.range_succ,List.map_append,List.map_singleton,Ir q P l k hk];rfl
 . have hkl:=(ggs.1 hk).1;have hp:=s.fit.page e (F_ hk);have hse:=zR (F:=F) d e.page.toNat (by rw[s.seq.len];omega) (by have:=s.seq.good.nw;omega);rw[show ((e.page.toNat:Nat):Int)=e.page by omega] at hse;rw[decide_eq_true o_,wt,xF,hk,wd,hse,wd];by_cases hb:2900<(seen d e.page.toNat).size
   . rw[if_pos hb,decide_eq_true o_,wt]
   . rw[if_neg hb,decide_eq_false o_,wi,wA o_ o_]
end
end
section
variable {F:Nat} [Big F]
theorem zx (q:Nat)(P:List ByteArray)(h:ByteArray)(l:List DWrite):(EZ q P h l).length=2*l.length+4:=by unfold EZ;simp;omega
theorem zz (q:Nat)(P:List ByteArray)(h:ByteArray)(l:List DWrite):(zy q P h l).length=2*l.length+5:=by unfold zy;rw[a_,zx];rfl
theorem EF (q:Nat)(hq:q<=2147483647)(h:ByteArray)(hh:h.size<=2900):CD (hN q h)=some (q,h):=by
 have hl:(bl h).length=h.size:=rfl;have hf:=Cg 8 (wu q 4++bl h) [] c_ c_ (by rw[a_,we];omega);rw[I_] at hf;have hv:wz ((wu q 4++bl h).take 4)=q:=by rw[L_ (we _ _),xA];exact z_ o_
 have hd:(wu q 4++bl h).drop 4=bl h:=P_ (we _ _);unfold CD;have e1:w9 (bl (hN q h))=(⟨(8:Nat),ofL (wu q 4++bl h)⟩,(((wu q 4++bl h).length+5:Nat):Int),0):=hf;have e2:bl (ofL (wu q 4++bl h))=wu q 4++bl h:=rfl;rw[e1];dsimp only;rw[e2,hv,hd,if_pos ⟨rfl,rfl,by rw[Dt,a_,we];omega,by omega⟩];rfl
theorem Jk (q:Nat)(hq:q<2147483647)(P:List ByteArray)(p:Nat)(hp:p<4294967296)(hs:(pg P p).size<=2900):AW (ofL (yi 9 (yB q P p)))=some (q+1,p,pg P p):=by
 have hl:(bl (pg P p)).length=(pg P p).size:=rfl;have hf:=Cg 9 (yB q P p) [] c_ c_ (by rw[zm];omega);rw[I_] at hf;have h4:(wu (q+1) 4++wu p 4++bl (pg P p))=wu (q+1) 4++(wu p 4++bl (pg P p)):=K_ ..;have hv:wz ((yB q P p).take 4)=q+1:=by unfold yB;rw[h4,L_ (we _ _),xA];exact z_ o_
 have hd:(yB q P p).drop 4=wu p 4++bl (pg P p):=by unfold yB;rw[h4];exact P_ (we _ _)
 have hv2:wz (((yB q P p).drop 4).take 4)=p:=by rw[hd,L_ (we _ _),xA];exact z_ o_
 have hd8:(yB q P p).drop 8=bl (pg P p):=by
  have:(yB q P p).drop 8=((yB q P p).drop 4).drop 4:=by rw[List.drop_drop]
  rw[this,hd];exact P_ (we _ _)
 unfold AW;have e1:w9 (bl (ofL (yi 9 (yB q P p))))=(⟨(9:Nat),ofL (yB q P p)⟩,(((yB q P p).length+5:Nat):Int),0):=hf;have e2:bl (ofL (yB q P p))=yB q P p:=rfl;rw[e1];dsimp only;rw[e2,hv,hv2,hd8,if_pos ⟨rfl,rfl,by rw[Dt,zm];omega⟩];rfl
section
variable {q:Nat} {P:List ByteArray} {h:ByteArray} {l:List DWrite}
theorem Ground.len4 (g:Ground q P h l):(P4 q P h l).length=201:=by unfold P4;rw[wQ];exact g.len3
theorem K3 (g:Ground q P h l)(j:Nat)(hj:j<101):pg (P2 q P l) j=pg P j:=by unfold P2;rw[zb (by rw[g.len];omega) (λw hw=>(g.frw w hw).1),zG,Z_];intro w hw;obtain⟨k,_,rfl⟩:=zJ.1 hw;show ((101+k:Nat):Int)≠(j:Int);omega
theorem Ef {l:List DWrite}(h1:l.Pairwise λa b=>a.page≠b.page){w:DWrite}(hw:w∈l):xh l w.page=some w.text:=by
 induction l with
 |nil=>cases hw
 |cons v l ih =>
  rw[N_] at h1;rw[xh];rcases g_.1 hw with rfl|hw
  . rw[zG λu hu e=>h1.1 u hu e.symm];dsimp only;rw[if_pos rfl]
  . rw[ih h1.2 hw]
theorem Jp (g:Ground q P h l)(k:Nat)(hk:k<l.length):pg (P2 q P l) (101+k)=ofL (yi 9 (yB q P (l[k]).page.toNat)):=by
 unfold P2;have:=g.fit.len;rw[zb (by rw[g.len];omega) (λw hw=>(g.frw w hw).1)];have hone:(yy q P l).Pairwise λa b=>a.page≠b.page:=by rw[n9];intro i j hi hj hij;rw[xu] at hi hj;have e1:=Ap q P l i hi;have e2:=Ap q P l j hj;rw[gge (by rw[xu];exact hi)] at e1;rw[gge (by rw[xu];exact hj)] at e2;rw[i_.inj e1,i_.inj e2];show ((101+i:Nat):Int)≠((101+j:Nat):Int);omega
 have:=Ef hone (zJ.2 ⟨k,hk,rfl⟩);rw[show (frW q P k l[k]).page=((101+k:Nat):Int) from rfl] at this;rw[this];rfl
theorem Ih (g:Ground q P h l)(j:Nat)(hj:101+l.length<=j)(hj2:j<201):pg (P2 q P l) j=pg P j:=by unfold P2;rw[zb (by rw[g.len];omega) (λw hw=>(g.frw w hw).1),zG,Z_];intro w hw;obtain⟨k,_,rfl⟩:=zJ.1 hw;show ((101+k:Nat):Int)≠(j:Int);omega
theorem Jq (g:Ground q P h l){w:DWrite}(hw:w∈l):pg (P3 q P l) w.page.toNat=w.text:=by have hp:=g.fit.page w hw;unfold P3;rw[zb (by rw[g.len2];omega) (λw hw=>(g.okl w hw).1),show ((w.page.toNat:Nat):Int)=w.page by omega,Ef g.fit.one hw];rfl
theorem CF (g:Ground q P h l)(j:Nat)(hj:j<201)(hne:∀w∈l,w.page≠(j:Int)):pg (P3 q P l) j=pg (P2 q P l) j:=by unfold P3;rw[zb (by rw[g.len2];exact hj) (λw hw=>(g.okl w hw).1),zG hne];rfl
theorem Hr (g:Ground q P h l)(j:Nat)(hj:j<201):pg (P4 q P h l) j=if j=0 then hB q h else pg (P3 q P l) j:=by
 unfold P4;rw[zb (by rw[g.len3];exact hj) (λw hw=>by rw[List.mem_singleton.1 hw];exact g6 _)];show (xh [⟨0,hB q h⟩] (j:Int)).getD _=_;rw[xh,xh];dsimp only;by_cases h0:j=0
 . rw[if_pos h0,if_pos o_];rfl
 . rw[if_neg h0,if_neg o_];rfl
theorem Jo (g:Ground q P h l){w:DWrite}(hw:w∈l):pg (P4 q P h l) w.page.toNat=w.text:=by have hp:=g.fit.page w hw;rw[Hr g _ o_,if_neg o_,Jq g hw]
theorem Ek (g:Ground q P h l)(j:Nat)(h1:1<=j)(hj:j<101)(hne:∀w∈l,w.page≠(j:Int)):pg (P4 q P h l) j=pg P j:=by rw[Hr g j o_,if_neg o_,CF g j o_ hne,K3 g j hj]
theorem Jb (g:Ground q P h l)(n:Nat)(hn:(zy q P h l).length=n){i:Int}(hi:i=(n:Int)-1:=by first|rfl|decide):idx (zy q P h l) i=some ⟨P4 q P h l,[]⟩:=by subst hi;rw[zz] at hn;have:((n:Int)-1)=((2*l.length+4:Nat):Int):=o_;rw[this,xF];unfold zy;rw[M6 (by rw[zx];exact p8 _),zx,Nat.sub_self];rfl
theorem Ground.size4 (g:Ground q P h l):∀s∈P4 q P h l,s.size<=3500:=(yQ (FD g.mayH)).pages
theorem KU (g:Ground q P h l):SeqOk ⟨P4 q P h l,[]⟩ (q+1) h:=by refine⟨⟨o8 g.len4,C1 _,g.size4,λw h=>by cases h⟩,g.len4,?_⟩;rw[Bv,Hr g 0 c_,if_pos rfl];exact EF (q+1) g.more h g.fit.head
end
def xH (q:Nat)(h:ByteArray):DDisk:=⟨(q_ 201 (ofL [])).set 0 (hN q h),[]⟩
theorem KH:idx (q_ ((201:Int).toNat) ((G_ #[]):ByteArray)) 0=some (G_ #[]):=by unfold idx;rw[if_neg c_];show (q_ 201 (G_ #[]))[0]? = _;rw[Y_,if_pos c_]
theorem K4 (j:Nat):pg (q_ 201 (ofL [])) j=ofL []:=by unfold pg;rw[v_,Y_];split <;> rfl
theorem KX (q:Nat)(h:ByteArray)(hq:q<=2147483647)(hh:h.size<=2900):SeqOk (xH q h) q h:=by
 have hl:(xH q h).pages.length=201:=by show ((q_ 201 (ofL [])).set 0 (hN q h)).length=201;rw[H_,L6]
 refine⟨⟨o8 hl,C1 _,λs hs=>?_,λw hw=>by cases hw⟩,hl,?_⟩
 . rcases B2 hs with h1|h1
   . rw[List.eq_of_mem_replicate h1];decide
   . rw[h1];show (yi 8 (wu q 4++bl h)).length<=3500;have e:(bl h).length=h.size:=rfl;rw[yx,a_,we];omega
 . show CD (pg ((q_ 201 (ofL [])).set 0 (hN q h)) 0)=_;rw[Br _ _ _ _ (by rw[L6];decide),if_pos rfl];exact EF q hq h hh
end
section
section
variable {F:Nat} [Big F] {q:Nat} {P:List ByteArray} {h t:ByteArray} {l:List DWrite}
theorem KD (g:Ground q P h l){k:Nat}(hk:k<l.length):AW (ofL (yi 9 (yB q P (l[k]).page.toNat)))=some (q+1,(l[k]).page.toNat,pg P (l[k]).page.toNat) :=
 Jk q g.more P _ (by have:=g.fit.page _ (l_ hk);omega) (g.small _ (l_ hk))
theorem JC (g:Ground q P h l){k:Nat}(hk:k<l.length){n p:Nat}{t:ByteArray}(ho:AW (ofL (yi 9 (yB q P (l[k]).page.toNat)))=some (n,p,t)):n=q+1/\1<=p/\p<101/\t=pg P p:=by rw[KD g hk] at ho;have hp:=g.fit.page _ (l_ hk);obtain⟨rfl,h2⟩:=Prod.mk.inj (i_.inj ho);obtain⟨rfl,rfl⟩:=Prod.mk.inj h2;exact⟨rfl,by omega,by omega,rfl⟩
theorem K6 (g:Ground q P h l)(hq:∀i,101<=i->i<201->zC q (pg P i))(i:Nat)(h1:101<=i)(h2:i<201):zC q (pg (P2 q P l) i)\/∃k,∃hk:k<l.length,i=101+k/\pg (P2 q P l) i=ofL (yi 9 (yB q P (l[k]).page.toNat)):=by
 by_cases hk:i-101<l.length
 . refine .inr ⟨i-101,hk,by omega,?_⟩;have:=Jp g (i-101) hk;rw[show 101+(i-101)=i by omega] at this;exact this
 . left;rw[Ih g i o_ h2];exact hq i h1 h2
theorem K1 (g:Ground q P h l)(hq:∀i,101<=i->i<201->zC q (pg P i)):Done ⟨P4 q P h l,[]⟩ (q+1) h:=by
 refine⟨KU g,rfl,λi h1 h2=>?_⟩;show zC (q+1) (pg (P4 q P h l) i);rw[Hr g i h2,if_neg o_,CF g i h2 (λw hw=>by have:=g.fit.page w hw;omega)];rcases K6 g hq i h1 h2 with hqu|⟨k,hk,_,e⟩
 . exact hqu.mono o_
 . rw[e];intro n p t ho;have:=(JC g hk ho).1;omega
end
end
section
def SpO (p e:DElem):Prop:=cmpS (wg p) (wg e)<0
theorem SpO.irrefl {e:DElem}(h:SpO e e):False:=by unfold SpO at h;rw[wq.refl] at h;omega
theorem SpO.asymm {a b:DElem}(h:SpO a b)(k:SpO b a):False:=by unfold SpO at h k;have:=wq.neg (wg a) (wg b);omega
theorem SpO.trans {a b c:DElem}(h:SpO a b)(k:SpO b c):SpO a c:=wq.lt_trans h k
theorem AG {l:List DElem}(h:l.Pairwise Bef):l.Pairwise SpO:=h.imp λhb=>hb.1
theorem EW:∀ {l m:List DElem},l.Pairwise SpO->m.Pairwise SpO->(∀e,e∈l↔e∈m)->l=m
 |[],[],_,_,_=>rfl
 |[],b::m,_,_,h=>by have:=(h b).2 s_;simp at this
 |a::l,[],_,_,h=>by have:=(h a).1 s_;simp at this
 |a::l,b::m,hl,hm,h=>by
  rw[N_] at hl hm
  have hab:a=b:=by
   have h1:=(h a).1 s_;have h2:=(h b).2 s_;rcases g_.1 h1 with h1|h1
   . exact h1
   . rcases g_.1 h2 with h2|h2
     . exact h2.symm
     . exact(SpO.asymm (hm.1 a h1) (hl.1 b h2)).elim
  subst hab;congr 1;refine EW hl.2 hm.2 λe=>?_;constructor
  . intro he;rcases g_.1 ((h e).1 (j_ _ he)) with h1|h1
    . subst h1;exact(SpO.irrefl (hl.1 _ he)).elim
    . exact h1
  . intro he;rcases g_.1 ((h e).2 (j_ _ he)) with h1|h1
    . subst h1;exact(SpO.irrefl (hm.1 _ he)).elim
    . exact h1
def Gl (l:List DElem)(s:DSpot):List DElem:=l.filter λx=>decide (cmpS (wg x) s<0)
def Gh (l:List DElem)(s:DSpot):List DElem:=l.filter λx=>decide (0<cmpS (wg x) s)
def GD (l:List DElem)(e:DElem):List DElem:=Gl l (wg e)++e::Gh l (wg e)
theorem Ds {l:List DElem}{s:DSpot}{x:DElem}:x∈Gl l s↔x∈l/\cmpS (wg x) s<0:=by simp[Gl]
theorem Bm {l:List DElem}{s:DSpot}{x:DElem}:x∈Gh l s↔x∈l/\0<cmpS (wg x) s:=by simp[Gh]
theorem FR {l:List DElem}{e x:DElem}:x∈GD l e↔x=e\/x∈l/\wg x≠wg e:=by
 unfold GD;rw[J_,g_,Ds,Bm];have h0:=wq.zero (wg x) (wg e);constructor
 . rintro(⟨h1,h2⟩|h1|⟨h1,h2⟩)
   . exact .inr ⟨h1,λh=>by rw[h0.2 h] at h2;omega⟩
   . exact .inl h1
   . exact .inr ⟨h1,λh=>by rw[h0.2 h] at h2;omega⟩
 . rintro(h1|⟨h1,h2⟩)
   . exact .inr (.inl h1)
   . rcases Int.lt_trichotomy (cmpS (wg x) (wg e)) 0 with h|h|h
     . exact .inl ⟨h1,h⟩
     . exact(h2 (h0.1 h)).elim
     . exact .inr (.inr ⟨h1,h⟩)
theorem CE {l:List DElem}(h:l.Pairwise SpO)(e:DElem):(GD l e).Pairwise SpO:=by
 unfold GD;rw[m9,N_];refine⟨h.sublist S_,⟨λx hx=>wq.pos.1 (Bm.1 hx).2,h.sublist S_⟩,λa ha b hb=>?_⟩;have h1:=(Ds.1 ha).2;rcases g_.1 hb with rfl|hb
 . exact h1
 . exact wq.lt_trans h1 (wq.pos.1 (Bm.1 hb).2)
def Ag (t:Int)(e:DElem):DElem:=if t<e.gone then { e with gone:=0 } else e
def Et (l:List DElem)(pfs t:Int):List DElem:=(l.filter λe=>decide (e.made<=t)&&e.key.pfs==pfs).map (Ag t)
def KE (l:List DElem)(pfs from_ to:Int):List DElem:=(Et l pfs to).filter λe=>decide (from_<wT e)
theorem AU (t:Int)(e:DElem):(Ag t e).key=e.key:=by unfold Ag;split <;> rfl
theorem Bz (t:Int)(e:DElem):(Ag t e).made=e.made:=by unfold Ag;split <;> rfl
theorem Iv (t:Int)(e:DElem):(Ag t e).val=e.val:=by unfold Ag;split <;> rfl
theorem DD (t:Int)(e:DElem):wg (Ag t e)=wg e:=by unfold wg;rw[AU,Bz]
theorem DB (t:Int)(e:DElem):(Ag t e).gone=if t<e.gone then 0 else e.gone:=by unfold Ag;split <;> rfl
theorem JI {t:Int}{e:DElem}(h:wm e=0):wm (Ag t e)=0:=by obtain⟨h1,h2,h3,h4,h5⟩:=xN h;unfold wm;rw[AU,Bz,Iv,DB,if_neg (by rw[h1];simp),if_neg,if_neg o_];split <;> omega
theorem H7 {l:List DElem}{pfs t:Int}{x:DElem}:x∈Et l pfs t↔∃e∈l,e.made<=t/\e.key.pfs=pfs/\x=Ag t e:=by
 simp only[Et,List.mem_map,List.mem_filter,L4,decide_eq_true_eq,beq_iff_eq];constructor
 . rintro⟨e,⟨h1,h2,h3⟩,rfl⟩;exact⟨e,h1,h2,h3,rfl⟩
 . rintro⟨e,h1,h2,h3,rfl⟩;exact⟨e,⟨h1,h2,h3⟩,rfl⟩
theorem Run.upto {l:List DElem}(h:Run l)(pfs t:Int):Run (Et l pfs t):=by
 refine⟨?_,λx hx=>?_,?_⟩
 . unfold Et;rw[List.length_map];exact p7 (List.length_filter_le _ _) h.len
 . obtain⟨e,he,_,_,rfl⟩:=H7.1 hx;exact JI (h.ok e he)
 . unfold Et;rw[List.pairwise_map];refine(h.ord.sublist S_).imp_of_mem λ{a b} ha hb hab=>?_;have hb':b.made<=t:=by have:=(List.mem_filter.1 hb).2;simp at this;exact this.1
   refine⟨by rw[DD,DD];exact hab.1,λhk=>?_⟩;rw[AU,AU] at hk;have:=hab.2 hk;rw[DB,Bz,if_neg o_];exact this
theorem Run.fresh {l:List DElem}(h:Run l)(pfs a b:Int):Run (KE l pfs a b):=(h.upto pfs b).sub S_
end
section
variable {F:Nat} [Big F]
def SpotO (a b:DSpot):Prop:=cmpS a b<0
def zE (s:DSpot):DElem:=⟨s.key,s.made,0,G_ #[]⟩
def xx (l:List DElem)(k:Nat)(e:DElem):Option Int:=if wm e≠0 then some (wm e) else match k with
  |0=>none
  |j+1=>match l[j]? with
   |some p=>if 0<=cmpS (wg p) (wg e) then some 3 else none
   |none=>none
def FO (n:DNode):Int:=if 0<n.kids.length\/0<n.seps.length\/0<n.tids.length then 3 else if 8<n.elems.length then 2 else (n.elems.zipIdx.findSome? λp=>xx n.elems p.2 p.1).getD 0
def As (ts:List Int)(k:Nat)(e:Int):Option Int:=if e<0\/400<=e then some 1 else if (ts[k]?).getD 0<0\/2147483647<(ts[k]?).getD 0 then some 9 else none
def B7 (l:List DSpot)(k:Nat)(s:DSpot):Option Int:=if wm (zE s)≠0 then some (wm (zE s)) else match k with
  |0=>none
  |j+1=>match l[j]? with
   |some p=>if 0<=cmpS p s then some 3 else none
   |none=>none
def Dj (n:DNode):Int:=if 0<n.elems.length\/n.kids.length<2\/n.seps.length+1≠n.kids.length\/n.tids.length≠n.kids.length then 3 else if 8<n.kids.length then 2 else match n.kids.zipIdx.findSome? λp=>As n.tids p.2 p.1 with
  |some e=>e
  |none=>(n.seps.zipIdx.findSome? λp=>B7 n.seps p.2 p.1).getD 0
def wy (n:DNode):Int:=if n.kind=0 then if 0<n.elems.length\/0<n.kids.length\/0<n.seps.length\/0<n.tids.length then 3 else 0 else if n.kind=1 then FO n else if n.kind=2 then Dj n else 3
theorem EK (n:DNode):oX F n=some (FO n):=by
 unfold oX FO;simp only[R_,m0,decide_eq_true_eq];by_cases h:0<n.kids.length\/0<n.seps.length\/0<n.tids.length
 . rw[if_pos h,if_pos o_]
 rw[if_neg h,if_neg o_];by_cases h8:8<n.elems.length
 . rw[if_pos h8,if_pos o_]
 rw[if_neg h8,if_neg o_];rw[tD n.elems (λk e=>(xx n.elems k e).map v8) (.inl ()) o_ rfl (λk e hk hb=>?_) s_]
 . rw[xE,obs];cases(n.elems.zipIdx.findSome? λp=>xx n.elems p.2 p.1) <;> rfl
 . have hkl:=(ggs.1 hk).1;rw[if_pos o_,vD,hk,obs,wM,obs];unfold xx;by_cases hc:wm e=0
   . rw[if_neg (show ¬ ((wm e !=0)=true) by simpa using hc),if_neg (show ¬ (wm e≠0) by simpa using hc)]
     cases k with
     |zero=>rw[if_neg (show ¬ ((0:Int)<((0:Nat):Int)) by omega),w64 o_ o_];rfl
     |succ j =>
      obtain⟨p,hp⟩:∃p,n.elems[j]? = some p:=⟨_,gge o_⟩;have e1:IntKind.i64.wrap (((j+1:Nat):Int)-1)=(j:Int):=(by rw[w64 o_ o_];omega);rw[if_pos (show (0:Int)<((j+1:Nat):Int) by omega),e1,vD,hp];simp only[obs,wr,wH,decide_eq_true_eq,hp];by_cases hs:0<=cmpS (wg p) (wg e)
      . rw[if_pos hs,if_pos hs];rfl
      . rw[if_neg hs,if_neg hs,w64 o_ o_];rfl
   . rw[if_pos (show ((wm e !=0)=true) by simpa using hc),if_pos (show (wm e≠0) by simpa using hc)];rfl
theorem DN (n:DNode)(hn:n.kids.length<=9000000000000000000)(hs:n.seps.length<=9000000000000000000):oe F n=some (Dj n):=by
 unfold oe Dj;simp only[R_,m0,decide_eq_true_eq,bne_iff_ne,ne_eq];rw[w64 (n:=(n.kids.length:Int)-1) o_ o_];by_cases h:0<n.elems.length\/n.kids.length<2\/n.seps.length+1≠n.kids.length\/n.tids.length≠n.kids.length
 . rw[if_pos h,if_pos o_]
 rw[if_neg h,if_neg o_];by_cases h8:8<n.kids.length
 . rw[if_pos h8,if_pos o_]
 rw[if_neg h8,if_neg o_];rw[tD n.kids (λk e=>(As n.tids k e).map v8) (.inl ()) o_ rfl (λk e hk hb=>?_) s_]
 . rw[xE,obs]
   cases(n.kids.zipIdx.findSome? λp=>As n.tids p.2 p.1) with
   |some e=>rfl
   |none =>
    show (iter _ F (0:Int)).bind _=_;rw[tD n.seps (λk e=>(B7 n.seps k e).map v8) (.inl ()) o_ rfl (λk e hk hb=>?_) s_]
    . rw[xE,obs];cases(n.seps.zipIdx.findSome? λp=>B7 n.seps p.2 p.1) <;> rfl
    . have hkl:=(ggs.1 hk).1;rw[if_pos o_,vD,hk,obs,wM,obs];unfold B7;show (if ¬ wm (zE e)=0 then _ else _)=_;by_cases hc:wm (zE e)=0
      . rw[if_neg (show ¬ ¬ (wm (zE e)=0) by simpa using hc),if_neg (show ¬ (wm (zE e)≠0) by simpa using hc)]
        cases k with
        |zero=>rw[if_neg (show ¬ ((0:Int)<((0:Nat):Int)) by omega),w64 o_ o_];rfl
        |succ j =>
         obtain⟨p,hp⟩:∃p,n.seps[j]? = some p:=⟨_,gge o_⟩;have e1:IntKind.i64.wrap (((j+1:Nat):Int)-1)=(j:Int):=(by rw[w64 o_ o_];omega);rw[if_pos (show (0:Int)<((j+1:Nat):Int) by omega),e1,vD,hp];simp only[obs,wH,decide_eq_true_eq,hp];by_cases hs:0<=cmpS p e
         . rw[if_pos hs,if_pos hs];rfl
         . rw[if_neg hs,if_neg hs,w64 o_ o_];rfl
      . rw[if_pos (show ¬ (wm (zE e)=0) from hc),if_pos (show (wm (zE e)≠0) from hc)];rfl
 . have hkl:=(ggs.1 hk).1;rw[if_pos o_,vD,hk,obs];unfold As;by_cases h1:e<0\/400<=e
   . rw[if_pos h1,if_pos h1];rfl
   . obtain⟨t,ht⟩:∃t,n.tids[k]? = some t:=⟨_,gge o_⟩;rw[if_neg h1,if_neg h1,vD,ht,obs,B3];by_cases h2:t<0\/2147483647<t
     . rw[if_pos h2,if_pos h2];rfl
     . rw[if_neg h2,if_neg h2,w64 o_ o_];rfl
structure Small (n:DNode):Prop where
 elems:n.elems.length<=9000000000000000000
 kids:n.kids.length<=9000000000000000000
 seps:n.seps.length<=9000000000000000000
 tids:n.tids.length<=9000000000000000000
theorem zv (n:DNode)(h:Small n):mc F n=some (wy n):=by
 unfold mc wy;simp only[R_,m0,decide_eq_true_eq,beq_iff_eq];by_cases h0:n.kind=0
 . rw[if_pos h0,if_pos h0];by_cases h1:0<n.elems.length\/0<n.kids.length\/0<n.seps.length\/0<n.tids.length
   . rw[if_pos h1,if_pos o_]
   . rw[if_neg h1,if_neg o_]
 rw[if_neg h0,if_neg h0];by_cases h1:n.kind=1
 . rw[if_pos h1,if_pos h1,EK];rfl
 rw[if_neg h1,if_neg h1];by_cases h2:n.kind=2
 . rw[if_pos h2,if_pos h2,DN n h.kids h.seps];rfl
 . rw[if_neg h2,if_neg h2]
structure Leaf (n:DNode):Prop where
 kids:n.kids=[]
 seps:n.seps=[]
 tids:n.tids=[]
 len:n.elems.length<=8
 ok:∀e∈n.elems,wm e=0
 ord:n.elems.Pairwise SpO
structure Inner (n:DNode):Prop where
 elems:n.elems=[]
 two:2<=n.kids.length
 eight:n.kids.length<=8
 seps:n.seps.length+1=n.kids.length
 tids:n.tids.length=n.kids.length
 kid:∀k∈n.kids,0<=k/\k<400
 tid:∀t∈n.tids,0<=t/\t<=2147483647
 ok:∀s∈n.seps,wm (zE s)=0
 ord:n.seps.Pairwise SpotO
theorem yu {α:Type}{R:α->α->Prop}(ht:∀a b c,R a b->R b c->R a c):∀ {l:List α},(∀j p e,l[j]? = some p->l[j+1]? = some e->R p e)->l.Pairwise R
 |[],_=>List.Pairwise.nil
 |[a],_=>List.pairwise_singleton _ _
 |a::b::l,h=>by
  have ih:=yu ht (l:=b::l) λj p e h1 h2=>h (j+1) p e h1 h2;have hab:=h 0 a b rfl rfl;rw[N_];refine⟨λx hx=>?_,ih⟩;rcases g_.1 hx with rfl|hx
  . exact hab
  . rw[N_] at ih;exact ht _ _ _ hab (ih.1 x hx)
theorem xl {α:Type}{R:α->α->Prop}{l:List α}(h:l.Pairwise R){i j:Nat}{a b:α}(hij:i<j)(ha:l[i]? = some a)(hb:l[j]? = some b):R a b:=by obtain⟨h1,rfl⟩:=ggs.1 ha;obtain⟨h2,rfl⟩:=ggs.1 hb;exact n9.1 h i j h1 h2 hij
theorem xW {l:List DElem}{k:Nat}{e:DElem}:xx l k e=none↔wm e=0/\∀j p,k=j+1->l[j]? = some p->SpO p e:=by
 unfold xx;by_cases hc:wm e=0
 . rw[if_neg (by simpa using hc)]
   cases k with
   |zero=>exact⟨λ_=>⟨hc,λj p h=>by omega⟩,λ_=>rfl⟩
   |succ j =>
    dsimp only;constructor
    . intro h;refine⟨hc,λj' p hj hp=>?_⟩;obtain rfl:j=j':=o_;rw[hp] at h;dsimp only at h;split at h
      . cases h
      . unfold SpO;omega
    . rintro⟨_,h⟩
      cases hp:l[j]? with
      |none=>rfl
      |some p=>have:=h j p rfl hp;unfold SpO at this;dsimp only;rw[if_neg o_]
 . rw[if_pos (by simpa using hc)];constructor
   . intro h;cases h
   . exact λh=>absurd h.1 hc
theorem Bw {l:List DSpot}{k:Nat}{e:DSpot}:B7 l k e=none↔wm (zE e)=0/\∀j p,k=j+1->l[j]? = some p->SpotO p e:=by
 unfold B7;by_cases hc:wm (zE e)=0
 . rw[if_neg (by simpa using hc)]
   cases k with
   |zero=>exact⟨λ_=>⟨hc,λj p h=>by omega⟩,λ_=>rfl⟩
   |succ j =>
    dsimp only;constructor
    . intro h;refine⟨hc,λj' p hj hp=>?_⟩;obtain rfl:j=j':=o_;rw[hp] at h;dsimp only at h;split at h
      . cases h
      . unfold SpotO;omega
    . rintro⟨_,h⟩
      cases hp:l[j]? with
      |none=>rfl
      |some p=>have:=h j p rfl hp;unfold SpotO at this;dsimp only;rw[if_neg o_]
 . rw[if_pos (by simpa using hc)];constructor
   . intro h;cases h
   . exact λh=>absurd h.1 hc
theorem EU {l:List DElem}{k:Nat}{e:DElem}:xx l k e≠some 0:=by
 unfold xx;by_cases hc:wm e=0
 . rw[if_neg (by simpa using hc)]
   cases k with
   |zero=>simp
   |succ j=>dsimp only;split <;> (try split) <;> simp
 . rw[if_pos (by simpa using hc)];simpa using hc
theorem F7 {l:List DSpot}{k:Nat}{e:DSpot}:B7 l k e≠some 0:=by
 unfold B7;by_cases hc:wm (zE e)=0
 . rw[if_neg (by simpa using hc)]
   cases k with
   |zero=>simp
   |succ j=>dsimp only;split <;> (try split) <;> simp
 . rw[if_pos (by simpa using hc)];simpa using hc
theorem FM {l:List Int}{k:Nat}{e:Int}:As l k e≠some 0:=by
 unfold As;split
 . simp
 . split <;> simp
theorem D5 {α:Type}{l:List α}{w:Nat->α->Option Int}(hw:∀k e,w k e≠some 0):((l.zipIdx.findSome? λp=>w p.2 p.1).getD 0=0)↔∀k e,l[k]? = some e->w k e=none:=by
 rw[<-vo]
 cases hf:(l.zipIdx.findSome? λp=>w p.2 p.1) with
 |none=>simp
 |some r =>
  obtain⟨k,e,_,h⟩:=vp hf;constructor
  . intro h0;simp at h0;subst h0;exact absurd h (hw k e)
  . intro h0;cases h0
theorem GI {n:DNode}:FO n=0↔Leaf n:=by
 unfold FO;by_cases h:0<n.kids.length\/0<n.seps.length\/0<n.tids.length
 . rw[if_pos h];constructor
   . intro h0;cases h0
   . rintro⟨h1,h2,h3,_⟩;rw[h1,h2,h3] at h;simp at h
 rw[if_neg h];have e1:n.kids=[]:=U_.1 o_;have e2:n.seps=[]:=U_.1 o_;have e3:n.tids=[]:=U_.1 o_;by_cases h8:8<n.elems.length
 . rw[if_pos h8];constructor
   . intro h0;cases h0
   . intro h0;have:=h0.len;omega
 rw[if_neg h8,D5 (w:=xx n.elems) (λk e=>EU)];constructor
 . intro hn;refine⟨e1,e2,e3,by omega,λe he=>?_,yu (R:=SpO) (l:=n.elems) (λa b c h1 h2=>SpO.trans h1 h2) (λj p e hp he=>?_)⟩
   . obtain⟨k,hk⟩:=D_.1 he;exact(xW.1 (hn k e hk)).1
   . exact(xW.1 (hn (j+1) e he)).2 j p rfl hp
 . intro hl k e hk;refine xW.2 ⟨hl.ok e (F_ hk),λj p hj hp=>xl hl.ord (i:=j) (j:=k) o_ hp hk⟩
theorem SpotO.trans {a b c:DSpot}(h:SpotO a b)(k:SpotO b c):SpotO a c:=wq.lt_trans h k
theorem FH {n:DNode}:Dj n=0↔Inner n:=by
 unfold Dj;by_cases h:0<n.elems.length\/n.kids.length<2\/n.seps.length+1≠n.kids.length\/n.tids.length≠n.kids.length
 . rw[if_pos h];constructor
   . intro h0;cases h0
   . rintro⟨h1,h2,h3,h4,h5,_⟩;rw[h1] at h;simp at h;omega
 rw[if_neg h];have e1:n.elems=[]:=U_.1 o_;by_cases h8:8<n.kids.length
 . rw[if_pos h8];constructor
   . intro h0;cases h0
   . intro h0;have:=h0.eight;omega
 rw[if_neg h8]
 have hkids:(∀k e,n.kids[k]? = some e->As n.tids k e=none)↔(∀k∈n.kids,0<=k/\k<400)/\∀t∈n.tids,0<=t/\t<=2147483647:=by
  constructor
  . intro hn;refine⟨λe he=>?_,λt ht=>?_⟩
    . obtain⟨k,hk⟩:=D_.1 he;have:=hn k e hk;unfold As at this;split at this
      . cases this
      . omega
    . obtain⟨k,hk⟩:=D_.1 ht;have hkl:=(ggs.1 hk).1;have:=hn k _ (gge (show k<n.kids.length by omega));unfold As at this;rw[hk] at this;split at this
      . cases this
      . split at this
        . cases this
        . rename_i h2 h3;simp only[B3] at h3;omega
  . rintro⟨h1,h2⟩ k e hk;have hkl:=(ggs.1 hk).1;have g1:=h1 e (F_ hk);have hlt:k<n.tids.length:=o_;have g2:=h2 _ (l_ hlt);unfold As;rw[if_neg o_,gge hlt,B3,if_neg o_]
 cases hf:(n.kids.zipIdx.findSome? λp=>As n.tids p.2 p.1) with
 |some r =>
  obtain⟨k,e,hk,hr⟩:=vp hf;dsimp only;constructor
  . intro h0;subst h0;exact absurd hr FM
  . intro hi;have:=hkids.2 ⟨hi.kid,hi.tid⟩ k e hk;rw[this] at hr;cases hr
 |none =>
  have hk:=hkids.1 (vo.1 hf);dsimp only;rw[D5 (w:=B7 n.seps) (λk e=>F7)];constructor
  . intro hn;refine⟨e1,by omega,by omega,by omega,by omega,hk.1,hk.2,λe he=>?_,yu (R:=SpotO) (l:=n.seps) (λa b c h1 h2=>SpotO.trans h1 h2) (λj p e hp he=>?_)⟩
    . obtain⟨k,hk⟩:=D_.1 he;exact(Bw.1 (hn k e hk)).1
    . exact(Bw.1 (hn (j+1) e he)).2 j p rfl hp
  . intro hl k e hk;refine Bw.2 ⟨hl.ok e (F_ hk),λj p hj hp=>xl hl.ord (i:=j) (j:=k) o_ hp hk⟩
def KZ (n:DNode):Prop:=n.elems=[]/\n.kids=[]/\n.seps=[]/\n.tids=[]
theorem wE {n:DNode}:wy n=0↔(n.kind=0/\KZ n)\/(n.kind=1/\Leaf n)\/(n.kind=2/\Inner n):=by
 unfold wy KZ;by_cases h0:n.kind=0
 . rw[if_pos h0];have:(n.elems=[]/\n.kids=[]/\n.seps=[]/\n.tids=[])↔¬ (0<n.elems.length\/0<n.kids.length\/0<n.seps.length\/0<n.tids.length):=by rw[<-U_,<-U_,<-U_,<-U_];omega
   rw[this];split
   . rename_i h;simp[h0,h]
   . rename_i h;simp[h0,h]
 rw[if_neg h0];by_cases h1:n.kind=1
 . rw[if_pos h1,GI];simp[h1]
 rw[if_neg h1];by_cases h2:n.kind=2
 . rw[if_pos h2,FH];simp[h2]
 . rw[if_neg h2];simp[h0,h1,h2]
def maxI (a b:Int):Int:=if a<b then b else a
def wo (n:DNode):Int:=n.tids.foldl maxI (n.elems.foldl (λt e=>maxI t (wT e)) 0)
theorem xi (n:DNode)(h:Small n):iZ F n=some (wo n):=by
 unfold iZ wo;have h1:=h.elems;have h2:=h.tids;rw[vq n.elems (λt e=>maxI t (wT e)) 0 (r:=n.elems.foldl (λt e=>maxI t (wT e)) 0) o_ rfl (λk e hk=>?_) s_,obs]
 . rw[vq n.tids maxI (n.elems.foldl (λt e=>maxI t (wT e)) 0) (r:=n.tids.foldl maxI (n.elems.foldl (λt e=>maxI t (wT e)) 0)) o_ rfl (λk e hk=>?_) s_,obs];have hkl:=(ggs.1 hk).1;dsimp only;rw[decide_eq_true o_,cond_true,vD,hk,obs,w64 o_ o_];rfl
 . have hkl:=(ggs.1 hk).1;dsimp only;rw[decide_eq_true o_,cond_true,vD,hk,obs,BJ,obs,w64 o_ o_];rfl
theorem Cj {α:Type}(g:α->Int):∀(l:List α) (a:Int),a<=l.foldl (λt e=>maxI t (g e)) a/\(∀e∈l,g e<=l.foldl (λt e=>maxI t (g e)) a)/\(l.foldl (λt e=>maxI t (g e)) a=a\/∃e∈l,g e=l.foldl (λt e=>maxI t (g e)) a)
 |[],a=>⟨g6 _,λe he=>by simp at he,.inl rfl⟩
 |x::l,a=>by
  obtain⟨h1,h2,h3⟩:=Cj g l (maxI a (g x));rw[x_];have hm:a<=maxI a (g x)/\g x<=maxI a (g x)/\(maxI a (g x)=a\/maxI a (g x)=g x):=by unfold maxI;split <;> omega
  refine⟨by omega,λe he=>?_,?_⟩
  . rcases g_.1 he with rfl|he
    . omega
    . exact h2 e he
  . rcases h3 with h3|⟨e,he,h3⟩
    . rcases hm.2.2 with h4|h4
      . left;omega
      . right;exact⟨x,by simp,by omega⟩
    . right;exact⟨e,j_ _ he,h3⟩
theorem Bf (n:DNode):(∀e∈n.elems,wT e<=wo n)/\(∀t∈n.tids,t<=wo n)/\(wo n=0\/(∃e∈n.elems,wT e=wo n)\/∃t∈n.tids,t=wo n):=by
 unfold wo;obtain⟨h1,h2,h3⟩:=Cj wT n.elems 0;obtain⟨g1,g2,g3⟩:=Cj (λt=>t) n.tids (n.elems.foldl (λt e=>maxI t (wT e)) 0);have ee:(λt e=>maxI t ((λt=>t) e))=maxI:=rfl;rw[ee] at g1 g2 g3;refine⟨λe he=>Int.le_trans (h2 e he) g1,g2,?_⟩;rcases g3 with g3|⟨t,ht,g3⟩
 . rw[g3];rcases h3 with h3|⟨e,he,h3⟩
   . exact .inl h3
   . exact .inr (.inl ⟨e,he,h3⟩)
 . exact .inr (.inr ⟨t,ht,g3⟩)
def yE (l:List DSpot)(s:DSpot):Nat:=(l.takeWhile λx=>decide (cmpS x s<=0)).length
theorem CZ (l:List DSpot)(s:DSpot):yE l s<=l.length:=(List.takeWhile_sublist _).length_le
theorem Fe (l:List DSpot)(s:DSpot):(∀j x,j<yE l s->l[j]? = some x->cmpS x s<=0)/\∀x,l[yE l s]? = some x->¬ cmpS x s<=0:=by
 unfold yE
 induction l with
 |nil=>exact⟨λj x _ h=>by simp at h,λx h=>by simp at h⟩
 |cons a l ih =>
  by_cases ha:cmpS a s<=0
  . rw[List.takeWhile_cons_of_pos (by simpa using ha),y_];refine⟨λj x hj hx=>?_,λx hx=>ih.2 x hx⟩
    cases j with
    |zero=>cases hx;exact ha
    |succ j=>exact ih.1 j x o_ hx
  . rw[List.takeWhile_cons_of_neg (by simpa using ha)];exact⟨λj x hj _=>by simp at hj,λx hx=>by cases hx;exact ha⟩
theorem yA (n:DNode)(s:DSpot)(h:Small n):mF F n s=some (yE n.seps s:Int):=by
 unfold mF;have h1:=h.seps;have hle:=CZ n.seps s;obtain⟨w1,w2⟩:=Fe n.seps s;rw[qi (s:=0) (λk=>(k:Int)) (yE n.seps s) (r:=(yE n.seps s:Int)) rfl o_ (λk hk=>?_) ?_,obs]
 . by_cases hl:yE n.seps s<n.seps.length
   . have hx:=gge hl;rw[decide_eq_true o_,cond_true,vD,hx,obs,wH,obs,obs,decide_eq_false (w2 _ hx),cond_false]
   . rw[decide_eq_false o_,cond_false,obs,cond_false]
 . have hx:=gge (show k<n.seps.length by omega);rw[decide_eq_true o_,cond_true,vD,hx,obs,wH,obs,obs,decide_eq_true (w1 k _ hk hx),cond_true,w64 o_ o_];rfl
end
section
open Go.ChangeShapes
variable {F:Nat} [Big F]
def eb (a b c d g:Nat)(v:List UInt8):List UInt8:=wu a 1++(wu b 4++(wu c 4++(wu d 4++(wu g 4++(wu v.length 1++v)))))
def mkE (a b c d g:Nat)(v:List UInt8):DElem:=⟨⟨a,b,c⟩,d,g,ofL v⟩
def Fit (a b c d g:Nat)(v:List UInt8):Prop:=a<=15/\b<=1048576/\c<=1073741824/\1<=d/\d<=2147483647/\(g=0\/d<g/\g<=2147483647)/\v.length<=40
theorem D0 (a b c d g:Nat)(v:List UInt8):(eb a b c d g v).length=18+v.length:=by simp[eb,we];omega
theorem Gy {e:DElem}(h:wm e=0):∃a b c d g v,e=mkE a b c d g v/\Fit a b c d g v:=by
 obtain⟨⟨pfs,obj,off⟩,made,gone,val⟩:=e;obtain⟨v,rfl⟩:=Gw val;obtain⟨h1,h2,h3,h4,h5⟩:=xN h;unfold BH at h1;dsimp only at h1 h2 h3 h4 h5;split at h1
 . cases h1
 . rename_i h1';refine⟨pfs.toNat,obj.toNat,off.toNat,made.toNat,gone.toNat,v,?_,by omega,by omega,by omega,by omega,by omega,by omega,h5⟩;unfold mkE;congr 1
   . congr 1 <;> omega
   . omega
   . omega
theorem EA {a b c d g:Nat}{v:List UInt8}(h:Fit a b c d g v):wm (mkE a b c d g v)=0:=by obtain⟨h1,h2,h3,h4,h5,h6,h7⟩:=h;unfold wm BH mkE;dsimp only;rw[if_neg (by rw[if_neg o_];simp),if_neg o_,if_neg (show ¬ 40<(ofL v).size from (by omega:¬ 40<v.length))]
theorem Dd {e:DElem}(h:wm e≠0):mO F e=some (ofL [],wm e):=by have hbig:Big F:=inferInstance;unfold mO;rw[wM,wd,show (wm e !=0)=true by simpa using h,wt];rfl
theorem CJ {a b c d g:Nat}{v:List UInt8}(h:Fit a b c d g v):mO F (mkE a b c d g v)=some (ofL (eb a b c d g v),0):=by
 unfold mO;have hv:=h.2.2.2.2.2.2;have p:∀n m:Nat,m<=100->jT F (n:Int) (m:Int)=some (ofL (wu n m)):=yl;rw[wM,wd,EA h,show ((0:Int) !=0)=false by decide,wi];dsimp only[mkE];have q1:jT F (a:Int) 1=some (ofL (wu a 1)):=p a 1 c_;have q2:jT F (b:Int) 4=some (ofL (wu b 4)):=p b 4 c_;have q3:jT F (c:Int) 4=some (ofL (wu c 4)):=p c 4 c_;have q4:jT F (d:Int) 4=some (ofL (wu d 4)):=p d 4 c_;have q5:jT F (g:Int) 4=some (ofL (wu g 4)):=p g 4 c_;have q6:jT F ((ofL v).size:Int) 1=some (ofL (wu v.length 1)):=p v.length 1 c_;have s:∀x y:List UInt8,x.length<=100->y.length<=100->mn (ofL x) (ofL y)=some (ofL (x++y)):=λx y hx hy=>xo o_
 rw[q1,wd,q2,wd,s _ _ (by simp[we]) (by simp[we]),wd,q3,wd,s _ _ (by simp[we]) (by simp[we]),wd,q4,wd,s _ _ (by simp[we]) (by simp[we]),wd,
  q5,wd,s _ _ (by simp[we]) (by simp[we]),wd,q6,wd,s _ _ (by simp[we]) (by simp[we]),wd,s _ _ (by simp[we]) o_,wd]
 simp only[eb,K_]
def slc (l:List UInt8)(a b:Nat):List UInt8:=(l.take b).drop a
def Kt:DElem:=⟨⟨0,0,0⟩,0,0,ofL []⟩
def DL (l:List UInt8):DElem:=mkE (l.getD 0 0).toNat (wz (slc l 1 5)) (wz (slc l 5 9)) (wz (slc l 9 13)) (wz (slc l 13 17)) (slc l 18 (18+(l.getD 17 0).toNat))
def wX (l:List UInt8):DElem×Int×Int:=if l.length<18\/l.length<18+(l.getD 17 0).toNat then (Kt,0,7) else if wm (DL l)≠0 then (Kt,0,3) else (DL l,((18+(l.getD 17 0).toNat:Nat):Int),0)
theorem zc {l:List UInt8}{a b:Nat}(h:a<=b)(hb:b<=l.length):jL (ofL l) (a:Int) (b:Int)=some (ofL (slc l a b)):=by rw[xd o_ o_ o_,d_,d_];rfl
theorem xY {l:List UInt8}{a b:Nat}(hb:b<=l.length):(slc l a b).length=b-a:=by rw[slc,t_,u_];omega
theorem Hz {l:List UInt8}{k:Nat}(h:k<l.length):qv (ofL l) (k:Int)=some (l.getD k 0):=by rw[zM,if_pos o_,d_,v_,gge h];rfl
theorem Cx (l:List UInt8):oy F (ofL l)=some (wX l):=by
 unfold oy wX;have hb:=(l.getD 17 0).toNat_lt;have w1:IntKind.i64.wrap ((l.getD 17 0).toNat:Int)=((l.getD 17 0).toNat:Int):=wA o_ o_;have w2:IntKind.i64.wrap (18+((l.getD 17 0).toNat:Int))=((18+(l.getD 17 0).toNat:Nat):Int):=by rw[wA o_ o_];omega
 by_cases h18:l.length<18
 . rw[if_pos (.inl h18),decide_eq_true (show ((ofL l).size:Int)<18 from (by omega:(l.length:Int)<18)),wt,wd,wt];rfl
 . have hi17:qv (ofL l) 17=some (l.getD 17 0):=Hz (k:=17) o_;have hi0:qv (ofL l) 0=some (l.getD 0 0):=Hz (k:=0) o_;rw[decide_eq_false (show ¬ ((ofL l).size:Int)<18 from (by omega:¬ (l.length:Int)<18)),wi,hi17,wd,w1,w2,wd];by_cases hn:l.length<18+(l.getD 17 0).toNat
   . rw[if_pos (.inr hn),decide_eq_true (show ((ofL l).size:Int)<((18+(l.getD 17 0).toNat:Nat):Int) from (by omega:(l.length:Int)<_)),wt];rfl
   . have g:∀x y:Nat,x<=y->y<=17->y-x<=7->kZ F (ofL (slc l x y))=some ((wz (slc l x y):Nat):Int):=λx y h1 h2 h3=>xU _ (by rw[xY o_];exact h3);have s1:jL (ofL l) 1 5=some (ofL (slc l 1 5)):=zc (a:=1) (b:=5) c_ o_;have s2:jL (ofL l) 5 9=some (ofL (slc l 5 9)):=zc (a:=5) (b:=9) c_ o_;have s3:jL (ofL l) 9 13=some (ofL (slc l 9 13)):=zc (a:=9) (b:=13) c_ o_;have s4:jL (ofL l) 13 17=some (ofL (slc l 13 17)):=zc (a:=13) (b:=17) c_ o_;have s5:jL (ofL l) 18 ((18+(l.getD 17 0).toNat:Nat):Int)=some (ofL (slc l 18 (18+(l.getD 17 0).toNat))):=zc (a:=18) o_ o_;have hb0:=(l.getD 0 0).toNat_lt
     rw[if_neg o_,decide_eq_false (show ¬ ((ofL l).size:Int)<((18+(l.getD 17 0).toNat:Nat):Int) from (by omega:¬ (l.length:Int)<_)),wi,hi0,wd,w1,w2,wd,s5,wd,s1,wd,g 1 5 c_ c_ c_,wd,wd,
      s2,wd,g 5 9 c_ c_ c_,wd,wd,s3,wd,g 9 13 c_ c_ c_,wd,wd,s4,wd,g 13 17 c_ c_ c_,wd,wd,wM,wd,
      wA (n:=((l.getD 0 0).toNat:Int)) o_ o_]
     have hgot:DElem.mk (DKey.mk ((l.getD 0 0).toNat:Int) ((wz (slc l 1 5):Nat):Int) ((wz (slc l 5 9):Nat):Int)) ((wz (slc l 9 13):Nat):Int) ((wz (slc l 13 17):Nat):Int) (ofL (slc l 18 (18+(l.getD 17 0).toNat)))=DL l:=rfl;rw[hgot];by_cases hc:wm (DL l)=0
     . rw[hc,show ((0:Int) !=0)=false by decide,wi,if_neg s_]
     . rw[show (wm (DL l) !=0)=true by simpa using hc,wt,if_pos hc];rfl
theorem CY {n:Nat}(h:n<4294967296):wz (wu n 4)=n:=by rw[xA];exact z_ h
theorem KF {a b c d g:Nat}{v:List UInt8}(h:Fit a b c d g v)(more:List UInt8):((eb a b c d g v++more).getD 17 0).toNat=v.length/\DL (eb a b c d g v++more)=mkE a b c d g v:=by
 obtain⟨h1,h2,h3,h4,h5,h6,h7⟩:=h;have e17:((eb a b c d g v++more).getD 17 0).toNat=v.length:=by show (f_ (v.length / 256 ^ 0)).toNat=_;rw[E6,Nat.div_one,O_];exact z_ o_
 refine⟨e17,?_⟩;unfold DL;rw[e17];have e0:((eb a b c d g v++more).getD 0 0).toNat=a:=by show (f_ (a / 256 ^ 0)).toNat=_;rw[E6,Nat.div_one,O_];exact z_ o_
 have s1:slc (eb a b c d g v++more) 1 5=wu b 4:=rfl;have s2:slc (eb a b c d g v++more) 5 9=wu c 4:=rfl;have s3:slc (eb a b c d g v++more) 9 13=wu d 4:=rfl;have s4:slc (eb a b c d g v++more) 13 17=wu g 4:=rfl;have s5:slc (eb a b c d g v++more) 18 (18+v.length)=v:=by rw[slc,E0];show List.take (18+v.length-18) (v++more)=v;rw[N8];exact L_ rfl
 rw[e0,s1,s2,s3,s4,s5,CY o_,CY o_,CY o_,CY o_]
theorem JO {a b c d g:Nat}{v:List UInt8}(h:Fit a b c d g v)(more:List UInt8):wX (eb a b c d g v++more)=(mkE a b c d g v,((18+v.length:Nat):Int),0):=by obtain⟨e1,e2⟩:=KF h more;unfold wX;rw[e1,e2,if_neg (by rw[a_,D0];omega),EA h,if_neg s_]
theorem JV {l:List UInt8}(h:(wX l).2.2=0):∃a b c d g v,Fit a b c d g v/\18+v.length<=l.length/\wX l=(mkE a b c d g v,((18+v.length:Nat):Int),0)/\eb a b c d g v=l.take (18+v.length):=by
 unfold wX at h ⊢;by_cases h1:l.length<18\/l.length<18+(l.getD 17 0).toNat
 . rw[if_pos h1] at h;cases h
 rw[if_neg h1] at h ⊢;by_cases h2:wm (DL l)≠0
 . rw[if_pos h2] at h;cases h
 rw[if_neg h2];have h3:wm (DL l)=0:=Decidable.not_not.1 h2;have hfit:Fit (l.getD 0 0).toNat (wz (slc l 1 5)) (wz (slc l 5 9)) (wz (slc l 9 13)) (wz (slc l 13 17)) (slc l 18 (18+(l.getD 17 0).toNat)):=by obtain⟨a,b,c,d,g,v,he,hf⟩:=Gy h3;simp only[DL,mkE,DElem.mk.injEq,DKey.mk.injEq,Hq] at he;obtain⟨⟨ea,eb',ec⟩,ed,eg,ev⟩:=he;rw[ev,show (l.getD 0 0).toNat=a by omega,show wz (slc l 1 5)=b by omega,show wz (slc l 5 9)=c by omega,show wz (slc l 9 13)=d by omega,show wz (slc l 13 17)=g by omega];exact hf
 have hn:(slc l 18 (18+(l.getD 17 0).toNat)).length=(l.getD 17 0).toNat:=by rw[xY o_];omega
 refine⟨_,_,_,_,_,_,hfit,by rw[hn];omega,by rw[hn];rfl,?_⟩;rw[hn,eb,hn];have b1:∀x:UInt8,wu x.toNat 1=[x]:=λx=>by simp[wu]
 have b4:∀x:List UInt8,x.length=4->wu (wz x) 4=x:=λx hx=>by have:=Ew x;rwa[hx] at this
 rw[b1,b1,b4 _ (xY o_),b4 _ (xY o_),b4 _ (xY o_),b4 _ (xY o_)];have ts:∀x y,x<=y->l.take y=l.take x++slc l x y:=λx y h=>by have:=M7 x (l.take y);rw[List.take_take,Nat.min_eq_left h] at this;exact this.symm
 have one:∀k,k<l.length->slc l k (k+1)=[l.getD k 0]:=λk hk=>by rw[slc,E0,N8,List.drop_eq_getElem_cons hk,v_,gge hk,N0];rfl
 rw[ts 18 (18+(l.getD 17 0).toNat) o_,ts 17 18 c_,ts 13 17 c_,ts 9 13 c_,ts 5 9 c_,ts 1 5 c_,ts 0 1 c_,List.take_zero,one 0 o_,one 17 o_];simp only[M_,K_]
def ebE (e:DElem):List UInt8:=eb e.key.pfs.toNat e.key.obj.toNat e.key.off.toNat e.made.toNat e.gone.toNat e.val.data.toList
theorem yW (e:DElem):(ebE e).length=18+e.val.size:=D0 _ _ _ _ _ _
theorem Fv {e:DElem}(h:wm e=0)(more:List UInt8):wX (ebE e++more)=(e,((18+e.val.size:Nat):Int),0):=by obtain⟨a,b,c,d,g,v,rfl,hf⟩:=Gy h;exact JO hf more
theorem AX (e:DElem):mO F e=some (if wm e=0 then (ofL (ebE e),0) else (ofL [],wm e)):=by
 by_cases h:wm e=0
 . rw[if_pos h];obtain⟨a,b,c,d,g,v,rfl,hf⟩:=Gy h;exact CJ hf
 . rw[if_neg h];exact Dd h
theorem HC {e:DElem}(h:wm e=0):e.val.size<=40:=(xN h).2.2.2.2
theorem Dg:∀es:List DElem,(∀e∈es,wm e=0)->(es.flatMap ebE).length<=58*es.length
 |[],_=>by simp
 |e::es,h=>by have h1:=Dg es (λx hx=>h x (j_ _ hx));have h2:=HC (h e (C_));rw[g8,a_,yW,y_];omega
end
section
open Go.ChangeShapes
variable {F:Nat} [Big F]
def DJ:Nat->List DElem->List UInt8->List DElem×Int
 |0,acc,_=>(acc,0)
 |m+1,acc,l=>if l=[] then (acc,0) else if (wX l).2.2≠0 then ([],(wX l).2.2) else DJ m (acc++[(wX l).1]) (l.drop (wX l).2.1.toNat)
def Gj (l:List UInt8):List DElem×Int:=DJ (l.length+1) [] l
theorem ET {l:List UInt8}:seq (ofL l) (G_ #[])=decide (l=[]):=by have:=Kj l [];rw[show (G_ #[])=ofL [] from rfl,this];cases l <;> rfl
theorem Ez {l:List UInt8}(h:(wX l).2.2=0):∃n:Nat,(wX l).2.1=(n:Int)/\18<=n/\n<=l.length/\ebE (wX l).1=l.take n/\wm (wX l).1=0:=by obtain⟨a,b,c,d,g,v,hf,h1,h2,h3⟩:=JV h;refine⟨18+v.length,by rw[h2],by omega,h1,by rw[h2];exact h3,by rw[h2];exact EA hf⟩
theorem Fz (l:List UInt8)(hl:l.length<=1000000):pX F (ofL l)=some (Gj l):=by
 unfold pX Gj;refine vG (R:=λm s q=>∃acc l,s=(acc,ofL l)/\l.length<m/\acc.length+l.length<=1000000/\q=DJ m acc l) (λm s q h=>?_) (m:=l.length+1) o_ ⟨[],l,rfl,by omega,by simpa using hl,rfl⟩;obtain⟨acc,l,rfl,h1,h2,rfl⟩:=h;obtain⟨m,rfl⟩:∃k,m=k+1:=⟨m-1,by omega⟩;dsimp only;rw[ET,DJ];by_cases h0:l=[]
 . rw[if_pos h0,decide_eq_true h0,L8,cond_false];exact .inl ⟨_,rfl,rfl⟩
 rw[if_neg h0,decide_eq_false h0,L9,cond_true,Cx,obs];by_cases hc:(wX l).2.2=0
 . obtain⟨n,e1,e2,e3,e4,e5⟩:=Ez hc;have hsl:jL (ofL l) (wX l).2.1 ((ofL l).size:Int)=some (ofL (l.drop n)):=by rw[e1,xd o_ (show ((n:Nat):Int)<=((ofL l).size:Int) from by have:(ofL l).size=l.length:=rfl;omega) (g6 _),d_,d_];rw[show (ofL l).size=l.length from rfl,p_]
   have hl0:=List.length_pos_iff.2 h0;rw[if_neg (by simpa using hc),vd hc,cond_false,vM (by simp;omega) (by simp;omega),obs,hsl,obs,e1,d_];refine .inr ⟨m,_,by omega,rfl,_,_,rfl,?_,?_,rfl⟩
   . rw[t_];omega
   . rw[a_,t_,T_];omega
 . rw[if_pos hc,vn hc,cond_true];exact .inl ⟨_,rfl,rfl⟩
theorem Fm:∀(m:Nat) (acc:List DElem) (l:List UInt8),(DJ m acc l).1.length<=acc.length+l.length
 |0,acc,l=>by rw[DJ];dsimp only;omega
 |m+1,acc,l=>by
  rw[DJ];by_cases h0:l=[]
  . rw[if_pos h0];dsimp only;omega
  rw[if_neg h0];by_cases hc:(wX l).2.2=0
  . obtain⟨n,e1,e2,e3,_⟩:=Ez hc;rw[if_neg (by simpa using hc)];have:=Fm m (acc++[(wX l).1]) (l.drop (wX l).2.1.toNat);rw[e1,d_,a_,T_,t_] at this;rw[e1,d_];omega
  . rw[if_pos hc];simp
theorem Fl:∀(m:Nat) (acc es:List DElem),(∀e∈es,wm e=0)->(es.flatMap ebE).length<m->DJ m acc (es.flatMap ebE)=(acc++es,0)
 |0,acc,es,_,h=>by omega
 |m+1,acc,[],_,h=>by rw[DJ,if_pos (by rfl)];simp
 |m+1,acc,e::es,he,h=>by have hc:=Fv (he e s_) (es.flatMap ebE);have hl:=yW e;rw[g8] at h ⊢;rw[DJ,if_neg (by intro h0;have:=congrArg List.length h0;rw[a_,hl] at this;simp at this),hc,if_neg s_];dsimp only;rw[d_,P_ hl,Fl m _ es (λx hx=>he x (j_ _ hx)) (by rw[a_] at h;omega)];simp
def xz:List Int->List Int->List DSpot->List UInt8
 |k::ks,t::ts,s::ss=>wu k.toNat 2++(wu t.toNat 4++(ebE (zE s)++xz ks ts ss))
 |_,_,_=>[]
def yJ:List Int->List Int->List DSpot->List UInt8
 |k::ks,t::ts,ss=>wu k.toNat 2++(wu t.toNat 4++xz ks ts ss)
 |_,_,_=>[]
def xV:Nat->List DSpot->List Int->List Int->List UInt8->Nat->DNode×Bool
 |0,ss,ts,ks,_,_=>(⟨2,[],ks,ss,ts⟩,true)
 |m+1,ss,ts,ks,l,i=>if l=[] then (⟨2,[],ks,ss,ts⟩,true) else if l.length<6 then (⟨2,[],ks,ss,ts⟩,false) else if i=0 then xV m ss (ts++[(wz (slc l 2 6):Int)]) (ks++[(wz (slc l 0 2):Int)]) (l.drop 6) 1 else if (wX (l.drop 6)).2.2≠0\/(wX (l.drop 6)).1.gone≠0\/(wX (l.drop 6)).1.val≠ofL [] then (⟨2,[],ks++[(wz (slc l 0 2):Int)],ss,ts++[(wz (slc l 2 6):Int)]⟩,false) else xV m (ss++[wg (wX (l.drop 6)).1]) (ts++[(wz (slc l 2 6):Int)]) (ks++[(wz (slc l 0 2):Int)]) ((l.drop 6).drop (wX (l.drop 6)).2.1.toNat) (i+1)
def Ed (l:List UInt8):DNode×Bool:=xV (l.length+1) [] [] [] l 0
theorem EN (l:List UInt8)(hl:l.length<=1000000):pd F (ofL l)=some (Ed l):=by
 unfold pd Ed;refine vG (R:=λm s q=>∃ss ts ks l i,s=(ss,ts,ks,ofL l,((i:Nat):Int))/\l.length<m/\ss.length+l.length<=1000000/\ts.length+l.length<=1000000/\ks.length+l.length<=1000000/\i+l.length<=1000000/\q=xV m ss ts ks l i) (λm s q h=>?_) (m:=l.length+1) o_
  ⟨[],[],[],l,0,rfl,by omega,by simpa using hl,by simpa using hl,by simpa using hl,by omega,rfl⟩
 obtain⟨ss,ts,ks,l,i,rfl,h1,h2,h3,h4,h5,rfl⟩:=h;obtain⟨m,rfl⟩:∃k,m=k+1:=⟨m-1,by omega⟩;dsimp only;have hsz:(ofL l).size=l.length:=rfl;rw[ET,xV,hsz];by_cases h0:l=[]
 . rw[if_pos h0,decide_eq_true h0,L8,cond_false];exact .inl ⟨_,rfl,rfl⟩
 rw[if_neg h0,decide_eq_false h0,L9,cond_true];by_cases h6:l.length<6
 . rw[if_pos h6,decide_eq_true o_,cond_true,obs];exact .inl ⟨_,rfl,rfl⟩
 rw[if_neg h6,decide_eq_false o_,cond_false];have s1:jL (ofL l) 0 2=some (ofL (slc l 0 2)):=zc (a:=0) (b:=2) o_ o_;have s2:jL (ofL l) 2 6=some (ofL (slc l 2 6)):=zc (a:=2) (b:=6) o_ o_;have s3:jL (ofL l) 6 (l.length:Int)=some (ofL (l.drop 6)):=by have:=zc (l:=l) (a:=6) (b:=l.length) o_ o_;rw[slc,p_] at this;exact this
 have b1:kZ F (ofL (slc l 0 2))=some ((wz (slc l 0 2):Nat):Int):=xU _ (by rw[xY o_];omega);have b2:kZ F (ofL (slc l 2 6))=some ((wz (slc l 2 6):Nat):Int):=xU _ (by rw[xY o_];omega);rw[s1,obs,b1,obs,vM (by simp;omega) (by simp;omega),obs,s2,obs,b2,obs,vM (by simp;omega) (by simp;omega),obs,s3,obs];have hd:(l.drop 6).length=l.length-6:=t_;by_cases hi:i=0
 . rw[if_pos hi,hi];rw[show (((0:Nat):Int)==0)=true from rfl,cond_true,obs];refine .inr ⟨m,_,by omega,rfl,_,_,_,_,1,rfl,?_,?_,?_,?_,?_,rfl⟩
   all_goals (try rw[a_]);(try rw[T_]);omega
 . rw[if_neg hi,show (((i:Nat):Int)==0)=false by simp;omega,cond_false,Cx,obs];have hv:seq (wX (l.drop 6)).1.val (G_ #[])=decide ((wX (l.drop 6)).1.val=ofL []):=by rw[w6,sZ,decide_eq_true_eq];rfl
   rw[hv];by_cases hb:(wX (l.drop 6)).2.2≠0\/(wX (l.drop 6)).1.gone≠0\/(wX (l.drop 6)).1.val≠ofL []
   . rw[if_pos hb];have:((wX (l.drop 6)).2.2 !=0||((wX (l.drop 6)).1.gone !=0||!decide ((wX (l.drop 6)).1.val=ofL [])))=true:=(by simpa using hb);rw[this,cond_true,obs];exact .inl ⟨_,rfl,rfl⟩
   . rw[if_neg hb];have:((wX (l.drop 6)).2.2 !=0||((wX (l.drop 6)).1.gone !=0||!decide ((wX (l.drop 6)).1.val=ofL [])))=false:=by simpa using hb
     have hc:(wX (l.drop 6)).2.2=0:=by
      rcases Classical.em ((wX (l.drop 6)).2.2=0) with h|h
      . exact h
      . exact absurd (.inl h) hb
     obtain⟨n,e1,e2,e3,e4,e5⟩:=Ez hc;have s5:jL (ofL (l.drop 6)) (wX (l.drop 6)).2.1 ((ofL (l.drop 6)).size:Int)=some (ofL ((l.drop 6).drop n)):=(by have:=zc (l:=l.drop 6) (a:=n) (b:=(l.drop 6).length) o_ o_;rw[slc,p_] at this;rw[e1];exact this);rw[this,cond_false,wr,obs,vM (by simp;omega) (by simp;omega),obs,s5,obs,obs,e1,d_];dsimp only;rw[w64 o_ o_];refine .inr ⟨m,_,by omega,rfl,_,_,_,_,i+1,rfl,?_,?_,?_,?_,?_,rfl⟩
     all_goals (try rw[a_]);(try rw[T_]);(try rw[t_]);omega
theorem Cl:∀(m:Nat) (ss:List DSpot) (ts ks:List Int) (l:List UInt8) (i:Nat),(xV m ss ts ks l i).1.kids.length<=ks.length+l.length/\(xV m ss ts ks l i).1.seps.length<=ss.length+l.length/\(xV m ss ts ks l i).1.tids.length<=ts.length+l.length/\(xV m ss ts ks l i).1.elems=[]/\(xV m ss ts ks l i).1.kind=2
 |0,ss,ts,ks,l,i=>by rw[xV];exact⟨by simp,by simp,by simp,rfl,rfl⟩
 |m+1,ss,ts,ks,l,i=>by
  rw[xV];by_cases h0:l=[]
  . rw[if_pos h0];exact⟨by simp,by simp,by simp,rfl,rfl⟩
  rw[if_neg h0];by_cases h6:l.length<6
  . rw[if_pos h6];exact⟨by simp,by simp,by simp,rfl,rfl⟩
  rw[if_neg h6];by_cases hi:i=0
  . rw[if_pos hi];obtain⟨h1,h2,h3,h4,h5⟩:=Cl m ss (ts++[(wz (slc l 2 6):Int)]) (ks++[(wz (slc l 0 2):Int)]) (l.drop 6) 1;rw[a_,T_,t_] at h1 h3;rw[t_] at h2;exact⟨by omega,by omega,by omega,h4,h5⟩
  rw[if_neg hi];by_cases hb:(wX (l.drop 6)).2.2≠0\/(wX (l.drop 6)).1.gone≠0\/(wX (l.drop 6)).1.val≠ofL []
  . rw[if_pos hb];refine⟨?_,by simp,?_,rfl,rfl⟩ <;> (dsimp only;rw[a_,T_];omega)
  . rw[if_neg hb];obtain⟨h1,h2,h3,h4,h5⟩:=Cl m (ss++[wg (wX (l.drop 6)).1]) (ts++[(wz (slc l 2 6):Int)]) (ks++[(wz (slc l 0 2):Int)]) ((l.drop 6).drop (wX (l.drop 6)).2.1.toNat) (i+1);rw[a_,T_,t_,t_] at h1 h2 h3;exact⟨by omega,by omega,by omega,h4,h5⟩
def IA (k t:Int):Prop:=0<=k/\k<65536/\0<=t/\t<4294967296
theorem HA {k t:Int}(h:IA k t)(r:List UInt8):(wz (slc (wu k.toNat 2++(wu t.toNat 4++r)) 0 2):Int)=k/\(wz (slc (wu k.toNat 2++(wu t.toNat 4++r)) 2 6):Int)=t/\(wu k.toNat 2++(wu t.toNat 4++r)).drop 6=r:=by
 obtain⟨h1,h2,h3,h4⟩:=h;have l2:=we k.toNat 2;have l4:=we t.toNat 4;have e1:slc (wu k.toNat 2++(wu t.toNat 4++r)) 0 2=wu k.toNat 2:=by rw[slc,L_ l2];rfl
 have e2:slc (wu k.toNat 2++(wu t.toNat 4++r)) 2 6=wu t.toNat 4:=by rw[slc,<-K_,L_ (by rw[a_,l2,l4]),P_ l2]
 refine⟨?_,?_,?_⟩
 . rw[e1,xA,z_ o_];omega
 . rw[e2,xA,z_ o_];omega
 . rw[<-K_,P_ (by rw[a_,l2,l4])]
theorem Cv (s:DSpot):(ebE (zE s)).length=18:=by rw[yW];rfl
theorem Dq:∀(m:Nat) (ss:List DSpot) (ts ks:List Int) (i:Nat) (k2 t2:List Int) (s2:List DSpot),k2.length=s2.length->t2.length=s2.length->(∀(j:Nat) (k t:Int),k2[j]? = some k->t2[j]? = some t->IA k t)->(∀s∈s2,wm (zE s)=0)->1<=i->(xz k2 t2 s2).length<m ->
 xV m ss ts ks (xz k2 t2 s2) i=(⟨2,[],ks++k2,ss++s2,ts++t2⟩,true)
 |0,ss,ts,ks,i,k2,t2,s2,_,_,_,_,_,h=>by omega
 |m+1,ss,ts,ks,i,[],[],[],_,_,_,_,_,h=>by rw[xV,if_pos (show xz [] [] []=[] from rfl)];simp
 |m+1,ss,ts,ks,i,k::k2,t::t2,s::s2,h1,h2,h3,h4,h5,h=>by
  obtain⟨g1,g2,g3⟩:=HA (h3 0 k t rfl rfl) (ebE (zE s)++xz k2 t2 s2);have hc:=Fv (h4 s s_) (xz k2 t2 s2);have hz:=Cv s;have hlen:(wu k.toNat 2++(wu t.toNat 4++(ebE (zE s)++xz k2 t2 s2))).length=24+(xz k2 t2 s2).length:=by rw[a_,a_,a_,we,we,hz];omega
  rw[xz] at h ⊢;rw[xV,if_neg (by intro h0;rw[h0] at hlen;simp at hlen;omega),if_neg o_,if_neg (show ¬ i=0 by omega),g1,g2,g3,hc];rw[if_neg (by simp[zE];rfl)];dsimp only;rw[d_,P_ (show (ebE (zE s)).length=18+(zE s).val.size from yW _)];rw[Dq m _ _ _ (i+1) k2 t2 s2 (by simpa using h1) (by simpa using h2) (λj=>h3 (j+1)) (λx hx=>h4 x (j_ _ hx)) o_ o_];simp[zE,wg]
 |m+1,ss,ts,ks,i,[],_::_,[],_,h2,_,_,_,_=>by simp at h2
 |m+1,ss,ts,ks,i,_::_,_,[],h1,_,_,_,_,_=>by simp at h1
 |m+1,ss,ts,ks,i,[],_,_::_,h1,_,_,_,_,_=>by simp at h1
 |m+1,ss,ts,ks,i,_::_,[],_::_,_,h2,_,_,_,_=>by simp at h2
theorem H4 {k2 t2:List Int}{s2:List DSpot}(h1:s2.length+1=k2.length)(h2:t2.length=k2.length)(h3:∀(j:Nat) (k t:Int),k2[j]? = some k->t2[j]? = some t->IA k t)(h4:∀s∈s2,wm (zE s)=0):Ed (yJ k2 t2 s2)=(⟨2,[],k2,s2,t2⟩,true):=by
 match k2,t2,h1,h2,h3 with
 |k::k2,t::t2,h1,h2,h3 =>
  obtain⟨g1,g2,g3⟩:=HA (h3 0 k t rfl rfl) (xz k2 t2 s2);have hlen:(wu k.toNat 2++(wu t.toNat 4++xz k2 t2 s2)).length=6+(xz k2 t2 s2).length:=by rw[a_,a_,we,we];omega
  unfold Ed;rw[yJ,xV,if_neg (by intro h0;rw[h0] at hlen;simp at hlen;omega),if_neg o_,if_pos rfl,g1,g2,g3];simp only[y_] at h1 h2;rw[Dq _ _ _ _ 1 k2 t2 s2 o_ o_ (λj=>h3 (j+1)) h4 o_ o_];simp
 |[],[],h1,_,_=>simp at h1
 |k::k2,[],_,h2,_=>simp at h2
 |[],t::t2,_,h2,_=>simp at h2
theorem Es (k t:Int)(s:DSpot):∀(k2 t2:List Int) (s2:List DSpot),k2.length=s2.length->t2.length=s2.length->xz (k2++[k]) (t2++[t]) (s2++[s])=xz k2 t2 s2++(wu k.toNat 2++(wu t.toNat 4++ebE (zE s)))
 |[],[],[],_,_=>by simp[xz]
 |k'::k2,t'::t2,s'::s2,h1,h2=>by simp only[l7,xz];rw[Es k t s k2 t2 s2 (by simpa using h1) (by simpa using h2)];simp
 |[],_::_,[],_,h2=>by simp at h2
 |_::_,_,[],h1,_=>by simp at h1
 |[],_,_::_,h1,_=>by simp at h1
 |_::_,[],_::_,_,h2=>by simp at h2
theorem HX (k t:Int)(s:DSpot){k2 t2:List Int}{s2:List DSpot}(h1:s2.length+1=k2.length)(h2:t2.length=k2.length):yJ (k2++[k]) (t2++[t]) (s2++[s])=yJ k2 t2 s2++(wu k.toNat 2++(wu t.toNat 4++ebE (zE s))):=by
 match k2,t2,h1,h2 with
 |k'::k2,t'::t2,h1,h2=>simp only[y_] at h1 h2;simp only[l7,yJ];rw[Es k t s k2 t2 s2 o_ o_];simp
 |[],_,h1,_=>simp at h1
 |_::_,[],_,h2=>simp at h2
theorem Er:∀(k2 t2:List Int) (s2:List DSpot),(xz k2 t2 s2).length<=24*s2.length
 |k::k2,t::t2,s::s2=>by have:=Er k2 t2 s2;rw[xz,a_,a_,a_,we,we,Cv,y_];omega
 |[],_,_=>by simp[xz]
 |_::_,[],_=>by simp[xz]
 |_::_,_::_,[]=>by simp[xz]
theorem D7 (k2 t2:List Int)(s2:List DSpot):(yJ k2 t2 s2).length<=6+24*s2.length:=by
 match k2,t2 with
 |k::k2,t::t2=>have:=Er k2 t2 s2;rw[yJ,a_,a_,we,we];omega
 |[],_=>simp[yJ]
 |_::_,[]=>simp[yJ]
def zg (n:DNode):List UInt8:=n.elems.flatMap ebE++yJ n.kids n.tids n.seps
def xf (n:DNode):List UInt8:=yi (n.kind+1).toNat (zg n)
structure Parts (n:DNode):Prop where
 kind:0<=n.kind/\n.kind<=2
 elems:n.elems.length<=8
 kids:n.kids.length<=8
 seps:n.seps.length<=7
 ok:∀e∈n.elems,wm e=0
 fit:∀(j:Nat) (k t:Int),n.kids[j]? = some k->n.tids[j]? = some t->IA k t
 sep:∀s∈n.seps,wm (zE s)=0
 tids:n.tids.length=n.kids.length
 form:(n.kids=[]/\n.tids=[]/\n.seps=[])\/(n.elems=[]/\n.seps.length+1=n.kids.length/\n.tids.length=n.kids.length)
theorem parts {n:DNode}(h:wy n=0):Parts n:=by
 rcases wE.1 h with ⟨h0,h1,h2,h3,h4⟩|⟨h0,hl⟩|⟨h0,hi⟩
 . exact⟨by omega,by simp[h1],by simp[h2],by simp[h3],by simp[h1],by simp[h2],by simp[h3],by simp[h2,h4],.inl ⟨h2,h4,h3⟩⟩
 . exact⟨by omega,hl.len,by simp[hl.kids],by simp[hl.seps],hl.ok,by simp[hl.kids],by simp[hl.seps],by simp[hl.kids,hl.tids],.inl ⟨hl.kids,hl.tids,hl.seps⟩⟩
 . have:=hi.seps;have:=hi.eight;refine⟨by omega,by simp[hi.elems],by omega,by omega,by simp[hi.elems],λj k t hk ht=>?_,hi.ok,hi.tids,.inr ⟨hi.elems,hi.seps,hi.tids⟩⟩;have h1:=hi.kid k (F_ hk);have h2:=hi.tid t (F_ ht);unfold IA;omega
theorem BG {n:DNode}(h:wy n=0):(zg n).length<=672:=by have p:=parts h;have h1:=Dg n.elems p.ok;have h2:=D7 n.kids n.tids n.seps;have h3:=p.elems;have h4:=p.seps;unfold zg;rw[a_];omega
theorem AZ (n:DNode)(hs:Small n):lq F n=some (if wy n=0 then (ofL (xf n),0) else (ofL [],wy n)):=by
 unfold lq;rw[zv n hs,obs];by_cases h:wy n=0
 . rw[vd h,cond_false,if_pos h];have p:=parts h;have h8:=p.elems;have hk8:=p.kids;have hs7:=p.seps;have hfl:∀k,((n.elems.take k).flatMap ebE).length<=58*8:=λk=>by have:=Dg (n.elems.take k) (λe he=>p.ok e (C2 he));have h2:(n.elems.take k).length<=8:=(by rw[u_];omega);omega
   rw[qi (λk=>(ofL ((n.elems.take k).flatMap ebE),(k:Int))) n.elems.length (r:=ofL (n.elems.flatMap ebE)) (by simp;rfl) o_ (λk hk=>?_) ?_,obs]
   . have hl0:=hfl n.elems.length;rw[p_] at hl0;generalize hB:n.elems.flatMap ebE=B at hl0;have hhl:∀j,(yJ (n.kids.take j) (n.tids.take j) (n.seps.take (j-1))).length<=200:=λj=>by have h1:=D7 (n.kids.take j) (n.tids.take j) (n.seps.take (j-1));have h2:(n.seps.take (j-1)).length<=7:=(by rw[u_];omega);omega
     rw[qi (λj=>(ofL (B++yJ (n.kids.take j) (n.tids.take j) (n.seps.take (j-1))),(j:Int))) n.kids.length (r:=ofL (zg n)) (by simp[yJ]) o_ (λj hj=>?_) ?_,obs]
     . have hbl:=BG h;have e1:IntKind.i64.wrap (1+n.kind)=((n.kind+1).toNat:Int):=(by rw[w64 (by have:=p.kind;omega) (by have:=p.kind;omega)];have:=p.kind;omega);rw[e1,yX _ _ (by have:=p.kind;omega) (by have:=p.kind;omega) o_,obs];rfl
     . dsimp only;rw[decide_eq_false o_,cond_false]
       have e1:n.seps.take (n.kids.length-1)=n.seps:=by
        rcases p.form with ⟨_,_,e⟩|⟨_,e,_⟩
        . rw[e];simp
        . rw[L7 o_]
       rw[p_,L7 (show n.tids.length<=n.kids.length by have:=p.tids;omega),e1,<-hB];rfl
     . have ht:=p.tids;have hf:=p.form
       obtain⟨f1,f2,f3⟩:n.elems=[]/\n.seps.length+1=n.kids.length/\n.tids.length=n.kids.length:=by
        rcases hf with ⟨e,_⟩|e
        . rw[e] at hj;simp at hj
        . exact e
       have xk:=gge hj;have xt:=gge (show j<n.tids.length by omega);obtain⟨a1,a2,a3,a4⟩:=p.fit j _ _ xk xt;have hh:=hhl j;generalize hkk:n.kids[j]=k at a1 a2 xk;generalize htt:n.tids[j]'o_=t at a3 a4 xt;have p2:jT F k 2=some (ofL (wu k.toNat 2)):=(by have:=yl (F:=F) k.toNat 2 o_;rw[M1 a1] at this;exact this);have p4:jT F t 4=some (ofL (wu t.toNat 4)):=(by have:=yl (F:=F) t.toNat 4 o_;rw[M1 a3] at this;exact this);have l2:=we k.toNat 2;have l4:=we t.toNat 4;have tk:n.kids.take (j+1)=n.kids.take j++[k]:=(by rw[B_,xk];rfl);have tt:n.tids.take (j+1)=n.tids.take j++[t]:=(by rw[B_,xt];rfl);dsimp only;rw[decide_eq_true o_,cond_true,vD,xk,obs,p2,obs,vD,xt,obs,p4,obs,xo o_,obs,xo (by rw[a_,a_];omega),obs]
       cases j with
       |zero=>rw[decide_eq_false o_,cond_false,obs,w64 o_ o_];rw[tk,tt];simp[yJ,xz]
       |succ i=>have xs:=gge (show i<n.seps.length by omega);generalize hss:n.seps[i]'o_=s at xs;have hz:=p.sep s (F_ xs);have ts:n.seps.take (i+1)=n.seps.take i++[s]:=(by rw[B_,xs];rfl);have zl:=Cv s;have cw:mO F (DElem.mk s.key s.made 0 (G_ #[]))=some (ofL (ebE (zE s)),0):=(by have:=AX (F:=F) (zE s);rw[if_pos hz] at this;exact this);have e1:IntKind.i64.wrap (((i+1:Nat):Int)-1)=(i:Int):=(by rw[w64 o_ o_];omega);rw[decide_eq_true (show (0:Int)<((i+1:Nat):Int) by omega),cond_true,e1,vD,xs,obs,obs,cw,obs];dsimp only;rw[xo (by simp only[a_];omega),obs,obs,w64 o_ o_];rw[tk,tt,show i+1+1-1=i+1 from rfl,ts,show i+1-1=i from rfl,HX k t s (by rw[u_,u_];omega) (by rw[u_,u_];omega)];simp
   . dsimp only;rw[decide_eq_false o_,cond_false,p_]
   . have xe:=gge hk;have he:=p.ok _ (l_ hk);generalize n.elems[k]=e at xe he;have hl0:=hfl k;have hle:=yW e;have hv:=HC he;dsimp only;rw[decide_eq_true o_,cond_true,vD,xe,obs,AX,obs,if_pos he];dsimp only;rw[xo o_,obs,w64 o_ o_,B_,xe];simp
 . rw[vn h,cond_true,if_neg h];rfl
def zNd:DNode:=⟨0,[],[],[],[]⟩
def BF (k:Int)(B:List UInt8):DNode×Bool:=if k=0 then (⟨k,[],[],[],[]⟩,decide (B=[])) else if k=1 then (⟨k,(Gj B).1,[],[],[]⟩,(Gj B).2==0) else if k=2 then Ed B else (⟨k,[],[],[],[]⟩,true)
def Ht (l:List UInt8):DNode×Int:=if (w9 l).2.2≠0 then (zNd,(w9 l).2.2) else if (w9 l).2.1≠(l.length:Int) then (zNd,3) else if (BF ((w9 l).1.kind-1) (w9 l).1.body.data.toList).2=true/\wy (BF ((w9 l).1.kind-1) (w9 l).1.body.data.toList).1=0 then ((BF ((w9 l).1.kind-1) (w9 l).1.body.data.toList).1,0) else (zNd,3)
theorem Fs (k:Int){B:List UInt8}(h:B.length<=3000):Small (BF k B).1:=by
 unfold BF;split
 . exact⟨by simp,by simp,by simp,by simp⟩
 . split
   . have:=Fm (B.length+1) [] B;exact⟨by show (Gj B).1.length<=_;unfold Gj;simp at this;omega,by simp,by simp,by simp⟩
   . split
     . obtain⟨h1,h2,h3,h4,_⟩:=Cl (B.length+1) [] [] [] B 0;simp only[List.length_nil] at h1 h2 h3;exact⟨by show (xV _ _ _ _ _ _).1.elems.length<=_;rw[h4];simp,by show (xV _ _ _ _ _ _).1.kids.length<=_;omega,by show (xV _ _ _ _ _ _).1.seps.length<=_;omega,by show (xV _ _ _ _ _ _).1.tids.length<=_;omega⟩
     . exact⟨by simp,by simp,by simp,by simp⟩
theorem EM (l:List UInt8)(hl:l.length<=9223372036854775807):pc F (ofL l)=some (Ht l):=by
 unfold pc Ht;rw[zU l hl,obs];have hsz:(ofL l).size=l.length:=rfl;by_cases h:(w9 l).2.2=0
 . obtain⟨k,B,g0,g1,g2,g3,g4,g5⟩:=D4 h;rw[if_neg (by simpa using h),vd h,cond_false,hsz];by_cases h2:(w9 l).2.1=(l.length:Int)
   . rw[if_neg (by simpa using h2),show ((w9 l).2.1 !=(l.length:Int))=false by simpa using h2,cond_false,g4];dsimp only;have e1:IntKind.i64.wrap ((k:Int)-1)=(k:Int)-1:=w64 o_ o_;have hb:(ofL B).data.toList=B:=rfl;rw[e1,hb];generalize hK:(k:Int)-1=K;have hsm:=Fs K g2
     have step:∀n:DNode,∀b:Bool,Small n->((bif !b then some true else (mc F n).bind λr4=>some (r4 !=0):Option Bool).bind λz7=>bif z7 then some ((DNode.mk 0 [] [] [] []),(3:Int)) else some (n,0))=some (if b=true/\wy n=0 then (n,0) else (zNd,3)):=λn b hn=>by
      rw[zv n hn];cases b
      . rw[L9,cond_true,obs,cond_true,if_neg s_];rfl
      . rw[L8,cond_false,obs,obs];by_cases hc:wy n=0
        . rw[vd hc,cond_false,if_pos ⟨rfl,hc⟩]
        . rw[vn hc,cond_true,if_neg (λhh=>hc hh.2)];rfl
     unfold BF at hsm ⊢;by_cases k0:K=0
     . rw[if_pos k0] at hsm ⊢;rw[show (K==0)=true by simpa using k0,cond_true,obs,ET];exact step _ _ hsm
     rw[if_neg k0] at hsm ⊢;rw[show (K==0)=false by simpa using k0,cond_false];by_cases k1:K=1
     . rw[if_pos k1] at hsm ⊢;rw[show (K==1)=true by simpa using k1,cond_true,Fz B o_,obs,obs];exact step _ _ hsm
     rw[if_neg k1] at hsm ⊢;rw[show (K==1)=false by simpa using k1,cond_false];by_cases k2:K=2
     . rw[if_pos k2] at hsm ⊢;rw[show (K==2)=true by simpa using k2,cond_true,EN B o_,obs,obs];exact step (Ed B).1 _ hsm
     . rw[if_neg k2] at hsm ⊢;rw[show (K==2)=false by simpa using k2,cond_false,obs];exact step _ _ hsm
   . rw[if_pos h2,show ((w9 l).2.1 !=(l.length:Int))=true by simpa using h2,cond_true];rfl
 . rw[if_pos h,vn h,cond_true];rfl
theorem HI {n:DNode}(h:wy n=0):BF n.kind (zg n)=(n,true):=by
 have p:=parts h;rcases wE.1 h with ⟨h0,h1,h2,h3,h4⟩|⟨h0,hl⟩|⟨h0,hi⟩
 . obtain⟨k,a,b,c,d⟩:=n;simp only at h0 h1 h2 h3 h4;subst h0 h1 h2 h3 h4;rfl
 . unfold BF;have e1:zg n=n.elems.flatMap ebE:=by unfold zg;rw[hl.kids];simp[yJ]
   rw[if_neg o_,if_pos h0,e1,Gj,Fl _ _ _ p.ok o_];obtain⟨k,a,b,c,d⟩:=n;have h1:=hl.kids;have h2:=hl.seps;have h3:=hl.tids;simp only at h0 h1 h2 h3;subst h0 h1 h2 h3;rfl
 . unfold BF;have e1:zg n=yJ n.kids n.tids n.seps:=by unfold zg;rw[hi.elems];simp
   rw[if_neg o_,if_neg o_,if_pos h0,e1,H4 hi.seps hi.tids p.fit p.sep];obtain⟨k,a,b,c,d⟩:=n;have h1:=hi.elems;simp only at h0 h1;subst h0 h1;rfl
theorem Az (n:DNode):(xf n).length=(zg n).length+5:=yx _ _
theorem Jl {n:DNode}(h:wy n=0)(more:List UInt8):w9 (xf n++more)=(⟨n.kind+1,ofL (zg n)⟩,(((zg n).length+5:Nat):Int),0):=by have p:=parts h;have:=BG h;have:=p.kind;unfold xf;rw[Cg _ _ _ o_ o_ o_,M1 o_]
theorem Im {n:DNode}(h:wy n=0):Ht (xf n)=(n,0):=by have hg:=Jl h [];have hl:=Az n;rw[I_] at hg;unfold Ht;rw[hg];dsimp only;rw[if_neg s_,if_neg (by rw[hl];simp),show n.kind+1-1=n.kind by omega,show (ofL (zg n)).data.toList=zg n from rfl,HI h];exact if_pos ⟨rfl,h⟩
end
section
structure Span where
 lo:DSpot
 hi:DSpot
 hasLo:Bool
 hasHi:Bool
def inS (s:Span)(x:DSpot):Bool:=(!s.hasLo||decide (cmpS s.lo x<=0))&&(!s.hasHi||decide (cmpS x s.hi<0))
def fl (e:Int):Int:=if e=0 then 3 else e
theorem D1 (e:Int):fl e≠0:=by unfold fl;split <;> omega
def nd (ns:List DNode)(i:Int):DNode:=(ns[i.toNat]?).getD ⟨0,[],[],[],[]⟩
def yp (n:DNode)(s:Span):Nat->Span
 |0=>s
 |j+1=>match n.seps[j]? with
  |some x=>{ s with lo:=x,hasLo:=true }
  |none=>s
def CK (n:DNode)(s:Span)(k:Nat):Span:=match n.seps[k]? with
 |some x=>{ s with hi:=x,hasHi:=true }
 |none=>s
def wC (n:DNode)(s:Span)(k:Nat):Span:=CK n (yp n s k) k
def wS (n:DNode)(s:Span):Nat->Bool
 |0=>false
 |j+1=>match n.seps[j]? with
  |some x=>!inS s x
  |none=>false
def unseen (l:List Bool):Nat:=l.count false
theorem DE {l:List Bool}{i:Nat}(h:l[i]? = some false):unseen (l.set i true)+1=unseen l:=by
 induction l generalizing i with
 |nil=>simp at h
 |cons a l ih =>
  cases i with
  |zero=>obtain rfl:a=false:=(by simpa using h);simp[unseen]
  |succ i =>
   have:=ih (i:=i) (by simpa using h)
   unfold unseen at *
   rw[List.set_cons_succ,C4,C4];omega
theorem Iw {l l':List Bool}(hl:l'.length=l.length)(h:∀j:Nat,l[j]? = some true->l'[j]? = some true):unseen l'<=unseen l:=by
 induction l generalizing l' with
 |nil=>obtain rfl:l'=[]:=List.eq_nil_of_length_eq_zero (by simpa using hl);exact p8 _
 |cons a l ih =>
  cases l' with
  |nil=>simp at hl
  |cons b l' =>
   have h0:=h 0;have:=ih (l':=l') (by simpa using hl) (λj hj=>by simpa using h (j+1) (by simpa using hj))
   unfold unseen at *
   rw[C4,C4];cases a <;> cases b <;> simp at h0 ⊢ <;> omega
theorem DT (l:List Bool):unseen l<=l.length:=List.count_le_length
def yj (l:List Bool)(is:List Nat):List Bool:=is.foldl (λl i=>l.set i true) l
theorem BU (l:List Bool)(a b:List Nat):yj l (a++b)=yj (yj l a) b:=X_
theorem AO (l:List Bool)(is:List Nat)(j:Nat):(yj l is)[j]? = if j∈is/\j<l.length then some true else l[j]?:=by
 induction is generalizing l with
 |nil=>simp[yj]
 |cons i is ih =>
  show (yj (l.set i true) is)[j]? = _;rw[ih,H_,Q_];by_cases h1:j∈is
  . by_cases h2:j<l.length
    . rw[if_pos (show j∈is/\j<l.length from ⟨h1,h2⟩),if_pos (show j∈i::is/\j<l.length from ⟨j_ _ h1,h2⟩)]
    . rw[if_neg (show ¬ (j∈is/\j<l.length) from λh=>h2 h.2),if_neg (show ¬ (j∈i::is/\j<l.length) from λh=>h2 h.2)];by_cases e:i=j
      . subst e;rw[if_pos rfl,if_neg h2,V_ o_]
      . rw[if_neg e]
  . rw[if_neg (show ¬ (j∈is/\j<l.length) from λh=>h1 h.1)];by_cases e:i=j
    . subst e;rw[if_pos rfl];by_cases h2:i<l.length
      . rw[if_pos h2,if_pos (show i∈i::is/\i<l.length from ⟨C_,h2⟩)]
      . rw[if_neg h2,if_neg (show ¬ (i∈i::is/\i<l.length) from λh=>h2 h.2),V_ o_]
    . rw[if_neg e,if_neg];rintro⟨h,_⟩;rcases g_.1 h with h|h
      . exact e h.symm
      . exact h1 h
abbrev VS:=List Bool×Int×Int
def xM (n:DNode)(v:VS->Int->Int->Span->VS×Int)(s:Span)(d:Int)(st:VS)(p:Int×Nat):VS:=let r:=v (st.1,st.2.1,if wS n s p.2 then fl st.2.2 else st.2.2) p.1 (d+1) (wC n s p.2);if r.2≠(n.tids[p.2]?).getD 0 then (r.1.1,r.1.2.1,fl r.1.2.2) else r.1
def vis (ns:List DNode):Nat->VS->Int->Int->Span->VS×Int
 |0,st,_,_,_=>((st.1,st.2.1,3),0)
 |m+1,st,i,d,s=>if st.2.2≠0 then (st,0) else if i<0\/(ns.length:Int)<=i\/(st.1[i.toNat]?).getD true=true\/(nd ns i).kind=0 then ((st.1,st.2.1,3),0) else if (nd ns i).kind=1 then ((st.1.set i.toNat true,if st.2.1<0 then d else st.2.1,(nd ns i).elems.foldl (λe x=>if inS s (wg x) then e else fl e) (if (if st.2.1<0 then d else st.2.1)≠d then fl (if 0<d/\(nd ns i).elems.length+(nd ns i).kids.length<4 then 3 else 0) else if 0<d/\(nd ns i).elems.length+(nd ns i).kids.length<4 then 3 else 0)),wo (nd ns i)) else ((nd ns i).kids.zipIdx.foldl (xM (nd ns i) (vis ns m) s d) (st.1.set i.toNat true,st.2.1,if 0<d/\(nd ns i).elems.length+(nd ns i).kids.length<4 then 3 else 0),wo (nd ns i))
theorem Iz (ns:List DNode)(m:Nat){st:VS}(i d:Int)(s:Span)(h:st.2.2≠0):(vis ns m st i d s).1.2.2≠0:=by
 cases m with
 |zero=>simp[vis]
 |succ m=>rw[vis,if_pos h];exact h
theorem G4 {n:DNode}{v:VS->Int->Int->Span->VS×Int}(hv:∀(st:VS) i d s,st.2.2≠0->(v st i d s).1.2.2≠0){s:Span}{d:Int}{st:VS}{p:Int×Nat}(h:(xM n v s d st p).2.2=0) :
 st.2.2=0/\wS n s p.2=false/\(v (st.1,st.2.1,0) p.1 (d+1) (wC n s p.2)).2=(n.tids[p.2]?).getD 0/\(v (st.1,st.2.1,0) p.1 (d+1) (wC n s p.2)).1.2.2=0 /\
  xM n v s d st p=(v (st.1,st.2.1,0) p.1 (d+1) (wC n s p.2)).1:=by
 have hsx:(if wS n s p.2=true then fl st.2.2 else st.2.2)=0:=by
  by_cases hz:(if wS n s p.2=true then fl st.2.2 else st.2.2)=0
  . exact hz
  . exfalso;have hst:=hv (st.1,st.2.1,if wS n s p.2=true then fl st.2.2 else st.2.2) p.1 (d+1) (wC n s p.2) hz;unfold xM at h;dsimp only at h;by_cases hr:(v (st.1,st.2.1,if wS n s p.2=true then fl st.2.2 else st.2.2) p.1 (d+1) (wC n s p.2)).2≠(n.tids[p.2]?).getD 0
    . rw[if_pos hr] at h;exact D1 _ h
    . rw[if_neg hr] at h;exact hst h
 have hb:wS n s p.2=false:=by
  cases hb:wS n s p.2 with
  |false=>rfl
  |true=>rw[hb,if_pos rfl] at hsx;exact absurd hsx (D1 _)
 have hst0:st.2.2=0:=by rw[hb] at hsx;simpa using hsx
 unfold xM at h ⊢;dsimp only at h ⊢;rw[hsx] at h ⊢;by_cases hr:(v (st.1,st.2.1,0) p.1 (d+1) (wC n s p.2)).2≠(n.tids[p.2]?).getD 0
 . rw[if_pos hr] at h;exact absurd h (D1 _)
 . rw[if_neg hr] at h ⊢;exact⟨hst0,hb,by simpa using hr,h,rfl⟩
def xK (a b:List Bool):Prop:=b.length=a.length/\∀j:Nat,a[j]? = some true->b[j]? = some true
theorem xK.refl (a:List Bool):xK a a:=⟨rfl,λ_ h=>h⟩
theorem xK.trans {a b c:List Bool}(h:xK a b)(k:xK b c):xK a c:=⟨k.1.trans h.1,λj hj=>k.2 j (h.2 j hj)⟩
theorem xK.set (a:List Bool)(i:Nat):xK a (a.set i true):=⟨H_,λj hj=>by
 rw[Q_];split
 . split
   . rfl
   . rename_i e h;subst e;rw[V_ o_] at hj;exact hj
 . exact hj⟩
theorem xK.unseen {a b:List Bool}(h:xK a b):unseen b<=unseen a:=Iw h.1 h.2
theorem CI {n:DNode}{v:VS->Int->Int->Span->VS×Int}(hv:∀st i d s,xK st.1 (v st i d s).1.1)(s:Span)(d:Int)(st:VS)(p:Int×Nat):xK st.1 (xM n v s d st p).1:=by
 have:=hv (st.1,st.2.1,if wS n s p.2 then fl st.2.2 else st.2.2) p.1 (d+1) (wC n s p.2);unfold xM;dsimp only;by_cases hr:(v (st.1,st.2.1,if wS n s p.2=true then fl st.2.2 else st.2.2) p.1 (d+1) (wC n s p.2)).2≠(n.tids[p.2]?).getD 0
 . rw[if_pos hr];exact this
 . rw[if_neg hr];exact this
theorem CB {n:DNode}{v:VS->Int->Int->Span->VS×Int}(hv:∀st i d s,xK st.1 (v st i d s).1.1)(s:Span)(d:Int)(ps:List (Int×Nat)):∀st:VS,xK st.1 (ps.foldl (xM n v s d) st).1:=by
 induction ps with
 |nil=>exact λst=>xK.refl _
 |cons p ps ih=>exact λst=>(CI hv s d st p).trans (ih _)
theorem Cu (ns:List DNode):∀(m:Nat) (st:VS) (i d:Int) (s:Span),xK st.1 (vis ns m st i d s).1.1:=by
 intro m
 induction m with
 |zero=>exact λst i d s=>xK.refl _
 |succ m ih =>
  intro st i d s;rw[vis];split
  . exact xK.refl _
  split
  . exact xK.refl _
  split
  . exact xK.set _ _
  . exact(xK.set st.1 i.toNat).trans (CB (n:=nd ns i) ih s d (nd ns i).kids.zipIdx (st.1.set i.toNat true,st.2.1,if 0<d/\(nd ns i).elems.length+(nd ns i).kids.length<4 then 3 else 0))
def okN (ns:List DNode):Nat->Int->Int->Span->Prop
 |0,i,d,s=>(0<=i/\i<(ns.length:Int))/\(nd ns i).kind=1/\(0<d->4<=(nd ns i).elems.length+(nd ns i).kids.length)/\∀x∈(nd ns i).elems,inS s (wg x)=true
 |h+1,i,d,s=>(0<=i/\i<(ns.length:Int))/\((nd ns i).kind≠0/\(nd ns i).kind≠1)/\(0<d->4<=(nd ns i).elems.length+(nd ns i).kids.length)/\∀p∈(nd ns i).kids.zipIdx,okN ns h p.1 (d+1) (wC (nd ns i) s p.2)/\wS (nd ns i) s p.2=false/\wo (nd ns p.1)=((nd ns i).tids[p.2]?).getD 0
def ids (ns:List DNode):Nat->Int->List Nat
 |0,i=>[i.toNat]
 |h+1,i=>i.toNat::(nd ns i).kids.flatMap (ids ns h)
theorem Ci (l:List DElem)(s:Span):∀e:Int,l.foldl (λe x=>if inS s (wg x) then e else fl e) e=0↔e=0/\∀x∈l,inS s (wg x)=true:=by
 induction l with
 |nil=>intro e;simp
 |cons a l ih =>
  intro e;rw[x_,ih];by_cases h:inS s (wg a)=true
  . rw[if_pos h];simp[h]
  . rw[if_neg h];simp[h,D1]
def yw (ns:List DNode)(h:Nat)(ps:List (Int×Nat)):List Nat:=ps.flatMap λp=>ids ns h p.1
theorem AM (ns:List DNode)(h:Nat)(l:List Int):yw ns h l.zipIdx=l.flatMap (ids ns h):=by
 unfold yw
 have:∀(l:List Int) (n:Nat),(l.zipIdx n).flatMap (λp=>ids ns h p.1)=l.flatMap (ids ns h):=by
  intro l
  induction l with
  |nil=>intro n;rfl
  |cons a l ih=>intro n;rw[List.zipIdx_cons,g8,g8,ih]
 exact this l 0
theorem xR {ns:List DNode}{i:Int}(h0:0<=i)(h1:i<(ns.length:Int)):nd ns i∈ns:=by unfold nd;rw[gge (show i.toNat<ns.length by omega)];exact l_ _
theorem BX {ns:List DNode}{i:Nat}{n:DNode}(h:ns[i]? = some n):nd ns (i:Int)=n:=by unfold nd;rw[d_,h];rfl
theorem Iy (ns:List DNode)(hns:∀n∈ns,wy n=0):∀(m:Nat) (seen:List Bool) (deep i d:Int) (s:Span),seen.length=ns.length->0<=d->(vis ns m (seen,deep,0) i d s).1.2.2=0 ->
 ∃h:Nat,okN ns h i d s/\(ids ns h i).Nodup/\(∀j∈ids ns h i,seen[j]? = some false)/\(deep<0\/deep=d+h)/\vis ns m (seen,deep,0) i d s=((yj seen (ids ns h i),d+h,0),wo (nd ns i)):=by
 intro m
 induction m with
 |zero=>intro seen deep i d s _ _ h;simp[vis] at h
 |succ m ih =>
  intro seen deep i d s hsl hd he;rw[vis] at he ⊢;dsimp only at he ⊢;rw[if_neg s_] at he ⊢;split at he
  . exact absurd he s_
  rename_i hin;rw[if_neg hin];have h0:0<=i:=o_;have h1:i<(ns.length:Int):=o_
  have h2:seen[i.toNat]? = some false:=by
   have hlt:i.toNat<seen.length:=o_;rw[gge hlt]
   cases hb:seen[i.toNat] with
   |false=>rfl
   |true=>exact absurd (.inr (.inr (.inl (by rw[gge hlt,hb];rfl)))) hin
  have h3:(nd ns i).kind≠0:=λh=>hin (.inr (.inr (.inr h)));split at he
  . rename_i hk;rw[if_pos hk];dsimp only at he;rw[Ci] at he;obtain⟨he1,he2⟩:=he
    have hdeep:(if deep<0 then d else deep)=d:=by
     by_cases hx:(if deep<0 then d else deep)=d
     . exact hx
     . rw[if_pos hx] at he1;exact absurd he1 (D1 _)
    rw[if_neg (by simpa using hdeep)] at he1;have hfill:¬ (0<d/\(nd ns i).elems.length+(nd ns i).kids.length<4):=λh=>by rw[if_pos h] at he1;cases he1
    refine⟨0,⟨⟨h0,h1⟩,hk,λhd=>by omega,he2⟩,by simp[ids],λj hj=>?_,?_,?_⟩
    . obtain rfl:j=i.toNat:=(by simpa[ids] using hj);exact h2
    . by_cases hx:deep<0
      . exact .inl hx
      . rw[if_neg hx] at hdeep;exact .inr o_
    . have e1:List.foldl (λe x=>if inS s (wg x)=true then e else fl e) (if (if deep<0 then d else deep)≠d then fl (if 0<d/\(nd ns i).elems.length + (nd ns i).kids.length<4 then 3 else 0) else if 0<d/\(nd ns i).elems.length + (nd ns i).kids.length<4 then 3 else 0) (nd ns i).elems=0:=(by rw[Ci];refine⟨?_,he2⟩;rw[if_neg (by simpa using hdeep),if_neg hfill]);rw[e1,hdeep];simp[yj,ids]
  . rename_i hk;rw[if_neg hk];dsimp only at he
    have key:∀(ps:List (Int×Nat)) (st:VS),st.1.length=ns.length->(ps.foldl (xM (nd ns i) (vis ns m) s d) st).2.2=0->st.2.2=0/\(ps≠[]->∃h:Nat,
     (∀p∈ps,okN ns h p.1 (d+1) (wC (nd ns i) s p.2)/\wS (nd ns i) s p.2=false/\wo (nd ns p.1)=((nd ns i).tids[p.2]?).getD 0)/\(yw ns h ps).Nodup /\
     (∀j∈yw ns h ps,st.1[j]? = some false)/\(st.2.1<0\/st.2.1=d+1+h)/\ps.foldl (xM (nd ns i) (vis ns m) s d) st=(yj st.1 (yw ns h ps),d+1+h,0)):=by
     intro ps
     induction ps with
     |nil=>exact λst _ h=>⟨h,λh=>absurd rfl h⟩
     |cons p ps ihp =>
      intro st hl he;rw[x_] at he;obtain⟨k1,k2⟩:=ihp (xM (nd ns i) (vis ns m) s d st p) (by rw[(CI (Cu ns m) s d st p).1];exact hl) he;have hs0:=G4 (λst i d s=>Iz ns m i d s) k1;obtain⟨hst0,hb,hr,hre,hstep⟩:=hs0;obtain⟨h,q1,q2,q3,q4,q5⟩:=ih st.1 st.2.1 p.1 (d+1) (wC (nd ns i) s p.2) hl o_ hre;rw[q5] at hr hstep;dsimp only at hr hstep;refine⟨hst0,λ_=>?_⟩;by_cases hps:ps=[]
      . subst hps;refine⟨h,λp' hp'=>?_,?_,?_,q4,?_⟩
        . obtain rfl:p'=p:=(by simpa using hp');exact⟨q1,hb,hr⟩
        . simpa[yw] using q2
        . simpa[yw] using q3
        . rw[x_,List.foldl_nil,hstep];simp[yw]
      . obtain⟨h',w1,w2,w3,w4,w5⟩:=k2 hps;rw[hstep] at w3 w4 w5;dsimp only at w3 w4 w5;obtain rfl:h=h':=o_
        have hdis:∀j∈yw ns h ps,j∉ids ns h p.1/\st.1[j]? = some false:=λj hj=>by
         have:=w3 j hj;rw[AO] at this;split at this
         . cases this
         . rename_i hne;refine⟨λhm=>hne ⟨hm,?_⟩,this⟩;exact(ggs.1 this).1
        refine⟨h,λp' hp'=>?_,?_,λj hj=>?_,q4,?_⟩
        . rcases g_.1 hp' with rfl|hp'
          . exact⟨q1,hb,hr⟩
          . exact w1 p' hp'
        . show (ids ns h p.1++yw ns h ps).Nodup;exact List.nodup_append.2 ⟨q2,w2,λa ha b hb' e=>(hdis b hb').1 (e▸ha)⟩
        . rcases J_.1 (show j∈ids ns h p.1++yw ns h ps from hj) with hj|hj
          . exact q3 j hj
          . exact(hdis j hj).2
        . rw[x_,hstep,w5];show _=(yj st.1 (ids ns h p.1++yw ns h ps),_,_);rw[BU]
    obtain⟨k1,k2⟩:=key _ _ (by rw[H_];exact hsl) he;dsimp only at k1 k2;have hfill:¬ (0<d/\(nd ns i).elems.length+(nd ns i).kids.length<4):=λh=>by rw[if_pos h] at k1;cases k1
    by_cases hnil:(nd ns i).kids.zipIdx=[]
    . have hk0:(nd ns i).kids=[]:=(by simpa using hnil);rcases wE.1 (hns _ (xR h0 h1)) with h|h|h
      . exact absurd h.1 h3
      . exact absurd h.1 hk
      . have:=h.2.two;rw[hk0] at this;simp at this
    . obtain⟨h,w1,w2,w3,w4,w5⟩:=k2 hnil;rw[AM] at w2 w3 w5
      have hset:∀j∈(nd ns i).kids.flatMap (ids ns h),j≠i.toNat/\seen[j]? = some false:=λj hj=>by
       have:=w3 j hj;rw[Q_] at this;split at this
       . split at this
         . cases this
         . cases this
       . rename_i hne;exact⟨λe=>hne e.symm,this⟩
      refine⟨h+1,⟨⟨h0,h1⟩,⟨h3,hk⟩,λhd=>by omega,w1⟩,?_,λj hj=>?_,?_,?_⟩
      . rw[ids,M2];exact⟨λhm=>(hset _ hm).1 rfl,w2⟩
      . rw[ids] at hj;rcases g_.1 hj with rfl|hj
        . exact h2
        . exact(hset j hj).2
      . rcases w4 with w4|w4
        . exact .inl w4
        . exact .inr (by push_cast;omega)
      . rw[w5,ids];show _=((yj (seen.set i.toNat true) _,_,_),_);congr 3
        push_cast;omega
theorem JE {n:DNode}{v:VS->Int->Int->Span->VS×Int}{s:Span}{d:Int}{seen seen':List Bool}{deep deep' g:Int}{p:Int×Nat}(hb:wS n s p.2=false)
 (hv:v (seen,deep,0) p.1 (d+1) (wC n s p.2)=((seen',deep',0),g)) (hg:g=(n.tids[p.2]?).getD 0):xM n v s d (seen,deep,0) p=(seen',deep',0):=by
 have e:(if wS n s p.2=true then fl 0 else 0)=(0:Int):=by rw[hb];rfl
 unfold xM;dsimp only;rw[e,hv,if_neg (by simpa using hg)]
theorem Fd (ns:List DNode)(hns:∀n∈ns,wy n=0):∀(h m:Nat) (seen:List Bool) (deep i d:Int) (s:Span),okN ns h i d s->(ids ns h i).Nodup->(∀j∈ids ns h i,seen[j]? = some false) ->
 (deep<0\/deep=d+h)->0<=d->h<m->vis ns m (seen,deep,0) i d s=((yj seen (ids ns h i),d+h,0),wo (nd ns i)):=by
 intro h
 induction h with
 |zero =>
  intro m seen deep i d s ⟨⟨h0,h1⟩,hk,hf,hi⟩ hnd hse hdeep hd hm;obtain⟨m,rfl⟩:∃q,m=q+1:=⟨m-1,by omega⟩;have hsi:seen[i.toNat]? = some false:=hse _ (by simp[ids]);rw[vis];dsimp only;rw[if_neg s_,if_neg (by rw[hsi,hk];simp;omega),if_pos hk];have hdd:(if deep<0 then d else deep)=d:=by split <;> omega
  have e1:List.foldl (λe x=>if inS s (wg x)=true then e else fl e) (if (if deep<0 then d else deep)≠d then fl (if 0<d/\(nd ns i).elems.length+(nd ns i).kids.length<4 then 3 else 0) else if 0<d/\(nd ns i).elems.length+(nd ns i).kids.length<4 then 3 else 0) (nd ns i).elems=0:=by rw[Ci];exact⟨by rw[if_neg (by simpa using hdd),if_neg o_],hi⟩
  rw[e1,hdd];simp[yj,ids]
 |succ h ih =>
  intro m seen deep i d s ⟨⟨h0,h1⟩,⟨hk0,hk1⟩,hf,hi⟩ hnd hse hdeep hd hm;obtain⟨m,rfl⟩:∃q,m=q+1:=⟨m-1,by omega⟩;rw[ids] at hnd hse ⊢;rw[M2] at hnd;have hsi:seen[i.toNat]? = some false:=hse _ C_;rw[vis];dsimp only;rw[if_neg s_,if_neg (by rw[hsi];simp;omega),if_neg hk1,if_neg o_]
  have key:∀(ps:List (Int×Nat)) (seen:List Bool) (deep:Int),(∀p∈ps,okN ns h p.1 (d+1) (wC (nd ns i) s p.2)/\wS (nd ns i) s p.2=false/\wo (nd ns p.1)=((nd ns i).tids[p.2]?).getD 0) ->
   (yw ns h ps).Nodup->(∀j∈yw ns h ps,seen[j]? = some false)->(deep<0\/deep=d+1+h) ->
   ps.foldl (xM (nd ns i) (vis ns m) s d) (seen,deep,0)=(yj seen (yw ns h ps),if ps=[] then deep else d+1+h,0):=by
   intro ps
   induction ps with
   |nil=>intro seen deep _ _ _ _;rfl
   |cons p ps ihp =>
    intro seen deep hp hn hs hdp;obtain⟨p1,p2,p3⟩:=hp p C_;have hfl:yw ns h (p::ps)=ids ns h p.1++yw ns h ps:=rfl;rw[hfl] at hn hs ⊢;rw[List.nodup_append] at hn;obtain⟨n1,n2,n3⟩:=hn;have e1:=ih m seen deep p.1 (d+1) (wC (nd ns i) s p.2) p1 n1 (λj hj=>hs j (w7 _ hj)) hdp o_ o_;rw[x_,JE p2 e1 p3,ihp _ _ (λp' hp'=>hp p' (j_ _ hp')) n2 (λj hj=>?_) (.inr rfl),BU,if_neg (List.cons_ne_nil _ _)]
    . split <;> rfl
    . rw[AO,if_neg]
      . exact hs j (E2 _ hj)
      . exact λhx=>n3 _ hx.1 _ hj rfl
  have hne:(nd ns i).kids.zipIdx≠[]:=λhnil=>by
   have hk0':(nd ns i).kids=[]:=(by simpa using hnil);rcases wE.1 (hns _ (xR h0 h1)) with h|h|h
   . exact hk0 h.1
   . exact hk1 h.1
   . have:=h.2.two;rw[hk0'] at this;simp at this
  rw[key _ _ _ hi (by rw[AM];exact hnd.2) (λj hj=>?_) (by push_cast at hdeep;omega),if_neg hne,AM]
  . show ((yj _ _,_,_),_)=((yj (seen.set i.toNat true) _,_,_),_);congr 3
    push_cast;omega
  . rw[AM] at hj;rw[Q_,if_neg (λe=>hnd.1 (by rw[e];exact hj))];exact hse j (j_ _ hj)
theorem B8:∀(l:List Nat) (seen:List Bool),l.Nodup->(∀j∈l,seen[j]? = some false)->unseen (yj seen l)+l.length=unseen seen
 |[],seen,_,_=>rfl
 |i::l,seen,hn,hs=>by
  rw[M2] at hn;have h1:=DE (hs i C_);have:=B8 l (seen.set i true) hn.2 λj hj=>by rw[Q_,if_neg (λe=>hn.1 (by rw[e];exact hj))];exact hs j (j_ _ hj)
  show unseen (yj (seen.set i true) l)+(l.length+1)=_;omega
theorem D9 (ns:List DNode):∀(h:Nat) (i d:Int) (s:Span),okN ns h i d s->∀j∈ids ns h i,j<ns.length:=by
 intro h
 induction h with
 |zero =>
  intro i d s hok j hj;obtain rfl:j=i.toNat:=by simpa[ids] using hj
  have:=hok.1;omega
 |succ h ih =>
  intro i d s hok j hj;rw[ids] at hj;rcases g_.1 hj with rfl|hj
  . have:=hok.1;omega
  . obtain⟨k,hk,hj⟩:=M3.1 hj;obtain⟨q,hq⟩:=D_.1 hk;exact ih k _ _ (hok.2.2.2 (k,q) (by rw[p6];exact hq)).1 j hj
theorem Bi {ns:List DNode}{h:Nat}{i d:Int}{s:Span}(hok:okN ns h i d s)(hn:(ids ns h i).Nodup):(ids ns h i).length<=ns.length:=by
 have h1:=B8 (ids ns h i) (q_ ns.length false) hn λj hj=>by rw[Y_,if_pos (D9 ns h i d s hok j hj)]
 have h2:unseen (q_ ns.length false)=ns.length:=by unfold unseen;simp
 omega
theorem yf {ns:List DNode}(hns:∀n∈ns,wy n=0){i:Int}(h0:0<=i/\i<(ns.length:Int))(hk:(nd ns i).kind≠0/\(nd ns i).kind≠1):(nd ns i).kind=2/\Inner (nd ns i):=by
 rcases wE.1 (hns _ (xR h0.1 h0.2)) with h|h|h
 . exact absurd h.1 hk.1
 . exact absurd h.1 hk.2
 . exact h
theorem zi {ns:List DNode}(hns:∀n∈ns,wy n=0){i:Int}(h0:0<=i/\i<(ns.length:Int))(hk:(nd ns i).kind=1):Leaf (nd ns i):=by
 rcases wE.1 (hns _ (xR h0.1 h0.2)) with h|h|h
 . rw[hk] at h;exact absurd h.1 c_
 . exact h.2
 . rw[hk] at h;exact absurd h.1 c_
theorem Bh {ns:List DNode}(hns:∀n∈ns,wy n=0):∀(h:Nat) (i d:Int) (s:Span),okN ns h i d s->h<(ids ns h i).length:=by
 intro h
 induction h with
 |zero=>intro i d s _;simp[ids]
 |succ h ih =>
  intro i d s hok;have hin:=(yf hns hok.1 hok.2.1).2;obtain⟨k,hk⟩:∃k,(nd ns i).kids[0]? = some k:=⟨_,gge (by have:=hin.two;omega)⟩;have h1:=ih k _ _ (hok.2.2.2 (k,0) (by rw[p6];exact hk)).1;rw[ids,y_,C5]
  have h2:(ids ns h k).length<=((nd ns i).kids.map λa=>(ids ns h a).length).sum:=by
   have:∀l:List Int,k∈l->(ids ns h k).length<=(l.map λa=>(ids ns h a).length).sum:=by
    intro l
    induction l with
    |nil=>intro h;cases h
    |cons a l ih =>
     intro hm;rw[t7,C6];rcases g_.1 hm with rfl|hm
     . omega
     . have:=ih hm;omega
   exact this _ (F_ hk)
  omega
def wb (ns:List DNode):Nat->Int->List DElem
 |0,i=>(nd ns i).elems
 |h+1,i=>(nd ns i).kids.flatMap (wb ns h)
theorem EC {ns:List DNode}(hns:∀n∈ns,wy n=0):∀(h:Nat) (i d:Int) (s:Span),okN ns h i d s->(wb ns h i).length<=8*(ids ns h i).length:=by
 intro h
 induction h with
 |zero=>intro i d s hok;have:=(zi hns hok.1 hok.2.1).len;simp[wb,ids];omega
 |succ h ih =>
  intro i d s hok;rw[wb,ids,y_,C5,C5]
  have:∀l:List Int,(∀k∈l,(wb ns h k).length<=8*(ids ns h k).length)->(l.map λa=>(wb ns h a).length).sum<=8*(l.map λa=>(ids ns h a).length).sum:=by
   intro l
   induction l with
   |nil=>intro _;simp
   |cons a l ihl=>intro hm;have h1:=ihl λk hk=>hm k (j_ _ hk);have h2:=hm a C_;rw[t7,t7,C6,C6];omega
  have:=this (nd ns i).kids λk hk=>by obtain⟨q,hq⟩:=D_.1 hk;exact ih k _ _ (hok.2.2.2 (k,q) (by rw[p6];exact hq)).1
  omega
def topS:Span:=⟨⟨⟨0,0,0⟩,0⟩,⟨⟨0,0,0⟩,0⟩,false,false⟩
structure Good (t:DTree) (h:Nat):Prop where
 len:t.nodes.length<=400
 chk:∀n∈t.nodes,wy n=0
 ok:okN t.nodes h t.root 0 topS
 nodup:(ids t.nodes h t.root).Nodup
 all:∀i:Nat,i<t.nodes.length->(nd t.nodes i).kind≠0->i∈ids t.nodes h t.root
def zQ (F:Nat)(t:DTree):VS×Int:=vis t.nodes F (q_ t.nodes.length false,-1,0) t.root 0 topS
def IR (F:Nat)(t:DTree):Int:=if 400<t.nodes.length then 2 else match t.nodes.findSome? λn=>if wy n≠0 then some (wy n) else none with
  |some e=>e
  |none=>t.nodes.zipIdx.foldl (λe p=>if p.1.kind≠0/\((zQ F t).1.1[p.2]?).getD true=false then fl e else e) (zQ F t).1.2.2
theorem I6 {α:Type}(q:α->Prop)[DecidablePred q](l:List α):∀e:Int,l.foldl (λe x=>if q x then fl e else e) e=0↔e=0/\∀x∈l,¬ q x:=by
 induction l with
 |nil=>intro e;simp
 |cons a l ih =>
  intro e;rw[x_,ih];by_cases h:q a
  . rw[if_pos h];simp[h,D1]
  . rw[if_neg h];simp[h]
theorem HJ {F:Nat}[Big F]{t:DTree}:IR F t=0↔∃h,Good t h:=by
 unfold IR;by_cases hl:400<t.nodes.length
 . rw[if_pos hl];exact⟨λh=>(by cases h),λ⟨h,hg⟩=>(by have:=hg.len;omega)⟩
 rw[if_neg hl]
 cases hf:t.nodes.findSome? λn=>if wy n≠0 then some (wy n) else none with
 |some e =>
  obtain⟨n,hn,he⟩:=N4 hf;split at he
  . rename_i hne;obtain rfl:=i_.inj he;exact⟨λh=>absurd h hne,λ⟨h,hg⟩=>absurd (hg.chk n hn) hne⟩
  . cases he
 |none =>
  rw[E7] at hf
  have hns:∀n∈t.nodes,wy n=0:=λn hn=>by
   have:=hf n hn;split at this
   . cases this
   . rename_i h;simpa using h
  dsimp only;rw[I6 (λp:DNode×Nat=>p.1.kind≠0/\((zQ F t).1.1[p.2]?).getD true=false)];constructor
  . rintro⟨h1,h2⟩;obtain⟨h,q1,q2,q3,q4,q5⟩:=Iy t.nodes hns F (q_ t.nodes.length false) (-1) t.root 0 topS s_ (g6 _) h1;refine⟨h,by omega,hns,q1,q2,λi hi hk=>?_⟩;have h3:=h2 (t.nodes[i],i) (by rw[p6];exact gge hi);have hnd:nd t.nodes (i:Int)=t.nodes[i]:=BX (gge hi);rw[hnd] at hk;unfold zQ at h3;rw[q5] at h3;dsimp only at h3;rw[AO] at h3;by_cases hm:i∈ids t.nodes h t.root
    . exact hm
    . rw[if_neg (λhx=>hm hx.1),Y_,if_pos hi] at h3;exact absurd ⟨hk,rfl⟩ h3
  . rintro⟨h,hg⟩;have hr:=D9 t.nodes h t.root 0 topS hg.ok;have hF:h<F:=by have h1:=Bh hg.chk h t.root 0 topS hg.ok;have h2:=Bi hg.ok hg.nodup;have h3:=(inferInstance:Big F).le;omega
    have e:=Fd t.nodes hg.chk h F (q_ t.nodes.length false) (-1) t.root 0 topS hg.ok hg.nodup (λj hj=>by rw[Y_,if_pos (hr j hj)]) (.inl c_) (g6 _) hF;unfold zQ;rw[e];refine⟨rfl,λp hp=>?_⟩;rw[p6] at hp;rintro⟨hk,hb⟩;have hlt:=(ggs.1 hp).1;have:=hg.all p.2 hlt (by rw[BX hp];exact hk);rw[AO,if_pos ⟨this,by simpa using hlt⟩] at hb;cases hb
theorem wK {s:Span}{x:DSpot}:inS s x=true↔(s.hasLo=true->cmpS s.lo x<=0)/\(s.hasHi=true->cmpS x s.hi<0):=by unfold inS;cases s.hasLo <;> cases s.hasHi <;> simp
theorem Bd {a b c:DSpot}(h:cmpS a b<=0)(k:cmpS b c<0):cmpS a c<0:=by
 by_cases h0:cmpS a b<0
 . exact wq.lt_trans h0 k
 . obtain rfl:a=b:=(wq.zero _ _).1 o_;exact k
theorem xP {a b c:DSpot}(h:cmpS a b<0)(k:cmpS b c<=0):cmpS a c<0:=by
 by_cases h0:cmpS b c<0
 . exact wq.lt_trans h h0
 . obtain rfl:b=c:=(wq.zero _ _).1 o_;exact h
theorem Gs {a b c:DSpot}(h:cmpS a b<=0)(k:cmpS b c<=0):cmpS a c<=0:=wq.trans _ _ _ h k
theorem Fy {a b c:DSpot}(h:cmpS a b<=0)(k:cmpS b c<=0):cmpS a c<=0:=by
 by_cases h0:cmpS a b<0
 . have:=xP h0 k;omega
 . obtain rfl:a=b:=(wq.zero _ _).1 o_;exact k
theorem FL {n:DNode}{s:Span}{k:Nat}{x y:DSpot}(hx:n.seps[k]? = some x)(h:inS (wC n s (k+1)) y=true):cmpS x y<=0:=by
 have h1:=(wK.1 h).1;have e:yp n s (k+1) = { s with lo:=x,hasLo:=true }:=by show (match n.seps[k]? with|some x=>_|none=>s)=_;rw[hx]
 have e2:(wC n s (k+1)).lo=x/\(wC n s (k+1)).hasLo=true:=by
  unfold wC CK;split
  . rw[e];exact⟨rfl,rfl⟩
  . rw[e];exact⟨rfl,rfl⟩
 rw[e2.1] at h1;exact h1 e2.2
theorem Dp {n:DNode}{s:Span}{k:Nat}{x y:DSpot}(hx:n.seps[k]? = some x)(h:inS (wC n s k) y=true):cmpS y x<0:=by
 have h1:=(wK.1 h).2;have e2:(wC n s k).hi=x/\(wC n s k).hasHi=true:=by unfold wC CK;rw[hx];exact⟨rfl,rfl⟩
 rw[e2.1] at h1;exact h1 e2.2
theorem H3 {n:DNode}{s:Span}{k:Nat}{y:DSpot}(hk:k<=n.seps.length)(hb:∀j,j<=n.seps.length->wS n s j=false)(h:inS (wC n s k) y=true):inS s y=true:=by
 have hsep:∀j x,n.seps[j]? = some x->inS s x=true:=λj x hx=>by
  have hjl:=(ggs.1 hx).1;have:=hb (j+1) o_;have e:wS n s (j+1) = !inS s x:=by show (match n.seps[j]? with|some x=>_|none=>false)=_;rw[hx]
  rw[e] at this;simpa using this
 rw[wK];constructor
 . intro hl
   cases k with
   |zero=>have h1:=(wK.1 h).1;have e2:(wC n s 0).lo=s.lo/\(wC n s 0).hasLo=s.hasLo:=(by unfold wC CK;split <;> exact⟨rfl,rfl⟩);rw[e2.1,e2.2] at h1;exact h1 hl
   |succ j=>have hx:n.seps[j]? = some n.seps[j]:=gge o_;exact Gs ((wK.1 (hsep _ _ hx)).1 hl) (FL hx h)
 . intro hh;by_cases hk':k<n.seps.length
   . have hx:n.seps[k]? = some n.seps[k]:=gge hk';exact wq.lt_trans (Dp hx h) ((wK.1 (hsep _ _ hx)).2 hh)
   . have h1:=(wK.1 h).2;have hx:n.seps[k]? = none:=V_ o_
     have e2:(wC n s k).hi=s.hi/\(wC n s k).hasHi=s.hasHi:=by
      have hl1:(yp n s k).hi=s.hi/\(yp n s k).hasHi=s.hasHi:=by
       unfold yp;split
       . exact⟨rfl,rfl⟩
       . split <;> exact⟨rfl,rfl⟩
      unfold wC CK;rw[hx];exact hl1
     rw[e2.1,e2.2] at h1;exact h1 hh
theorem yK {α β:Type}{R:β->β->Prop}{f:α->List β}:∀(l:List α),(∀a∈l,(f a).Pairwise R)->(∀(i j:Nat) (a b:α),i<j->l[i]? = some a->l[j]? = some b->∀x∈f a,∀y∈f b,R x y)->(l.flatMap f).Pairwise R
 |[],_,_=>List.Pairwise.nil
 |a::l,h1,h2=>by rw[g8,m9];refine⟨h1 a C_,yK l (λb hb=>h1 b (j_ _ hb)) (λi j a' b hij ha hb=>h2 (i+1) (j+1) a' b o_ (by simpa using ha) (by simpa using hb)),λx hx y hy=>?_⟩;obtain⟨b,hb,hy⟩:=M3.1 hy;obtain⟨q,hq⟩:=D_.1 hb;exact h2 0 (q+1) a b o_ rfl (by simpa using hq) x hx y hy
theorem Ab {l:List Int}{q:Nat}{k:Int}(h:l[q]? = some k):(k,q)∈l.zipIdx:=by rw[p6];exact h
theorem xD {ns:List DNode}(hns:∀n∈ns,wy n=0):∀(h:Nat) (i d:Int) (s:Span),okN ns h i d s->(wb ns h i).Pairwise SpO/\∀e∈wb ns h i,inS s (wg e)=true/\wm e=0:=by
 intro h
 induction h with
 |zero=>intro i d s hok;have hl:=zi hns hok.1 hok.2.1;exact⟨hl.ord,λe he=>⟨hok.2.2.2 e he,hl.ok e he⟩⟩
 |succ h ih =>
  intro i d s hok;have hI:=(yf hns hok.1 hok.2.1).2;have hkids:∀q k,(nd ns i).kids[q]? = some k->_:=λq k hk=>ih k _ _ (hok.2.2.2 (k,q) (Ab hk)).1;have hbad:∀j,j<=(nd ns i).seps.length->wS (nd ns i) s j=false:=λj hj=>by have hlen:=hI.seps;have hk:(nd ns i).kids[j]? = some (nd ns i).kids[j]:=gge o_;exact(hok.2.2.2 (_,j) (Ab hk)).2.1
  rw[wb];constructor
  . refine yK _ (λk hk=>?_) (λq r a b hqr ha hb x hx y hy=>?_)
    . obtain⟨q,hq⟩:=D_.1 hk;exact(hkids q k hq).1
    . have hlen:=hI.seps;have hrl:=(ggs.1 hb).1;have h1:=((hkids q a ha).2 x hx).1;have h2:=((hkids r b hb).2 y hy).1;obtain⟨r,rfl⟩:∃p,r=p+1:=⟨r-1,by omega⟩;have hxq:(nd ns i).seps[q]? = some (nd ns i).seps[q]:=gge o_;have hxr:(nd ns i).seps[r]? = some (nd ns i).seps[r]:=gge o_;have h3:=Dp hxq h1;have h4:=FL hxr h2;show cmpS (wg x) (wg y)<0;rcases Nat.lt_or_ge q r with hlt|hge
      . have:=xl hI.ord hlt hxq hxr;exact xP (wq.lt_trans h3 this) h4
      . obtain rfl:q=r:=o_;exact xP h3 h4
  . intro e he;obtain⟨k,hk,he⟩:=M3.1 he;obtain⟨q,hq⟩:=D_.1 hk;have h1:=(hkids q k hq).2 e he;have hql:=(ggs.1 hq).1;have hlen:=hI.seps;exact⟨H3 o_ hbad h1.1,h1.2⟩
theorem JG {α:Type}{f:α->Nat}{c:Nat}:∀(l:List α),(∀a∈l,c<=f a)->c*l.length<=(l.map f).sum
 |[],_=>by simp
 |a::l,h=>by have:=JG l λb hb=>h b (j_ _ hb);have:=h a C_;rw[t7,C6,y_,Nat.mul_succ];omega
theorem Gu {ns:List DNode}(hns:∀n∈ns,wy n=0):∀(h:Nat) (i d:Int) (s:Span),okN ns h i d s->0<d->4 ^ (h+1)<=(wb ns h i).length:=by
 intro h
 induction h with
 |zero=>intro i d s hok hd;have hl:=zi hns hok.1 hok.2.1;have:=hok.2.2.1 hd;rw[hl.kids] at this;simpa[wb] using this
 |succ h ih =>
  intro i d s hok hd;have hI:=(yf hns hok.1 hok.2.1).2;have h4:=hok.2.2.1 hd;rw[hI.elems] at h4;rw[wb,C5];have:=JG (c:=4 ^ (h+1)) (f:=λk=>(wb ns h k).length) (nd ns i).kids λk hk=>by obtain⟨q,hq⟩:=D_.1 hk;have:=hok.1;exact ih k _ _ (hok.2.2.2 (k,q) (Ab hq)).1 o_
  refine p7 ?_ this;rw[g9 4 (h+1)];exact Nat.mul_le_mul_left _ (by simpa using h4)
end
end
end Go.Proofs.YtnofgfobljadbaaGreat
