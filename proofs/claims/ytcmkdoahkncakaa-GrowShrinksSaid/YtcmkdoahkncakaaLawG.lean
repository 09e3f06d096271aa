/- From 'every call returns true and changes nothing that was there' to a law's statement; how arguments are opened. Its conditions: none. -/
import Derived.Test.YtcmkdoahkncakaaOpsG
import Derived.Test.YtcmkdoahkncakaaRows
import Derived.ProofKit
import Derived.Below
import Derived.Deep.Slices
import Derived.SizedLaws
namespace Go.Proofs.Ytcmkdoahkncakaa
open Go.ChangeShapes Go.WideShapes Go.ChangeAt Go.RowKit
section
variable {H:Type} {enc:TypeId × Value→H} {P:Program}
theorem CW (hl:laidOutB P=true){W W' : World}{sp:Nat→Bool}:∀(ts:List TypeId) (vs:List Value) (ds:List (DataW H)) (p:List MemPlace),
 (∀ t∈ts,P.readableRec t=true∧t<P.types.size)→DataW.TrodAll enc P W 0 (fun _=>true) true ts vs ds p→(∀ x∈p,W.sameAt W' x)→(∀ x∈p,sp x.block=true) →
 DataW.TrodAll enc P W' 0 sp true ts vs ds p
 | [],[],[],_,_,h,_,_=>h
 | t::ts,v::vs,d::ds,ps,ht,h,hs,hsp=>by
  obtain⟨p,q,h1,h2,rfl⟩:=h
  have hp : ∀ x∈p,x∈p++q:=fun x hx=>List.mem_append_left q hx
  have hq : ∀ x∈q,x∈p++q:=fun x hx=>List.mem_append_right p hx
  obtain⟨hr,hlt⟩:=ht t (by simp)
  exact⟨p,q,WideElems.Trod_stays hl hr hlt h1 (fun x hx=>hs x (hp x hx)) (fun x hx=>hsp x (hp x hx)),
   CW hl ts vs ds q (fun t' h'=>ht t' (by simp [h'])) h2 (fun x hx=>hs x (hq x hx)) (fun x hx=>hsp x (hq x hx)),rfl⟩
 | [],_::_,_,_,_,h,_,_=>h.elim
 | [],[],_::_,_,_,h,_,_=>h.elim
 | _::_,[],_,_,_,h,_,_=>h.elim
 | _::_,_::_,[],_,_,h,_,_=>h.elim
end
def F5 (P:Program)(F:FuncId)(fn:Func):Prop :=
 ∀(H:Type) (enc:TypeId × Value→H) (W:World) (base:Nat) (args:Array Value) (ds:List (DataW H)) (p:List MemPlace),
  (∀(j:Nat) t v,fn.params[j]? = some t→args[j]? = some v→Value.okWide P W .any base t v) →
  DataW.TrodAll enc P W 0 (fun _=>true) true fn.params.toList args.toList ds p →
  (DataW.weightsEach P fn.params.toList ds).all (·≤reachBytes)=true →
  Calls P F args W fun e W'=>e = .returned (.bool true)∧Below W.heap.size W W'
theorem FL {C:Checked}{os:Os}{F:FuncId}{fn:Func}{s:ChangeSpec}{tb:TypeId}{H:Type}{enc:TypeId × Value→H}(hcall:F5 C.prog F fn)
 (own:ownKnob C.prog.godebug=none) (started:os.Started) (noInit:C.prog.inits.idxOf? F=none) (hfn:C.prog.funcs[F]? = some fn)
 (witness : ∃(w:World) (tape:Tape) (i:Input),w.os=os∧(w.forCall tape i).Shaped C.prog∧i.vars=[]∧Input.okWide C.prog (w.forCall tape i) .any w.heap.size F i ∧
  s.pre6 enc C.prog fn [] false (w.forCall tape i).memory i.args∧Assume.holds {} C.prog (lone (Frame.enter C.prog F i.args .normal) [] (w.forCall tape i)))
 (hvars:s.vars=[]) (hres:fn.resultTypes = #[tb]) (htb:C.prog.underlying tb=some .bool) (laid:laidOutB C.prog=true)
 (hread : ∀ t∈fn.params.toList,C.prog.readableRec t=true∧t<C.prog.types.size)
 (hspec : ∀(ds:List (DataW H)),ds.length=fn.params.toList.length→(s.fn H ds).results=[.lit (.bool true)]∧(s.fn H ds).args=ds∧(s.fn H ds).vars=[]) :
 ReturnsInHanded {} C os F .any (s.pre6 enc C.prog fn [] false) (s.post enc C.prog fn false true false false):=by
 refine returnsInHanded_of_change_sized (C:=C) own started noInit hfn witness ?_
 intro W base args ds gs before hval hW _ hw _
 have hW':=hW
 obtain⟨p,q,hA,hV,rfl,hfz,hnd⟩:=hW
 rw [hvars] at hV
 obtain⟨rfl,rfl⟩:=trodVars_none hV
 have hvt:s.plain.varTypes C.prog=[]:=by
  show DataSpec.varTypes _ _=[]
  unfold DataSpec.varTypes ChangeSpec.plain
  simp [hvars]
 rw [hvt,List.append_nil,List.append_nil] at hw
 have hlen : ∀(ts:List TypeId) (vs:List Value) (ds:List (DataW H)) (p:List MemPlace),DataW.TrodAll enc C.prog W 0 (fun _=>true) true ts vs ds p→ds.length=ts.length:=by
  intro ts
  induction ts with
  | nil=>intro vs ds p h;cases vs <;> cases ds <;> first | rfl | exact h.elim
  | cons t ts ih =>
   intro vs ds p h
   cases vs with
   | nil=>exact h.elim
   | cons v vs =>
    cases ds with
    | nil=>exact h.elim
    | cons d ds=>obtain ⟨p1,q1,_,h2,_⟩:=h;simp [ih _ _ _ h2]
 refine(hcall H enc W base args ds p hval hA hw).mono fun e W' ⟨he,hb⟩=>?_
 subst he
 obtain⟨hs1,hs2,hs3⟩:=hspec ds (hlen _ _ _ _ hA)
 have hlt : ∀ x∈p,x.block<W.heap.size:=fun x hx=>hW'.lt x (by simpa using hx)
 have hstay : ∀ sp:Nat→Bool,(∀ x∈p,sp x.block=true)→DataW.TrodAll enc C.prog W' 0 sp true fn.params.toList args.toList ds p:=fun sp hsp =>
  CW laid _ _ _ _ hread hA (fun x hx=>hb.same (hlt x hx)) hsp
 refine⟨_,rfl,ds,[],p++[],[],p,[],hW',?_,?_,?_,World.keptBut_mono (fun x hx=>⟨by simpa using hx,.inr (.inl (by simpa using hx))⟩) (hb.frame (·∈p)),fun h=>by cases h⟩
 · rw [List.append_nil,hs1,hres]
   exact trodAll_mk1 (shut_bool htb true)
 · rw [List.append_nil,hs2]
   exact hstay _ fun x hx=>by simpa using hlt x hx
 · rw [List.append_nil,hs3,hvars]
   rfl
section
variable {H:Type} {enc:TypeId × Value→H} {P:Program} {w:World} {base:Nat} {spare:Nat→Bool} {held:Bool}
end
def F6 {H:Type}(P:Program)(t:TypeId)(d:DataW H):Prop:=∀ n∈DataW.weights P t d,n≤reachBytes
def AN {α:Type}(P:Program)(t:TypeId)(E:Enc α)(ok:α→Prop):Prop :=
 ∀(H:Type) (enc:TypeId × Value→H) (w:World) (base:Nat) (sp:Nat→Bool) (held:Bool) (fuel:Nat) (cs:List Value) (x:DataW H × List MemPlace),DataW.trod enc P w base sp held fuel t cs=some x→F6 P t x.1→∃ d,E.rep (vw w) cs d∧ok d
def Bk (k:IntKind)(n:Int):Prop:=(Lit.int k n).wf=true
def okStrW (s:ByteArray):Prop:=s.size≤reachBytes
def Bz {α:Type}(bytes:Nat)(ok:α→Prop)(l:List α):Prop:=l.length*bytes≤reachBytes∧∀ x∈l,ok x
theorem D1 {H:Type}{P:Program}{ts:List TypeId}{ds:List (DataW H)}(hw:(DataW.weightsEach P ts ds).all (·≤reachBytes)=true){j:Nat}{t:TypeId}{d:DataW H}(ht:ts[j]? = some t)(hd:ds[j]? = some d):F6 P t d:=fun n hn=>by
 have:=List.all_eq_true.1 hw n (DataW.weights_mem_each ht hd n hn)
 simpa using this
theorem CI {H:Type}{P:Program}{e:TypeId}:∀ {ds:List (DataW H)} {d:DataW H} {n:Nat},d∈ds→n∈DataW.weights P e d→n∈DataW.weightsAll P e ds
 | d0::ds,d,n,hd,hn=>by
  unfold DataW.weightsAll
  rcases List.mem_cons.1 hd with rfl | hd
  · exact List.mem_append_left _ hn
  · exact List.mem_append_right _ (CI hd hn)
section
variable {P:Program} {t:TypeId}
theorem Bq {k:IntKind}(ht:P.underlying t=some (.int k)):AN P t (eK k) (Bk k):=fun H enc w base sp held fuel cs x h _=>by
 obtain⟨n,hc,_,hw⟩:=DataW.trod_int ht h
 exact⟨n,hc,hw⟩
theorem GD (ht:P.underlying t=some .string):AN P t Am okStrW:=fun H enc w base sp held fuel cs x h hw=>by
 obtain⟨s,hc,hx,_⟩:=DataW.trod_string ht h
 refine⟨s,hc,?_⟩
 show s.size≤reachBytes
 have:=hw s.data.toList.length (by rw [hx];simp [DataW.weights])
 simpa using this
theorem Cu {α:Type}{e:TypeId}{E:Enc α}{ok:α→Prop}{bytes:Nat}(ht:P.underlying t=some (.slice e))(hs:P.cellsOf e=E.size)(hby:P.bytesOf e=bytes)(he:AN P e E ok):AN P t (wF E) (Bz bytes ok):=fun H enc w base sp held fuel cs x h hw=>by
 rcases Deep.open_slice ht h with ⟨rfl,_⟩ | ⟨a,len,cap,m,n,D,Pl,rfl,_,hlc,hcm,hm,hx,hi⟩
 · exact⟨[],⟨none,0,rfl,pT.nil _ _⟩,by simp,fun x hx=>by simp at hx⟩
 · have hlm:len≤m:=by rw [hm];split <;> omega
   subst hx
   have hlen:len*bytes≤reachBytes:=by
    have:=hw ((((List.range len).map D).length+((List.range (m-len)).map fun j=>D (len+j)).length)*P.bytesOf e) (by simp [DataW.weights,ht])
    rw [hby] at this
    simp only [List.length_map,List.length_range] at this
    exact Nat.le_trans (Nat.mul_le_mul_right _ (by omega)) this
   have hlight : ∀ i,i<len→F6 P e (D i):=fun i hil n hn=>hw n (by
    simp only [DataW.weights,ht]
    refine List.mem_cons_of_mem _ (List.mem_append_left _ (CI (List.mem_map.2 ⟨i,List.mem_range.2 hil,rfl⟩) hn)))
   have key : ∀ i,i<len→∃(cs' : List Value) (d:α),w.cells? base (a.add (i*E.size)) E.size=some cs'∧E.rep (vw w) cs' d∧ok d:=fun i hil=>by
    obtain⟨cs',h1,h2⟩:=hi i (by omega)
    rw [hs] at h1
    obtain⟨d,h3,h4⟩:=he H enc w base sp held n cs' _ h2 (hlight i hil)
    exact⟨cs',d,h1,h3,h4⟩
   have build : ∀ k,k≤len→∃(l:List α) (xs:List Value),l.length=k∧sk (vw w) E xs l∧vG (vw w) (some a) xs∧∀ x∈l,ok x:=by
    intro k
    induction k with
    | zero=>intro _;exact⟨[],[],rfl,⟨by simp,fun k x hk=>by simp at hk⟩,fun j u hu=>by simp at hu,fun x hx=>by simp at hx⟩
    | succ k ih =>
     intro hk
     obtain⟨l,xs,h1,h2,h3,h4⟩:=ih (by omega)
     obtain⟨cs',d,h5,h6,h7⟩:=key k (by omega)
     refine⟨l++[d],xs++cs',by simp [h1],h2.append (yi h6),fun j u hu=>?_,fun x hx=>?_⟩
     · by_cases hj:j<xs.length
       · rw [List.getElem?_append_left hj] at hu
         exact h3 j u hu
       · rw [List.getElem?_append_right (by omega)] at hu
         refine⟨a,rfl,?_⟩
         obtain⟨_,_,hat⟩:=World.cells?_some h5
         have hl5:cs'.length=E.size:=E.len h6
         have hjl:j-xs.length<cs'.length:=by
          rcases Nat.lt_or_ge (j-xs.length) cs'.length with h | h
          · exact h
          · rw [List.getElem?_eq_none h] at hu;cases hu
         have:=hat (j-xs.length) (by omega)
         rw [hu,vd] at this
         have e:k*E.size+(j-xs.length)=j:=by rw [h2.1,h1] at hj ⊢;omega
         rw [e] at this
         exact this
     · rcases List.mem_append.1 hx with hx | hx
       · exact h4 x hx
       · simp at hx;subst hx;exact h7
   obtain⟨l,xs,h1,h2,h3,h4⟩:=build len (Nat.le_refl _)
   subst h1
   exact⟨l,⟨some a,cap,rfl,hlc,hcm,xs,h2,h3⟩,hlen,h4⟩
theorem AQ (cs:List Value)(a k:Nat):cs.drop a=(cs.drop a).take k++cs.drop (a+k):=by
 rw [← List.drop_drop,List.take_append_drop]
theorem CP {fs:Array Field}{H:Type}{enc:TypeId × Value→H}{w:World}{base:Nat}{sp:Nat→Bool}{held:Bool}{fuel:Nat}{cs:List Value}{x:DataW H × List MemPlace}(ht:P.underlying t=some (.struct fs))
 (h:DataW.trod enc P w base sp held fuel t cs=some x):cs.length=P.cellsOf t:=by
 obtain⟨_,_,_,_,hl,_,_⟩:=DataW.trod_struct ht h
 exact hl
theorem AE {α:Type}{E:Enc α}{ok:α→Prop}{fs:Array Field}{H:Type}{enc:TypeId × Value→H}{w:World}{base:Nat}{sp:Nat→Bool}{held:Bool}{fuel:Nat}{cs:List Value}{x:DataW H × List MemPlace}(ht:P.underlying t=some (.struct fs))
 (h:DataW.trod enc P w base sp held fuel t cs=some x) (hw:F6 P t x.1) {i:Nat} {f:Field} (hi:fs[i]? = some f) (ho:AN P f.type E ok) :
 ∃ d,E.rep (vw w) ((cs.drop f.offset).take (P.cellsOf f.type)) d∧ok d:=by
 obtain⟨xs,n,_,hx,_,hxl,hg⟩:=DataW.trod_struct ht h
 have h1:=hg i f hi
 have hlt:i<xs.length:=by rw [hxl];exact(Array.getElem?_eq_some_iff.1 hi).1
 rw [List.getElem?_eq_getElem hlt] at h1
 refine ho H enc w base sp held n _ _ h1 fun n hn=>hw n ?_
 subst hx
 simp only [DataW.weights,ht]
 refine DataW.weights_mem_each (j:=i) (t:=f.type) (d:=(xs[i]).1) ?_ ?_ n hn
 · rw [List.getElem?_map,Array.getElem?_toList,hi];rfl
 · rw [List.getElem?_map,List.getElem?_eq_getElem hlt];rfl
def okKey (x:DKey):Prop:=(Bk .i64) x.pfs∧(Bk .i64) x.obj∧(Bk .i64) x.off
theorem GC {f0 f1 f2:Field}(ht:P.underlying t=some (.struct #[f0,f1,f2]))(hc:P.cellsOf t=3)
 (o0:f0.offset=0) (c0:P.cellsOf f0.type=1) (h0:AN P f0.type pS (Bk .i64))
 (o1:f1.offset=1) (c1:P.cellsOf f1.type=1) (h1:AN P f1.type pS (Bk .i64))
 (o2:f2.offset=2) (c2:P.cellsOf f2.type=1) (h2:AN P f2.type pS (Bk .i64)):AN P t Al okKey:=fun H enc w base sp held fuel cs x h hw=>by
 have hl:=CP ht h
 obtain⟨d0,r0,k0⟩:=AE ht h hw (i:=0) (f:=f0) rfl h0
 obtain⟨d1,r1,k1⟩:=AE ht h hw (i:=1) (f:=f1) rfl h1
 obtain⟨d2,r2,k2⟩:=AE ht h hw (i:=2) (f:=f2) rfl h2
 rw [o0,c0] at r0
 rw [o1,c1] at r1
 rw [o2,c2] at r2
 have e:cs=(cs.drop 0).take 1++((cs.drop 1).take 1++((cs.drop 2).take 1++cs.drop 3)):=by
  rw [← AQ cs 2 1,← AQ cs 1 1,← AQ cs 0 1]
  rfl
 refine⟨⟨d0,d1,d2⟩,?_,⟨k0,k1,k2⟩⟩
 show cs=DKey.cells _
 rw [e,show (cs.drop 0).take 1=_ from r0,show (cs.drop 1).take 1=_ from r1,show (cs.drop 2).take 1=_ from r2,List.drop_eq_nil_of_le (by omega)]
 rfl
def okSpot (x:DSpot):Prop:=okKey x.key∧(Bk .i64) x.made
theorem FT {f0 f1:Field}(ht:P.underlying t=some (.struct #[f0,f1]))(hc:P.cellsOf t=4)
 (o0:f0.offset=0) (c0:P.cellsOf f0.type=3) (h0:AN P f0.type Al okKey)
 (o1:f1.offset=3) (c1:P.cellsOf f1.type=1) (h1:AN P f1.type pS (Bk .i64)):AN P t eSpot okSpot:=fun H enc w base sp held fuel cs x h hw=>by
 have hl:=CP ht h
 obtain⟨d0,r0,k0⟩:=AE ht h hw (i:=0) (f:=f0) rfl h0
 obtain⟨d1,r1,k1⟩:=AE ht h hw (i:=1) (f:=f1) rfl h1
 rw [o0,c0] at r0
 rw [o1,c1] at r1
 have e:cs=(cs.drop 0).take 3++((cs.drop 3).take 1++cs.drop 4):=by
  rw [← AQ cs 3 1,← AQ cs 0 3]
  rfl
 refine⟨⟨d0,d1⟩,?_,⟨k0,k1⟩⟩
 show cs=DSpot.cells _
 rw [e,show (cs.drop 0).take 3=_ from r0,show (cs.drop 3).take 1=_ from r1,List.drop_eq_nil_of_le (by omega)]
 rfl
def okElem (x:DElem):Prop:=okKey x.key∧(Bk .i64) x.made∧(Bk .i64) x.gone∧okStrW x.val
theorem FR {f0 f1 f2 f3:Field}(ht:P.underlying t=some (.struct #[f0,f1,f2,f3]))(hc:P.cellsOf t=6)
 (o0:f0.offset=0) (c0:P.cellsOf f0.type=3) (h0:AN P f0.type Al okKey)
 (o1:f1.offset=3) (c1:P.cellsOf f1.type=1) (h1:AN P f1.type pS (Bk .i64))
 (o2:f2.offset=4) (c2:P.cellsOf f2.type=1) (h2:AN P f2.type pS (Bk .i64))
 (o3:f3.offset=5) (c3:P.cellsOf f3.type=1) (h3:AN P f3.type Am okStrW):AN P t eElem okElem:=fun H enc w base sp held fuel cs x h hw=>by
 have hl:=CP ht h
 obtain⟨d0,r0,k0⟩:=AE ht h hw (i:=0) (f:=f0) rfl h0
 obtain⟨d1,r1,k1⟩:=AE ht h hw (i:=1) (f:=f1) rfl h1
 obtain⟨d2,r2,k2⟩:=AE ht h hw (i:=2) (f:=f2) rfl h2
 obtain⟨d3,r3,k3⟩:=AE ht h hw (i:=3) (f:=f3) rfl h3
 rw [o0,c0] at r0
 rw [o1,c1] at r1
 rw [o2,c2] at r2
 rw [o3,c3] at r3
 have e:cs=(cs.drop 0).take 3++((cs.drop 3).take 1++((cs.drop 4).take 1++((cs.drop 5).take 1++cs.drop 6))):=by
  rw [← AQ cs 5 1,← AQ cs 4 1,← AQ cs 3 1,← AQ cs 0 3]
  rfl
 refine⟨⟨d0,d1,d2,d3⟩,?_,⟨k0,k1,k2,k3⟩⟩
 show cs=DElem.cells _
 rw [e,show (cs.drop 0).take 3=_ from r0,show (cs.drop 3).take 1=_ from r1,show (cs.drop 4).take 1=_ from r2,show (cs.drop 5).take 1=_ from r3,List.drop_eq_nil_of_le (by omega)]
 rfl
def okNode (x:DNode):Prop:=(Bk .i64) x.kind∧(Bz 56 okElem) x.elems∧(Bz 8 (Bk .i64)) x.kids∧(Bz 32 okSpot) x.seps∧(Bz 8 (Bk .i64)) x.tids
theorem QQ {f0 f1 f2 f3 f4:Field}(ht:P.underlying t=some (.struct #[f0,f1,f2,f3,f4]))(hc:P.cellsOf t=5)
 (o0:f0.offset=0) (c0:P.cellsOf f0.type=1) (h0:AN P f0.type pS (Bk .i64))
 (o1:f1.offset=1) (c1:P.cellsOf f1.type=1) (h1:AN P f1.type (wF eElem) (Bz 56 okElem))
 (o2:f2.offset=2) (c2:P.cellsOf f2.type=1) (h2:AN P f2.type (wF pS) (Bz 8 (Bk .i64)))
 (o3:f3.offset=3) (c3:P.cellsOf f3.type=1) (h3:AN P f3.type (wF eSpot) (Bz 32 okSpot))
 (o4:f4.offset=4) (c4:P.cellsOf f4.type=1) (h4:AN P f4.type (wF pS) (Bz 8 (Bk .i64))):AN P t tC okNode:=fun H enc w base sp held fuel cs x h hw=>by
 have hl:=CP ht h
 obtain⟨d0,r0,k0⟩:=AE ht h hw (i:=0) (f:=f0) rfl h0
 obtain⟨d1,r1,k1⟩:=AE ht h hw (i:=1) (f:=f1) rfl h1
 obtain⟨d2,r2,k2⟩:=AE ht h hw (i:=2) (f:=f2) rfl h2
 obtain⟨d3,r3,k3⟩:=AE ht h hw (i:=3) (f:=f3) rfl h3
 obtain⟨d4,r4,k4⟩:=AE ht h hw (i:=4) (f:=f4) rfl h4
 rw [o0,c0] at r0
 rw [o1,c1] at r1
 rw [o2,c2] at r2
 rw [o3,c3] at r3
 rw [o4,c4] at r4
 have e:cs=(cs.drop 0).take 1++((cs.drop 1).take 1++((cs.drop 2).take 1++((cs.drop 3).take 1++((cs.drop 4).take 1++cs.drop 5)))):=by
  rw [← AQ cs 4 1,← AQ cs 3 1,← AQ cs 2 1,← AQ cs 1 1,← AQ cs 0 1]
  rfl
 obtain⟨A1,z1,q1,s1⟩:=r1
 obtain⟨A2,z2,q2,s2⟩:=r2
 obtain⟨A3,z3,q3,s3⟩:=r3
 obtain⟨A4,z4,q4,s4⟩:=r4
 refine⟨⟨d0,d1,d2,d3,d4⟩,⟨A1,z1,A2,z2,A3,z3,A4,z4,?_,s1,s2,s3,s4⟩,⟨k0,k1,k2,k3,k4⟩⟩
 rw [e,show (cs.drop 0).take 1=_ from r0,q1,q2,q3,q4,List.drop_eq_nil_of_le (by omega)]
 rfl
def okTree (x:DTree):Prop:=(Bk .i64) x.root∧(Bz 104 okNode) x.nodes
theorem FU {f0 f1:Field}(ht:P.underlying t=some (.struct #[f0,f1]))(hc:P.cellsOf t=2)
 (o0:f0.offset=0) (c0:P.cellsOf f0.type=1) (h0:AN P f0.type pS (Bk .i64))
 (o1:f1.offset=1) (c1:P.cellsOf f1.type=1) (h1:AN P f1.type (wF tC) (Bz 104 okNode)):AN P t vq okTree:=fun H enc w base sp held fuel cs x h hw=>by
 have hl:=CP ht h
 obtain⟨d0,r0,k0⟩:=AE ht h hw (i:=0) (f:=f0) rfl h0
 obtain⟨d1,r1,k1⟩:=AE ht h hw (i:=1) (f:=f1) rfl h1
 rw [o0,c0] at r0
 rw [o1,c1] at r1
 have e:cs=(cs.drop 0).take 1++((cs.drop 1).take 1++cs.drop 2):=by
  rw [← AQ cs 1 1,← AQ cs 0 1]
  rfl
 obtain⟨A1,z1,q1,s1⟩:=r1
 refine⟨⟨d0,d1⟩,⟨A1,z1,?_,s1⟩,⟨k0,k1⟩⟩
 rw [e,show (cs.drop 0).take 1=_ from r0,q1,List.drop_eq_nil_of_le (by omega)]
 rfl
end
end Go.Proofs.Ytcmkdoahkncakaa
