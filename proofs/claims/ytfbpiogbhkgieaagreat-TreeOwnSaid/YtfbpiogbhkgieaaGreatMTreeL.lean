/- From 'every call returns true and changes nothing that was there' to a law's statement; how arguments are opened. Its conditions: none. -/
import Derived.Test.YtfbpiogbhkgieaaGreatOpsL
import Derived.Test.YtfbpiogbhkgieaaGreatRows
import Derived.ProofKit
import Derived.Below
import Derived.Deep.Slices
import Derived.SizedLaws
import Derived.Test.YtfbpiogbhkgieaaGreatKeyFL
import Derived.Test.YtfbpiogbhkgieaaGreatRunFL
import Derived.Test.YtfbpiogbhkgieaaGreatEqLL
import Derived.Test.YtfbpiogbhkgieaaGreatNodeFL
namespace Go.Proofs.YtfbpiogbhkgieaaGreat
set_option linter.unusedSimpArgs false
set_option linter.unusedVariables false
section
open Go.ChangeShapes Go.WideShapes Go.ChangeAt Go.RowKit
section
variable {H:Type} {enc:TypeId × Value→H} {P:Program}
theorem xP (hl:laidOutB P=true){W W' : World}{sp:Nat→Bool}:∀(ts:List TypeId) (vs:List Value) (ds:List (DataW H)) (p:List MemPlace),
 (∀ t∈ts,P.readableRec t=true∧t<P.types.size)→DataW.TrodAll enc P W 0 (fun _=>true) true ts vs ds p→(∀ x∈p,W.sameAt W' x)→(∀ x∈p,sp x.block=true) →
 DataW.TrodAll enc P W' 0 sp true ts vs ds p
 | [],[],[],_,_,h,_,_=>h
 | t::ts,v::vs,d::ds,ps,ht,h,hs,hsp=>by
  obtain⟨p,q,h1,h2,rfl⟩:=h
  have hp : ∀ x∈p,x∈p++q:=fun x hx=>List.mem_append_left q hx
  have hq : ∀ x∈q,x∈p++q:=fun x hx=>List.mem_append_right p hx
  obtain⟨hr,hlt⟩:=ht t (by simp)
  exact⟨p,q,WideElems.Trod_stays hl hr hlt h1 (fun x hx=>hs x (hp x hx)) (fun x hx=>hsp x (hp x hx)),
   xP hl ts vs ds q (fun t' h'=>ht t' (by simp [h'])) h2 (fun x hx=>hs x (hq x hx)) (fun x hx=>hsp x (hq x hx)),rfl⟩
 | [],_::_,_,_,_,h,_,_=>h.elim
 | [],[],_::_,_,_,h,_,_=>h.elim
 | _::_,[],_,_,_,h,_,_=>h.elim
 | _::_,_::_,[],_,_,h,_,_=>h.elim
end
def CM (P:Program)(F:FuncId)(fn:Func):Prop :=
 ∀(H:Type) (enc:TypeId × Value→H) (W:World) (base:Nat) (args:Array Value) (ds:List (DataW H)) (p:List MemPlace),
  (∀(j:Nat) t v,fn.params[j]? = some t→args[j]? = some v→Value.okWide P W .any base t v) →
  DataW.TrodAll enc P W 0 (fun _=>true) true fn.params.toList args.toList ds p →
  (DataW.weightsEach P fn.params.toList ds).all (·≤reachBytes)=true →
  Calls P F args W fun e W'=>e = .returned (.bool true)∧Below W.heap.size W W'
theorem Cn {C:Checked}{os:Os}{F:FuncId}{fn:Func}{s:ChangeSpec}{tb:TypeId}{H:Type}{enc:TypeId × Value→H}(hcall:CM C.prog F fn)
 (own:ownKnob C.prog.godebug=none) (started:os.Started) (noInit:C.prog.inits.idxOf? F=none) (hfn:C.prog.funcs[F]? = some fn)
 (witness : ∃(w:World) (tape:Tape) (i:Input),w.os=os∧(w.forCall tape i).Shaped C.prog∧i.vars=[]∧Input.okWide C.prog (w.forCall tape i) .any w.heap.size F i ∧
  s.pre6 enc C.prog fn [] false (w.forCall tape i).memory i.args∧Assume.holds {} C.prog (lone (Frame.enter C.prog F i.args .normal) [] (w.forCall tape i)))
 (hvars:s.vars=[]) (hres:fn.resultTypes = #[tb]) (htb:C.prog.underlying tb=some .bool) (laid:laidOutB C.prog=true)
 (hread : ∀ t∈fn.params.toList,C.prog.readableRec t=true∧t<C.prog.types.size)
 (hspec : ∀(ds:List (DataW H)),ds.length=fn.params.toList.length→(s.fn H ds).results=[.lit (.bool true)]∧(s.fn H ds).args=ds∧(s.fn H ds).vars=[]) :
 ReturnsInHanded {} C os F .any (s.pre6 enc C.prog fn [] false) (s.post enc C.prog fn false true false false):=by
 refine returnsInHanded_of_change_sized (C:=C) own started noInit hfn witness ?_
 intro W base args ds gs before hval hW _ hw _
 have hW':=hW
 obtain⟨p,q,hA,hV,rfl,hfz,hnd⟩:=hW
 rw [hvars] at hV
 obtain⟨rfl,rfl⟩:=trodVars_none hV
 have hvt:s.plain.varTypes C.prog=[]:=by
  show DataSpec.varTypes _ _=[]
  unfold DataSpec.varTypes ChangeSpec.plain
  simp [hvars]
 rw [hvt,List.append_nil,List.append_nil] at hw
 have hlen : ∀(ts:List TypeId) (vs:List Value) (ds:List (DataW H)) (p:List MemPlace),DataW.TrodAll enc C.prog W 0 (fun _=>true) true ts vs ds p→ds.length=ts.length:=by
  intro ts
  induction ts with
  | nil=>intro vs ds p h;cases vs <;> cases ds <;> first | rfl | exact h.elim
  | cons t ts ih =>
   intro vs ds p h
   cases vs with
   | nil=>exact h.elim
   | cons v vs =>
    cases ds with
    | nil=>exact h.elim
    | cons d ds=>obtain ⟨p1,q1,_,h2,_⟩:=h;simp [ih _ _ _ h2]
 refine(hcall H enc W base args ds p hval hA hw).mono fun e W' ⟨he,hb⟩=>?_
 subst he
 obtain⟨hs1,hs2,hs3⟩:=hspec ds (hlen _ _ _ _ hA)
 have hlt : ∀ x∈p,x.block<W.heap.size:=fun x hx=>hW'.lt x (by simpa using hx)
 have hstay : ∀ sp:Nat→Bool,(∀ x∈p,sp x.block=true)→DataW.TrodAll enc C.prog W' 0 sp true fn.params.toList args.toList ds p:=fun sp hsp =>
  xP laid _ _ _ _ hread hA (fun x hx=>hb.same (hlt x hx)) hsp
 refine⟨_,rfl,ds,[],p++[],[],p,[],hW',?_,?_,?_,World.keptBut_mono (fun x hx=>⟨by simpa using hx,.inr (.inl (by simpa using hx))⟩) (hb.frame (·∈p)),fun h=>by cases h⟩
 · rw [List.append_nil,hs1,hres]
   exact trodAll_mk1 (shut_bool htb true)
 · rw [List.append_nil,hs2]
   exact hstay _ fun x hx=>by simpa using hlt x hx
 · rw [List.append_nil,hs3,hvars]
   rfl
section
variable {H:Type} {enc:TypeId × Value→H} {P:Program} {w:World} {base:Nat} {spare:Nat→Bool} {held:Bool}
end
def CN {H:Type}(P:Program)(t:TypeId)(d:DataW H):Prop:=∀ n∈DataW.weights P t d,n≤reachBytes
def uF {α:Type}(P:Program)(t:TypeId)(E:Enc α)(ok:α→Prop):Prop :=
 ∀(H:Type) (enc:TypeId × Value→H) (w:World) (base:Nat) (sp:Nat→Bool) (held:Bool) (fuel:Nat) (cs:List Value) (x:DataW H × List MemPlace),DataW.trod enc P w base sp held fuel t cs=some x→CN P t x.1→∃ d,E.rep (vw w) cs d∧ok d
def vf (k:IntKind)(n:Int):Prop:=(Lit.int k n).wf=true
def okStrW (s:ByteArray):Prop:=s.size≤reachBytes
def vp {α:Type}(bytes:Nat)(ok:α→Prop)(l:List α):Prop:=l.length*bytes≤reachBytes∧∀ x∈l,ok x
theorem xX {H:Type}{P:Program}{ts:List TypeId}{ds:List (DataW H)}(hw:(DataW.weightsEach P ts ds).all (·≤reachBytes)=true){j:Nat}{t:TypeId}{d:DataW H}(ht:ts[j]? = some t)(hd:ds[j]? = some d):CN P t d:=fun n hn=>by
 have:=List.all_eq_true.1 hw n (DataW.weights_mem_each ht hd n hn)
 simpa using this
theorem xp {H:Type}{P:Program}{e:TypeId}:∀ {ds:List (DataW H)} {d:DataW H} {n:Nat},d∈ds→n∈DataW.weights P e d→n∈DataW.weightsAll P e ds
 | d0::ds,d,n,hd,hn=>by
  unfold DataW.weightsAll
  rcases List.mem_cons.1 hd with rfl | hd
  · exact List.mem_append_left _ hn
  · exact List.mem_append_right _ (xp hd hn)
section
variable {P:Program} {t:TypeId}
theorem vm {k:IntKind}(ht:P.underlying t=some (.int k)):uF P t (eK k) (vf k):=fun H enc w base sp held fuel cs x h _=>by
 obtain⟨n,hc,_,hw⟩:=DataW.trod_int ht h
 exact⟨n,hc,hw⟩
theorem Dq (ht:P.underlying t=some .string):uF P t eStr okStrW:=fun H enc w base sp held fuel cs x h hw=>by
 obtain⟨s,hc,hx,_⟩:=DataW.trod_string ht h
 refine⟨s,hc,?_⟩
 show s.size≤reachBytes
 have:=hw s.data.toList.length (by rw [hx];simp [DataW.weights])
 simpa using this
theorem wU {α:Type}{e:TypeId}{E:Enc α}{ok:α→Prop}{bytes:Nat}(ht:P.underlying t=some (.slice e))(hs:P.cellsOf e=E.size)(hby:P.bytesOf e=bytes)(he:uF P e E ok):uF P t (oc E) (vp bytes ok):=fun H enc w base sp held fuel cs x h hw=>by
 rcases Deep.open_slice ht h with ⟨rfl,_⟩ | ⟨a,len,cap,m,n,D,Pl,rfl,_,hlc,hcm,hm,hx,hi⟩
 · exact⟨[],⟨none,0,rfl,ia.nil _ _⟩,by simp,fun x hx=>by simp at hx⟩
 · have hlm:len≤m:=by rw [hm];split <;> omega
   subst hx
   have hlen:len*bytes≤reachBytes:=by
    have:=hw ((((List.range len).map D).length+((List.range (m-len)).map fun j=>D (len+j)).length)*P.bytesOf e) (by simp [DataW.weights,ht])
    rw [hby] at this
    simp only [List.length_map,List.length_range] at this
    exact Nat.le_trans (Nat.mul_le_mul_right _ (by omega)) this
   have hlight : ∀ i,i<len→CN P e (D i):=fun i hil n hn=>hw n (by
    simp only [DataW.weights,ht]
    refine List.mem_cons_of_mem _ (List.mem_append_left _ (xp (List.mem_map.2 ⟨i,List.mem_range.2 hil,rfl⟩) hn)))
   have key : ∀ i,i<len→∃(cs' : List Value) (d:α),w.cells? base (a.add (i*E.size)) E.size=some cs'∧E.rep (vw w) cs' d∧ok d:=fun i hil=>by
    obtain⟨cs',h1,h2⟩:=hi i (by omega)
    rw [hs] at h1
    obtain⟨d,h3,h4⟩:=he H enc w base sp held n cs' _ h2 (hlight i hil)
    exact⟨cs',d,h1,h3,h4⟩
   have build : ∀ k,k≤len→∃(l:List α) (xs:List Value),l.length=k∧iJ (vw w) E xs l∧mv (vw w) (some a) xs∧∀ x∈l,ok x:=by
    intro k
    induction k with
    | zero=>intro _;exact⟨[],[],rfl,⟨by simp,fun k x hk=>by simp at hk⟩,fun j u hu=>by simp at hu,fun x hx=>by simp at hx⟩
    | succ k ih =>
     intro hk
     obtain⟨l,xs,h1,h2,h3,h4⟩:=ih (by omega)
     obtain⟨cs',d,h5,h6,h7⟩:=key k (by omega)
     refine⟨l++[d],xs++cs',by simp [h1],h2.append (qu h6),fun j u hu=>?_,fun x hx=>?_⟩
     · by_cases hj:j<xs.length
       · rw [List.getElem?_append_left hj] at hu
         exact h3 j u hu
       · rw [List.getElem?_append_right (by omega)] at hu
         refine⟨a,rfl,?_⟩
         obtain⟨_,_,hat⟩:=World.cells?_some h5
         have hl5:cs'.length=E.size:=E.len h6
         have hjl:j-xs.length<cs'.length:=by
          rcases Nat.lt_or_ge (j-xs.length) cs'.length with h | h
          · exact h
          · rw [List.getElem?_eq_none h] at hu;cases hu
         have:=hat (j-xs.length) (by omega)
         rw [hu,mh] at this
         have e:k*E.size+(j-xs.length)=j:=by rw [h2.1,h1] at hj ⊢;omega
         rw [e] at this
         exact this
     · rcases List.mem_append.1 hx with hx | hx
       · exact h4 x hx
       · simp at hx;subst hx;exact h7
   obtain⟨l,xs,h1,h2,h3,h4⟩:=build len (Nat.le_refl _)
   subst h1
   exact⟨l,⟨some a,cap,rfl,hlc,hcm,xs,h2,h3⟩,hlen,h4⟩
theorem uI (cs:List Value)(a k:Nat):cs.drop a=(cs.drop a).take k++cs.drop (a+k):=by
 rw [← List.drop_drop,List.take_append_drop]
theorem xB {fs:Array Field}{H:Type}{enc:TypeId × Value→H}{w:World}{base:Nat}{sp:Nat→Bool}{held:Bool}{fuel:Nat}{cs:List Value}{x:DataW H × List MemPlace}(ht:P.underlying t=some (.struct fs))
 (h:DataW.trod enc P w base sp held fuel t cs=some x):cs.length=P.cellsOf t:=by
 obtain⟨_,_,_,_,hl,_,_⟩:=DataW.trod_struct ht h
 exact hl
theorem ut {α:Type}{E:Enc α}{ok:α→Prop}{fs:Array Field}{H:Type}{enc:TypeId × Value→H}{w:World}{base:Nat}{sp:Nat→Bool}{held:Bool}{fuel:Nat}{cs:List Value}{x:DataW H × List MemPlace}(ht:P.underlying t=some (.struct fs))
 (h:DataW.trod enc P w base sp held fuel t cs=some x) (hw:CN P t x.1) {i:Nat} {f:Field} (hi:fs[i]? = some f) (ho:uF P f.type E ok) :
 ∃ d,E.rep (vw w) ((cs.drop f.offset).take (P.cellsOf f.type)) d∧ok d:=by
 obtain⟨xs,n,_,hx,_,hxl,hg⟩:=DataW.trod_struct ht h
 have h1:=hg i f hi
 have hlt:i<xs.length:=by rw [hxl];exact(Array.getElem?_eq_some_iff.1 hi).1
 rw [List.getElem?_eq_getElem hlt] at h1
 refine ho H enc w base sp held n _ _ h1 fun n hn=>hw n ?_
 subst hx
 simp only [DataW.weights,ht]
 refine DataW.weights_mem_each (j:=i) (t:=f.type) (d:=(xs[i]).1) ?_ ?_ n hn
 · rw [List.getElem?_map,Array.getElem?_toList,hi];rfl
 · rw [List.getElem?_map,List.getElem?_eq_getElem hlt];rfl
def okKey (x:DKey):Prop:=(vf .i64) x.pfs∧(vf .i64) x.obj∧(vf .i64) x.off
theorem Dp {f0 f1 f2:Field}(ht:P.underlying t=some (.struct #[f0,f1,f2]))(hc:P.cellsOf t=3)
 (o0:f0.offset=0) (c0:P.cellsOf f0.type=1) (h0:uF P f0.type hO (vf .i64))
 (o1:f1.offset=1) (c1:P.cellsOf f1.type=1) (h1:uF P f1.type hO (vf .i64))
 (o2:f2.offset=2) (c2:P.cellsOf f2.type=1) (h2:uF P f2.type hO (vf .i64)):uF P t tW okKey:=fun H enc w base sp held fuel cs x h hw=>by
 have hl:=xB ht h
 obtain⟨d0,r0,k0⟩:=ut ht h hw (i:=0) (f:=f0) rfl h0
 obtain⟨d1,r1,k1⟩:=ut ht h hw (i:=1) (f:=f1) rfl h1
 obtain⟨d2,r2,k2⟩:=ut ht h hw (i:=2) (f:=f2) rfl h2
 rw [o0,c0] at r0
 rw [o1,c1] at r1
 rw [o2,c2] at r2
 have e:cs=(cs.drop 0).take 1++((cs.drop 1).take 1++((cs.drop 2).take 1++cs.drop 3)):=by
  rw [← uI cs 2 1,← uI cs 1 1,← uI cs 0 1]
  rfl
 refine⟨⟨d0,d1,d2⟩,?_,⟨k0,k1,k2⟩⟩
 show cs=DKey.cells _
 rw [e,show (cs.drop 0).take 1=_ from r0,show (cs.drop 1).take 1=_ from r1,show (cs.drop 2).take 1=_ from r2,List.drop_eq_nil_of_le (by omega)]
 rfl
def okSpot (x:DSpot):Prop:=okKey x.key∧(vf .i64) x.made
theorem Cx {f0 f1:Field}(ht:P.underlying t=some (.struct #[f0,f1]))(hc:P.cellsOf t=4)
 (o0:f0.offset=0) (c0:P.cellsOf f0.type=3) (h0:uF P f0.type tW okKey)
 (o1:f1.offset=3) (c1:P.cellsOf f1.type=1) (h1:uF P f1.type hO (vf .i64)):uF P t eSpot okSpot:=fun H enc w base sp held fuel cs x h hw=>by
 have hl:=xB ht h
 obtain⟨d0,r0,k0⟩:=ut ht h hw (i:=0) (f:=f0) rfl h0
 obtain⟨d1,r1,k1⟩:=ut ht h hw (i:=1) (f:=f1) rfl h1
 rw [o0,c0] at r0
 rw [o1,c1] at r1
 have e:cs=(cs.drop 0).take 3++((cs.drop 3).take 1++cs.drop 4):=by
  rw [← uI cs 3 1,← uI cs 0 3]
  rfl
 refine⟨⟨d0,d1⟩,?_,⟨k0,k1⟩⟩
 show cs=DSpot.cells _
 rw [e,show (cs.drop 0).take 3=_ from r0,show (cs.drop 3).take 1=_ from r1,List.drop_eq_nil_of_le (by omega)]
 rfl
def okElem (x:DElem):Prop:=okKey x.key∧(vf .i64) x.made∧(vf .i64) x.gone∧okStrW x.val
theorem Cv {f0 f1 f2 f3:Field}(ht:P.underlying t=some (.struct #[f0,f1,f2,f3]))(hc:P.cellsOf t=6)
 (o0:f0.offset=0) (c0:P.cellsOf f0.type=3) (h0:uF P f0.type tW okKey)
 (o1:f1.offset=3) (c1:P.cellsOf f1.type=1) (h1:uF P f1.type hO (vf .i64))
 (o2:f2.offset=4) (c2:P.cellsOf f2.type=1) (h2:uF P f2.type hO (vf .i64))
 (o3:f3.offset=5) (c3:P.cellsOf f3.type=1) (h3:uF P f3.type eStr okStrW):uF P t eElem okElem:=fun H enc w base sp held fuel cs x h hw=>by
 have hl:=xB ht h
 obtain⟨d0,r0,k0⟩:=ut ht h hw (i:=0) (f:=f0) rfl h0
 obtain⟨d1,r1,k1⟩:=ut ht h hw (i:=1) (f:=f1) rfl h1
 obtain⟨d2,r2,k2⟩:=ut ht h hw (i:=2) (f:=f2) rfl h2
 obtain⟨d3,r3,k3⟩:=ut ht h hw (i:=3) (f:=f3) rfl h3
 rw [o0,c0] at r0
 rw [o1,c1] at r1
 rw [o2,c2] at r2
 rw [o3,c3] at r3
 have e:cs=(cs.drop 0).take 3++((cs.drop 3).take 1++((cs.drop 4).take 1++((cs.drop 5).take 1++cs.drop 6))):=by
  rw [← uI cs 5 1,← uI cs 4 1,← uI cs 3 1,← uI cs 0 3]
  rfl
 refine⟨⟨d0,d1,d2,d3⟩,?_,⟨k0,k1,k2,k3⟩⟩
 show cs=DElem.cells _
 rw [e,show (cs.drop 0).take 3=_ from r0,show (cs.drop 3).take 1=_ from r1,show (cs.drop 4).take 1=_ from r2,show (cs.drop 5).take 1=_ from r3,List.drop_eq_nil_of_le (by omega)]
 rfl
def okNode (x:DNode):Prop:=(vf .i64) x.kind∧(vp 56 okElem) x.elems∧(vp 8 (vf .i64)) x.kids∧(vp 32 okSpot) x.seps∧(vp 8 (vf .i64)) x.tids
theorem Cw {f0 f1 f2 f3 f4:Field}(ht:P.underlying t=some (.struct #[f0,f1,f2,f3,f4]))(hc:P.cellsOf t=5)
 (o0:f0.offset=0) (c0:P.cellsOf f0.type=1) (h0:uF P f0.type hO (vf .i64))
 (o1:f1.offset=1) (c1:P.cellsOf f1.type=1) (h1:uF P f1.type (oc eElem) (vp 56 okElem))
 (o2:f2.offset=2) (c2:P.cellsOf f2.type=1) (h2:uF P f2.type (oc hO) (vp 8 (vf .i64)))
 (o3:f3.offset=3) (c3:P.cellsOf f3.type=1) (h3:uF P f3.type (oc eSpot) (vp 32 okSpot))
 (o4:f4.offset=4) (c4:P.cellsOf f4.type=1) (h4:uF P f4.type (oc hO) (vp 8 (vf .i64))):uF P t j9 okNode:=fun H enc w base sp held fuel cs x h hw=>by
 have hl:=xB ht h
 obtain⟨d0,r0,k0⟩:=ut ht h hw (i:=0) (f:=f0) rfl h0
 obtain⟨d1,r1,k1⟩:=ut ht h hw (i:=1) (f:=f1) rfl h1
 obtain⟨d2,r2,k2⟩:=ut ht h hw (i:=2) (f:=f2) rfl h2
 obtain⟨d3,r3,k3⟩:=ut ht h hw (i:=3) (f:=f3) rfl h3
 obtain⟨d4,r4,k4⟩:=ut ht h hw (i:=4) (f:=f4) rfl h4
 rw [o0,c0] at r0
 rw [o1,c1] at r1
 rw [o2,c2] at r2
 rw [o3,c3] at r3
 rw [o4,c4] at r4
 have e:cs=(cs.drop 0).take 1++((cs.drop 1).take 1++((cs.drop 2).take 1++((cs.drop 3).take 1++((cs.drop 4).take 1++cs.drop 5)))):=by
  rw [← uI cs 4 1,← uI cs 3 1,← uI cs 2 1,← uI cs 1 1,← uI cs 0 1]
  rfl
 obtain⟨A1,z1,q1,s1⟩:=r1
 obtain⟨A2,z2,q2,s2⟩:=r2
 obtain⟨A3,z3,q3,s3⟩:=r3
 obtain⟨A4,z4,q4,s4⟩:=r4
 refine⟨⟨d0,d1,d2,d3,d4⟩,⟨A1,z1,A2,z2,A3,z3,A4,z4,?_,s1,s2,s3,s4⟩,⟨k0,k1,k2,k3,k4⟩⟩
 rw [e,show (cs.drop 0).take 1=_ from r0,q1,q2,q3,q4,List.drop_eq_nil_of_le (by omega)]
 rfl
def okTree (x:DTree):Prop:=(vf .i64) x.root∧(vp 104 okNode) x.nodes
theorem Cy {f0 f1:Field}(ht:P.underlying t=some (.struct #[f0,f1]))(hc:P.cellsOf t=2)
 (o0:f0.offset=0) (c0:P.cellsOf f0.type=1) (h0:uF P f0.type hO (vf .i64))
 (o1:f1.offset=1) (c1:P.cellsOf f1.type=1) (h1:uF P f1.type (oc j9) (vp 104 okNode)):uF P t tV okTree:=fun H enc w base sp held fuel cs x h hw=>by
 have hl:=xB ht h
 obtain⟨d0,r0,k0⟩:=ut ht h hw (i:=0) (f:=f0) rfl h0
 obtain⟨d1,r1,k1⟩:=ut ht h hw (i:=1) (f:=f1) rfl h1
 rw [o0,c0] at r0
 rw [o1,c1] at r1
 have e:cs=(cs.drop 0).take 1++((cs.drop 1).take 1++cs.drop 2):=by
  rw [← uI cs 1 1,← uI cs 0 1]
  rfl
 obtain⟨A1,z1,q1,s1⟩:=r1
 refine⟨⟨d0,d1⟩,⟨A1,z1,?_,s1⟩,⟨k0,k1⟩⟩
 rw [e,show (cs.drop 0).take 1=_ from r0,q1,List.drop_eq_nil_of_le (by omega)]
 rfl
end
end
section
def ord (a b:Int):Int:=if a<b then -1 else if b<a then 1 else 0
theorem yq (a b:Int):lz a b=some (ord a b):=by
 unfold lz ord
 simp only [Bool.cond_eq_ite,decide_eq_true_eq]
 split
 · rfl
 · split <;> rfl
structure Cmp {α:Type} (f:α→α→Int):Prop where
 one : ∀ a b,f a b = -1∨f a b=0∨f a b=1
 neg : ∀ a b,f a b = - f b a
 zero : ∀ a b,f a b=0↔a=b
 trans : ∀ a b c,f a b≤0→f b c≤0→f a c≤0
theorem zq:Cmp ord:=by
 refine⟨fun a b=>?_,fun a b=>?_,fun a b=>?_,fun a b c=>?_⟩ <;> unfold ord <;> (repeat' split) <;> omega
def lex {α β γ:Type}(p:γ→α)(q:γ→β)(f:α→α→Int)(g:β→β→Int)(x y:γ):Int:=if f (p x) (p y)≠0 then f (p x) (p y) else g (q x) (q y)
theorem Cmp.lexic {α β γ:Type}{p:γ→α}{q:γ→β}{f:α→α→Int}{g:β→β→Int}(hf:Cmp f)(hg:Cmp g)(hpq : ∀ x y,p x=p y→q x=q y→x=y):Cmp (lex p q f g):=by
 have le : ∀ x y,lex p q f g x y≤0↔(f (p x) (p y)<0∨f (p x) (p y)=0∧g (q x) (q y)≤0):=fun x y=>by
  unfold lex
  split <;> omega
 refine⟨fun a b=>?_,fun a b=>?_,fun a b=>?_,fun a b c h1 h2=>?_⟩
 · unfold lex
   split
   · exact hf.one _ _
   · exact hg.one _ _
 · have h1:=hf.neg (p a) (p b)
   have h2:=hg.neg (q a) (q b)
   unfold lex
   split <;> split <;> omega
 · unfold lex
   split
   · rename_i h
     refine⟨fun h'=>absurd h' h,fun h'=>?_⟩
     subst h'
     exact absurd ((hf.zero _ _).2 rfl) h
   · rename_i h
     have h0:p a=p b:=(hf.zero _ _).1 (by omega)
     rw [hg.zero]
     exact⟨hpq a b h0,fun h'=>by rw [h']⟩
 · rw [le] at h1 h2 ⊢
   have ht:=hf.trans (p a) (p b) (p c) (by omega) (by omega)
   rcases Int.lt_or_eq_of_le ht with h | h
   · exact .inl h
   · right
     refine⟨h,?_⟩
     have hac:=(hf.zero _ _).1 h
     have h3:=hf.neg (p a) (p b)
     rw [hac] at h1 h3
     have h4:f (p c) (p b)=0:=by omega
     have h5:f (p b) (p c)=0:=by omega
     exact hg.trans _ (q b) _ (by omega) (by omega)
def cmpK:DKey→DKey→Int:=lex DKey.pfs (fun k=>k) ord (lex DKey.obj DKey.off ord ord)
theorem DT (a b:DKey):cmpK a b=if ord a.pfs b.pfs≠0 then ord a.pfs b.pfs else if ord a.obj b.obj≠0 then ord a.obj b.obj else ord a.off b.off:=rfl
theorem um:Cmp cmpK:=by
 have h:Cmp (lex Prod.fst Prod.snd ord (lex Prod.fst Prod.snd ord ord):Int × Int × Int→Int × Int × Int→Int) :=
  zq.lexic (zq.lexic zq fun x y h1 h2=>Prod.ext h1 h2) fun x y h1 h2=>Prod.ext h1 h2
 have e : ∀ a b:DKey,cmpK a b=lex Prod.fst Prod.snd ord (lex Prod.fst Prod.snd ord ord) (a.pfs,a.obj,a.off) (b.pfs,b.obj,b.off):=fun _ _=>rfl
 refine⟨fun a b=>?_,fun a b=>?_,fun a b=>?_,fun a b c=>?_⟩
 · rw [e];exact h.one _ _
 · rw [e,e];exact h.neg _ _
 · rw [e,h.zero]
   obtain⟨a1,a2,a3⟩:=a
   obtain⟨b1,b2,b3⟩:=b
   simp
 · rw [e,e,e];exact h.trans _ _ _
theorem Ck (a b:DKey):pM a b=some (cmpK a b):=by
 unfold pM
 rw [DT]
 simp only [yq,Option.bind_some,Bool.cond_eq_ite,bne_iff_ne,ne_eq]
 by_cases h1:ord a.pfs b.pfs=0
 · by_cases h2:ord a.obj b.obj=0
   · by_cases h3:ord a.off b.off=0 <;> simp [h1,h2,h3]
   · simp [h1,h2]
 · simp [h1]
def cmpS:DSpot→DSpot→Int:=lex DSpot.key DSpot.made cmpK ord
theorem Bn (a b:DSpot):cmpS a b=if cmpK a.key b.key≠0 then cmpK a.key b.key else ord a.made b.made:=rfl
theorem ue:Cmp cmpS:=um.lexic zq fun x y h1 h2=>by
 obtain⟨x1,x2⟩:=x
 obtain⟨y1,y2⟩:=y
 simp_all
theorem uo (a b:DSpot):jt a b=some (cmpS a b):=by
 unfold jt
 rw [Bn]
 simp only [yq,Ck,Option.bind_some,Bool.cond_eq_ite,bne_iff_ne,ne_eq]
 by_cases h1:cmpK a.key b.key=0 <;> simp [h1]
def wi (e:DElem)(t:Int):Bool:=decide (e.made≤t)&&(e.gone == 0||decide (t<e.gone))
theorem AM (e:DElem)(t:Int):nQ e t=some (wi e t):=by
 unfold nQ wi
 simp
def uR (e:DElem):Int:=if e.made<e.gone then e.gone else e.made
theorem AL (e:DElem):nP e=some (uR e):=by
 unfold nP uR
 simp
def yK (k:DKey):Int:=if k.pfs<0∨15<k.pfs∨k.obj<0∨1048576<k.obj∨k.off<0∨1073741824<k.off then 1 else 0
theorem wS (k:DKey):mS k=some (yK k):=by
 unfold mS yK
 simp only [Bool.cond_eq_ite,Bool.or_eq_true,decide_eq_true_eq]
 split <;> rfl
def ui (e:DElem):Int :=
 if yK e.key≠0 then 1 else if e.made<1∨2147483647<e.made∨e.gone≠0∧(e.gone≤e.made∨2147483647<e.gone) then 9 else if 40<e.val.size then 2 else 0
theorem DS (k:DKey):yK k=0∨yK k=1:=by unfold yK;split <;> simp
theorem uK (e:DElem):kz e=some (ui e):=by
 unfold kz ui
 simp only [wS,Option.bind_some,Bool.cond_eq_ite,Bool.or_eq_true,Bool.and_eq_true,decide_eq_true_eq,bne_iff_ne,ne_eq]
 rcases DS e.key with h | h
 · simp only [h,not_true_eq_false,if_false]
   by_cases h1:e.made<1∨2147483647<e.made∨¬e.gone=0∧(e.gone≤e.made∨2147483647<e.gone)
   · rw [if_pos h1,if_pos h1]
   · rw [if_neg h1,if_neg h1]
     by_cases h2:40<e.val.size
     · rw [if_pos h2,if_pos (by omega)]
     · rw [if_neg h2,if_neg (by omega)]
 · simp [h]
theorem vX {e:DElem}(h:ui e=0):yK e.key=0∧1≤e.made∧e.made≤2147483647∧(e.gone=0∨e.made<e.gone∧e.gone≤2147483647)∧e.val.size≤40:=by
 unfold ui at h
 split at h
 · cases h
 · split at h
   · cases h
   · split at h
     · cases h
     · rename_i h1 h2 h3
       refine⟨by simpa using h1,?_⟩
       omega
theorem wrap_i64 {x:Int}(h1 : -9223372036854775808≤x)(h2:x<9223372036854775808):IntKind.i64.wrap x=x:=by
 rw [IntKind.wrap_i64]
 omega
end
section
theorem Fo {a b:Int}:ord a b<0↔a<b:=by unfold ord;(repeat' split) <;> omega
theorem Cmp.refl {α:Type}{f:α→α→Int}(h:Cmp f)(a:α):f a a=0:=(h.zero a a).2 rfl
theorem Cmp.lt_trans {α:Type}{f:α→α→Int}(h:Cmp f){a b c:α}(h1:f a b<0)(h2:f b c<0):f a c<0:=by
 have h3:=h.trans a b c (by omega) (by omega)
 rcases Int.lt_or_eq_of_le h3 with h4 | h4
 · exact h4
 · have:=(h.zero _ _).1 h4
   subst this
   have:=h.neg a b
   omega
theorem Cmp.lt_le {α:Type}{f:α→α→Int}(h:Cmp f){a b c:α}(h1:f a b<0)(h2:f b c≤0):f a c<0:=by
 rcases Int.lt_or_eq_of_le h2 with h3 | h3
 · exact h.lt_trans h1 h3
 · have:=(h.zero _ _).1 h3;subst this;exact h1
theorem Cmp.pos {α:Type}{f:α→α→Int}(h:Cmp f){a b:α}:0<f a b↔f b a<0:=by
 have:=h.neg a b;omega
theorem Cmp.tri {α:Type}{f:α→α→Int}(h:Cmp f)(a b:α):f a b<0∨a=b∨f b a<0:=by
 have h1:=h.neg a b
 rcases h.one a b with h2 | h2 | h2
 · left;omega
 · right;left;exact(h.zero _ _).1 h2
 · right;right;omega
def tY (e:DElem):DSpot:=⟨e.key,e.made⟩
theorem yl {a b:DSpot}:cmpS a b<0↔cmpK a.key b.key<0∨(a.key=b.key∧a.made<b.made):=by
 rw [Bn]
 by_cases h:cmpK a.key b.key=0
 · rw [if_neg (by simpa using h),Fo]
   have:=(um.zero _ _).1 h
   simp [this,um.refl]
 · rw [if_pos h]
   have:a.key≠b.key:=fun e=>h ((um.zero _ _).2 e)
   simp [this]
def Bef (p e:DElem):Prop:=cmpS (tY p) (tY e)<0∧(p.key=e.key→p.gone≠0∧p.gone≤e.made)
theorem Bef.key {p e:DElem}(h:Bef p e):cmpK p.key e.key<0∨p.key=e.key∧p.made<e.made∧p.gone≠0∧p.gone≤e.made:=by
 rcases yl.1 h.1 with h1 | h1
 · exact .inl h1
 · exact .inr ⟨h1.1,h1.2,h.2 h1.1⟩
theorem zp {p e:DElem}:Bef p e↔cmpK p.key e.key<0∨p.key=e.key∧p.made<e.made∧p.gone≠0∧p.gone≤e.made:=by
 refine⟨Bef.key,fun h=>⟨?_,?_⟩⟩
 · rw [yl]
   rcases h with h | h
   · exact .inl h
   · exact .inr ⟨h.1,h.2.1⟩
 · intro hk
   rcases h with h | h
   · rw [hk,um.refl] at h;omega
   · exact h.2.2
theorem Bef.trans {p q e:DElem}(hq:ui q=0)(h1:Bef p q)(h2:Bef q e):Bef p e:=by
 obtain⟨_,_,_,h3,_⟩:=vX hq
 rw [zp] at *
 rcases h1 with h1 | ⟨k1,h1⟩ <;> rcases h2 with h2 | ⟨k2,h2⟩
 · exact .inl (um.lt_trans h1 h2)
 · rw [← k2];exact .inl h1
 · rw [k1];exact .inl h2
 · refine .inr ⟨k1.trans k2,?_⟩;omega
structure Run (l:List DElem):Prop where
 len:l.length≤400
 ok : ∀ e∈l,ui e=0
 ord:l.Pairwise Bef
theorem Run.nil:Run []:=⟨by simp,by simp,List.Pairwise.nil⟩
theorem Run.sub {l m:List DElem}(h:Run l)(hs:m.Sublist l):Run m :=
 ⟨Nat.le_trans hs.length_le h.len,fun e he=>h.ok e (hs.subset he),h.ord.sublist hs⟩
theorem Bef.irrefl {e:DElem}(h:Bef e e):False:=by
 have:=h.1;rw [ue.refl] at this;omega
theorem Bef.asymm {a b:DElem}(h:Bef a b)(k:Bef b a):False:=by
 have h1:=h.1;have h2:=k.1;have:=ue.neg (tY a) (tY b);omega
def hist (l:List DElem)(k:DKey):List DElem:=l.filter fun e=>e.key == k
theorem uY {l:List DElem}{k:DKey}{e:DElem}:e∈hist l k↔e∈l∧e.key=k:=by simp [hist]
theorem Run.hist {l:List DElem}(hl:Run l)(k:DKey):Run (hist l k):=hl.sub List.filter_sublist
def lo (l:List DElem)(k:DKey):List DElem:=l.filter fun e=>decide (cmpK e.key k<0)
def hi (l:List DElem)(k:DKey):List DElem:=l.filter fun e=>decide (0<cmpK e.key k)
theorem Eb {l:List DElem}{k:DKey}{e:DElem}:e∈lo l k↔e∈l∧cmpK e.key k<0:=by simp [lo]
theorem Cr {l:List DElem}{k:DKey}{e:DElem}:e∈hi l k↔e∈l∧0<cmpK e.key k:=by simp [hi]
theorem Bef.le {a b:DElem}(h:Bef a b):cmpK a.key b.key≤0:=by
 rcases h.key with h | h
 · omega
 · rw [h.1,um.refl];omega
theorem Bb : ∀ {l:List DElem} (k:DKey),l.Pairwise Bef→l=lo l k++(hist l k++hi l k)
 | [],k,_=>rfl
 | a::l,k,h=>by
  rw [List.pairwise_cons] at h
  have ih:=Bb k h.2
  have low:0≤cmpK a.key k→lo l k=[]:=fun h0=>by
   unfold lo
   rw [List.filter_eq_nil_iff]
   intro e he
   have h1:=(h.1 e he).le
   have h2:=um.trans k a.key e.key (by have:=um.neg k a.key;omega) h1
   have:=um.neg k e.key
   simp;omega
  have mid:0<cmpK a.key k→hist l k=[]:=fun h0=>by
   unfold hist
   rw [List.filter_eq_nil_iff]
   intro e he
   have h1:=(h.1 e he).le
   have h2:=um.lt_le (a:=k) (b:=a.key) (c:=e.key) (by have:=um.neg k a.key;omega) h1
   simp
   intro e'
   rw [e',um.refl] at h2
   omega
  rcases um.tri a.key k with h1 | h1 | h1
  · have e1:lo (a::l) k=a::lo l k:=by unfold lo;rw [List.filter_cons_of_pos (by simpa using h1)]
    have e2:hist (a::l) k=hist l k:=by
     unfold hist;rw [List.filter_cons_of_neg];simp
     intro e;rw [e,um.refl] at h1;omega
    have e3:hi (a::l) k=hi l k:=by unfold hi;rw [List.filter_cons_of_neg];simp;omega
    rw [e1,e2,e3,List.cons_append,← ih]
  · have e0:cmpK a.key k=0:=by rw [h1,um.refl]
    have e1:lo (a::l) k=[]:=by
     have:=low (by omega);unfold lo at *;rw [List.filter_cons_of_neg (by simp;omega)];exact this
    have e2:hist (a::l) k=a::hist l k:=by unfold hist;rw [List.filter_cons_of_pos (by simpa using h1)]
    have e3:hi (a::l) k=hi l k:=by unfold hi;rw [List.filter_cons_of_neg];simp;omega
    rw [e1,e2,e3]
    rw [low (by omega),List.nil_append] at ih
    rw [List.nil_append,List.cons_append,← ih]
  · have e0:0<cmpK a.key k:=um.pos.2 h1
    have e1:lo (a::l) k=[]:=by
     have:=low (by omega);unfold lo at *;rw [List.filter_cons_of_neg (by simp;omega)];exact this
    have e2:hist (a::l) k=[]:=by
     have:=mid e0;unfold hist at *;rw [List.filter_cons_of_neg];exact this
     simp;intro e;rw [e,um.refl] at h1;omega
    have e3:hi (a::l) k=a::hi l k:=by unfold hi;rw [List.filter_cons_of_pos (by simpa using e0)]
    rw [e1,e2,e3]
    rw [low (by omega),mid e0,List.nil_append,List.nil_append] at ih
    rw [List.nil_append,List.nil_append,← ih]
def upd (l:List DElem)(k:DKey)(h:List DElem):List DElem:=lo l k++(h++hi l k)
theorem zX {l:List DElem}{k:DKey}{h:List DElem}(hl:l.Pairwise Bef):(upd l k h).length+(hist l k).length=l.length+h.length:=by
 have:=congrArg List.length (Bb k hl)
 unfold upd
 simp only [List.length_append] at *
 omega
theorem Ew {l:List DElem}(k:DKey)(hl:l.Pairwise Bef):upd l k (hist l k)=l:=(Bb k hl).symm
theorem xG {l:List DElem}{k:DKey}{h:List DElem}{e:DElem}(hl:l.Pairwise Bef):e∈upd l k h↔e∈h∨e∈l∧e.key≠k:=by
 unfold upd
 rw [List.mem_append,List.mem_append,Eb,Cr]
 constructor
 · rintro(⟨h1,h2⟩ | h1 | ⟨h1,h2⟩)
   · exact .inr ⟨h1,fun e=>by rw [e,um.refl] at h2;omega⟩
   · exact .inl h1
   · exact .inr ⟨h1,fun e=>by rw [e,um.refl] at h2;omega⟩
 · rintro(h1 | ⟨h1,h2⟩)
   · exact .inr (.inl h1)
   · rcases um.tri e.key k with h3 | h3 | h3
     · exact .inl ⟨h1,h3⟩
     · exact absurd h3 h2
     · exact .inr (.inr ⟨h1,um.pos.2 h3⟩)
theorem Run.upd {l:List DElem}{k:DKey}{h:List DElem}(hl:Run l)(hk : ∀ e∈h,e.key=k)(ho : ∀ e∈h,ui e=0)(hp:h.Pairwise Bef)(hn:(upd l k h).length≤400):Run (upd l k h):=by
 refine⟨hn,fun e he=>?_,?_⟩
 · rcases (xG hl.ord).1 he with h1 | h1
   · exact ho e h1
   · exact hl.ok e h1.1
 · unfold Go.Proofs.YtfbpiogbhkgieaaGreat.upd
   rw [List.pairwise_append,List.pairwise_append]
   refine⟨hl.ord.sublist List.filter_sublist,⟨hp,hl.ord.sublist List.filter_sublist,fun a ha b hb=>?_⟩,fun a ha b hb=>?_⟩
   · rw [zp];left
     have:=(Cr.1 hb).2
     rw [hk a ha];exact um.pos.1 this
   · rw [zp];left
     have h1:=(Eb.1 ha).2
     rcases List.mem_append.1 hb with hb | hb
     · rw [hk b hb];exact h1
     · exact um.lt_trans h1 (um.pos.1 (Cr.1 hb).2)
def vq (l:List DElem):Int:=l.foldl (fun t e=>if t<uR e then uR e else t) 0
theorem Cm (l:List DElem):∀ t0 t:Int,l.foldl (fun t e=>if t<uR e then uR e else t) t0≤t↔t0≤t∧∀ e∈l,uR e≤t:=by
 induction l with
 | nil=>intro t0 t;simp
 | cons a l ih =>
  intro t0 t
  rw [List.foldl_cons,ih,List.forall_mem_cons]
  split <;> constructor <;> rintro ⟨h1,h2⟩
  · exact⟨by omega,by omega,h2⟩
  · exact⟨h2.1,h2.2⟩
  · exact⟨by omega,by omega,h2⟩
  · exact⟨h1,h2.2⟩
theorem wJ {l:List DElem}{t:Int}:vq l≤t↔0≤t∧∀ e∈l,uR e≤t:=Cm l 0 t
theorem yr (l:List DElem):0≤vq l:=((wJ (l:=l) (t:=vq l)).1 (Int.le_refl _)).1
theorem wK {l:List DElem}{e:DElem}(h:e∈l):uR e≤vq l:=((wJ (l:=l) (t:=vq l)).1 (Int.le_refl _)).2 e h
theorem xo {e:DElem}{t:Int}:uR e≤t↔e.made≤t∧e.gone≤t:=by unfold uR;split <;> omega
theorem Run.last_le {l:List DElem}(h:Run l):vq l≤2147483647:=by
 rw [wJ]
 refine⟨by omega,fun e he=>?_⟩
 obtain⟨_,_,_,_,_⟩:=vX (h.ok e he)
 rw [xo];omega
theorem zL {α:Type}{R:α→α→Prop}:∀ {l:List α},l.Pairwise R→∀ {a b:α},a∈l→b∈l→a=b∨R a b∨R b a
 | [],_,_,_,h,_=>by simp at h
 | c::l,h,a,b,ha,hb=>by
  rw [List.pairwise_cons] at h
  rcases List.mem_cons.1 ha with ha | ha <;> rcases List.mem_cons.1 hb with hb | hb
  · left;rw [ha,hb]
  · right;left;rw [ha];exact h.1 b hb
  · right;right;rw [hb];exact h.1 a ha
  · exact zL h.2 ha hb
theorem yt {e:DElem}{t:Int}:wi e t=true↔e.made≤t∧(e.gone=0∨t<e.gone):=by unfold wi;simp
theorem Run.live_one {l:List DElem}(h:l.Pairwise Bef){a b:DElem}(ha:a∈l)(hb:b∈l)(hk:a.key=b.key){t:Int}(la:wi a t=true)(lb:wi b t=true):a=b:=by
 rw [yt] at la lb
 have bad : ∀ {x y:DElem},Bef x y→x.key=y.key→(x.made≤t∧(x.gone=0∨t<x.gone))→(y.made≤t∧(y.gone=0∨t<y.gone))→False:=fun hb hk h1 h2=>by
  have:=hb.2 hk;omega
 rcases zL h ha hb with h1 | h1 | h1
 · exact h1
 · exact(bad h1 hk la lb).elim
 · exact(bad h1 hk.symm lb la).elim
def atR (l:List DElem)(k:DKey)(t:Int):Option DElem:=l.find? fun e=>e.key == k&&wi e t
theorem DN (l:List DElem)(k:DKey)(t:Int):atR l k t=(hist l k).find? fun e=>wi e t:=by
 unfold atR hist;rw [List.find?_filter];congr 1;funext e;cases e.key == k <;> simp
theorem Az {e:DElem}{t:Int}(h:uR e≤t):wi e t=(e.gone == 0):=by
 rw [xo] at h
 rw [Bool.eq_iff_iff,yt];simp;omega
def cl (t:Int)(e:DElem):Option DElem:=if e.gone=0 then if e.made=t then none else some { e with gone:=t } else some e
def clo (h:List DElem)(t:Int):List DElem:=h.filterMap (cl t)
def vL (k:DKey)(v:ByteArray)(t:Int):DElem:=⟨k,t,0,v⟩
def cutR (l:List DElem)(k:DKey)(t:Int):List DElem:=upd l k (clo (hist l k) t)
def putR (l:List DElem)(k:DKey)(v:ByteArray)(t:Int):List DElem:=upd l k (clo (hist l k) t++[vL k v t])
theorem xD {t:Int}{e x:DElem}:cl t e=some x↔(e.gone≠0∧x=e)∨(e.gone=0∧e.made≠t∧x = { e with gone:=t }):=by
 unfold cl
 split
 · split
   · simp_all
   · rename_i h1 h2
     simp only [Option.some.injEq]
     constructor
     · rintro rfl;exact .inr ⟨h1,h2,rfl⟩
     · rintro(h | h)
       · exact absurd h1 h.1
       · exact h.2.2.symm
 · rename_i h1
   simp only [Option.some.injEq]
   constructor
   · rintro rfl;exact .inl ⟨h1,rfl⟩
   · rintro(h | h)
     · exact h.2.symm
     · exact absurd h.1 h1
theorem zu {h:List DElem}{t:Int}{x:DElem}:x∈clo h t↔(x∈h∧x.gone≠0)∨∃ e∈h,e.gone=0∧e.made≠t∧x = { e with gone:=t }:=by
 unfold clo
 rw [List.mem_filterMap]
 constructor
 · rintro⟨e,he,h1⟩
   rcases xD.1 h1 with ⟨h2,rfl⟩ | h2
   · exact .inl ⟨he,h2⟩
   · exact .inr ⟨e,he,h2⟩
 · rintro(⟨h1,h2⟩ | ⟨e,he,h2⟩)
   · exact⟨x,h1,xD.2 (.inl ⟨h2,rfl⟩)⟩
   · exact⟨e,he,xD.2 (.inr h2)⟩
theorem Ca (a b:List DElem)(t:Int):clo (a++b) t=clo a t++clo b t:=List.filterMap_append ..
theorem Bm {h:List DElem}{t:Int}(hg : ∀ e∈h,e.gone≠0):clo h t=h:=by
 unfold clo
 induction h with
 | nil=>rfl
 | cons a h ih =>
  rw [List.filterMap_cons_some (b:=a) (xD.2 (.inl ⟨hg a (by simp),rfl⟩)),ih fun e he=>hg e (by simp [he])]
theorem D4 {h:List DElem}{t:Int}(ht:t≠0):∀ e∈clo h t,e.gone≠0:=fun e he=>by
 rcases zu.1 he with h1 | ⟨e',_,_,_,rfl⟩
 · exact h1.2
 · exact ht
theorem Cb (h:List DElem)(t:Int):(clo h t).length≤h.length:=List.length_filterMap_le ..
theorem zH {h:List DElem}{k:DKey}{t:Int}(hk : ∀ e∈h,e.key=k):∀ e∈clo h t,e.key=k:=fun e he=>by
 rcases zu.1 he with h1 | ⟨e',he',_,_,rfl⟩
 · exact hk e h1.1
 · exact hk e' he'
theorem Aw {h:List DElem}{k:DKey}(hp:h.Pairwise Bef)(hk : ∀ e∈h,e.key=k){a b:List DElem}{e:DElem}(he:h=a++e::b)(hg:e.gone=0):b=[]:=by
 subst he
 cases b with
 | nil=>rfl
 | cons x b =>
  rw [List.pairwise_append,List.pairwise_cons] at hp
  have:=(hp.2.1.1 x (by simp)).2 (by rw [hk e (by simp),hk x (by simp)])
  exact absurd hg this.1
theorem Fb {h:List DElem}{k:DKey}{t:Int}(hk : ∀ e∈h,e.key=k)(ho : ∀ e∈h,ui e=0)(hp:h.Pairwise Bef)(ht : ∀ e∈h,uR e≤t)(h0:1≤t)(h1:t≤2147483647) :
 (∀ e∈clo h t,ui e=0)∧(clo h t).Pairwise Bef∧(∀ e∈clo h t,e.gone≤t∧e.made<t):=by
 refine⟨fun e he=>?_,?_,fun e he=>?_⟩
 · rcases zu.1 he with h2 | ⟨e',he',hg,hm,rfl⟩
   · exact ho e h2.1
   · have h3:=ho e' he'
     have h4:=xo.1 (ht e' he')
     obtain⟨c1,c2,c3,c4,c5⟩:=vX h3
     unfold ui
     dsimp only
     rw [if_neg (by simpa using c1),if_neg (by omega),if_neg (by omega)]
 · unfold clo
   rw [List.pairwise_filterMap]
   refine hp.imp_of_mem ?_
   intro a b ha hb hab x hx y hy
   have g:=hab.2 (by rw [hk a ha,hk b hb])
   rcases xD.1 (show cl t a=some x from hx) with ⟨_,rfl⟩ | ⟨h2,_⟩
   · rcases xD.1 (show cl t b=some y from hy) with ⟨_,rfl⟩ | ⟨_,_,rfl⟩
     · exact hab
     · exact hab
   · exact absurd h2 g.1
 · rcases zu.1 he with ⟨h2,h3⟩ | ⟨e',he',hg,hm,rfl⟩
   · have h4:=xo.1 (ht e h2)
     obtain⟨_,c2,c3,c4,_⟩:=vX (ho e h2)
     omega
   · have h4:=xo.1 (ht e' he')
     dsimp only
     omega
theorem yx {k:DKey}{v:ByteArray}{t:Int}(hc:ui (vL k v t)=0):yK k=0∧1≤t∧t≤2147483647∧v.size≤40:=by
 obtain⟨h1,h2,h3,h4,h5⟩:=vX hc
 exact⟨h1,h2,h3,h5⟩
section
variable {l:List DElem} {k:DKey} {t:Int} {v:ByteArray}
theorem wq (l:List DElem)(k:DKey):∀ e∈hist l k,e.key=k:=fun e he=>(uY.1 he).2
theorem Run.clo (h:Run l)(ht:vq l≤t)(h0:1≤t)(h1:t≤2147483647)(k:DKey) :
 (∀ e∈clo (Go.Proofs.YtfbpiogbhkgieaaGreat.hist l k) t,ui e=0)∧(Go.Proofs.YtfbpiogbhkgieaaGreat.clo (Go.Proofs.YtfbpiogbhkgieaaGreat.hist l k) t).Pairwise Bef∧(∀ e∈Go.Proofs.YtfbpiogbhkgieaaGreat.clo (Go.Proofs.YtfbpiogbhkgieaaGreat.hist l k) t,e.gone≤t∧e.made<t) :=
 Fb (wq l k) (h.hist k).ok (h.hist k).ord (fun e he=>by have:=wK (uY.1 he).1;omega) h0 h1
theorem Run.cutR (h:Run l)(ht:vq l≤t)(h0:1≤t)(h1:t≤2147483647)(k:DKey):Run (cutR l k t):=by
 obtain⟨c1,c2,c3⟩:=h.clo ht h0 h1 k
 refine h.upd (zH (wq l k)) c1 c2 ?_
 have h2:=zX (k:=k) (h:=Go.Proofs.YtfbpiogbhkgieaaGreat.clo (Go.Proofs.YtfbpiogbhkgieaaGreat.hist l k) t) h.ord
 have h3:=Cb (Go.Proofs.YtfbpiogbhkgieaaGreat.hist l k) t
 have:=h.len
 omega
theorem Em (h:Run l)(ht:vq l≤t)(hc:ui (vL k v t)=0) :
 (∀ e∈clo (hist l k) t++[vL k v t],e.key=k)∧(∀ e∈clo (hist l k) t++[vL k v t],ui e=0)∧(clo (hist l k) t++[vL k v t]).Pairwise Bef:=by
 obtain⟨_,h0,h1,_⟩:=yx hc
 obtain⟨c1,c2,c3⟩:=h.clo ht h0 h1 k
 refine⟨fun e he=>?_,fun e he=>?_,?_⟩
 · rcases List.mem_append.1 he with he | he
   · exact zH (wq l k) e he
   · simp at he;subst he;rfl
 · rcases List.mem_append.1 he with he | he
   · exact c1 e he
   · simp at he;subst he;exact hc
 · rw [List.pairwise_append]
   refine⟨c2,by simp,fun a ha b hb=>?_⟩
   simp at hb;subst hb
   have h2:=c3 a ha
   rw [zp]
   right
   refine⟨zH (wq l k) a ha,h2.2,D4 (by omega) a ha,h2.1⟩
theorem Run.putR (h:Run l)(ht:vq l≤t)(hc:ui (vL k v t)=0)(hn:(putR l k v t).length≤400):Run (putR l k v t):=by
 obtain⟨h1,h2,h3⟩:=Em h ht hc
 exact h.upd h1 h2 h3 hn
def ve (l:List DElem)(k:DKey):Option DElem:=(hist l k).find? fun e=>e.gone == 0
theorem EP (h:Run l){u:Int}(hu:vq l≤u)(k:DKey):atR l k u=ve l k:=by
 rw [DN]
 unfold ve
 have key : ∀ h:List DElem,(∀ e∈h,uR e≤u)→h.find? (fun e=>wi e u)=h.find? fun e=>e.gone == 0:=by
  intro h
  induction h with
  | nil=>intro _;rfl
  | cons a h ih =>
   intro hh
   rw [List.find?_cons,List.find?_cons,Az (hh a (by simp)),ih fun e he=>hh e (by simp [he])]
 exact key _ fun e he=>by have:=wK (uY.1 he).1;omega
theorem wM (h:l.Pairwise Bef){e:DElem}:ve l k=some e↔e∈l∧e.key=k∧e.gone=0:=by
 unfold ve
 constructor
 · intro hf
   have h1:=List.mem_of_find?_eq_some hf
   have h2:=List.find?_some hf
   rw [uY] at h1
   exact⟨h1.1,h1.2,by simpa using h2⟩
 · rintro⟨h1,h2,h3⟩
   cases hf:(hist l k).find? (fun e=>e.gone == 0) with
   | none =>
    rw [List.find?_eq_none] at hf
    have:=hf e (uY.2 ⟨h1,h2⟩)
    simp [h3] at this
   | some a =>
    have g1:=uY.1 (List.mem_of_find?_eq_some hf)
    have g2:=List.find?_some hf
    simp only [beq_iff_eq] at g2
    have la:wi a (max a.made e.made)=true:=by rw [yt];omega
    have le:wi e (max a.made e.made)=true:=by rw [yt];omega
    rw [Run.live_one h g1.1 h1 (g1.2.trans h2.symm) la le]
theorem Dn:ve l k=none↔∀ e∈l,e.key=k→e.gone≠0:=by
 unfold ve
 rw [List.find?_eq_none]
 constructor
 · intro h e he hk;have:=h e (uY.2 ⟨he,hk⟩);simpa using this
 · intro h e he;have:=h e (uY.1 he).1 (uY.1 he).2;simpa using this
theorem xO (h:ve l k=none):clo (hist l k) t=hist l k:=Bm fun e he=>Dn.1 h e (uY.1 he).1 (uY.1 he).2
theorem Af (h:l.Pairwise Bef){e:DElem}(hn:ve l k=some e):∃ a,hist l k=a++[e]∧∀ x∈a,x.gone≠0:=by
 obtain⟨h1,h2,h3⟩:=(wM h).1 hn
 obtain⟨a,b,hab⟩:=List.append_of_mem (uY.2 ⟨h1,h2⟩)
 have hp:=h.sublist (List.filter_sublist (p:=fun e=>e.key == k))
 have hb:=Aw (show (hist l k).Pairwise Bef from hp) (wq l k) hab h3
 subst hb
 refine⟨a,hab,fun x hx hg=>?_⟩
 obtain⟨c,d,rfl⟩:=List.append_of_mem hx
 have hab' : hist l k=c++x::(d++[e]):=by rw [hab];simp
 have:=Aw (show (hist l k).Pairwise Bef from hp) (wq l k) hab' hg
 simp at this
theorem CP (h:l.Pairwise Bef){e:DElem}(hn:ve l k=some e):∃ a,hist l k=a++[e]∧clo (hist l k) t=a++(if e.made=t then [] else [{ e with gone:=t }]):=by
 obtain⟨a,ha,hg⟩:=Af h hn
 refine⟨a,ha,?_⟩
 have h3:=((wM h).1 hn).2.2
 rw [ha,Ca,Bm hg]
 congr 1
 unfold clo
 by_cases hm:e.made=t
 · rw [if_pos hm,List.filterMap_cons_none (by unfold cl;rw [if_pos h3,if_pos hm])];rfl
 · rw [if_neg hm,List.filterMap_cons_some (b:={ e with gone:=t }) (by unfold cl;rw [if_pos h3,if_neg hm])];rfl
theorem yd (h:Run l):(putR l k v t).length=match ve l k with
 | some e=>if e.made=t then l.length else l.length+1
 | none=>l.length+1:=by
 have h1:=zX (k:=k) (h:=clo (hist l k) t++[vL k v t]) h.ord
 unfold putR
 rw [List.length_append,List.length_singleton] at h1
 generalize (upd l k (clo (hist l k) t++[vL k v t])).length=n at h1 ⊢
 cases hn:ve l k with
 | none=>rw [xO hn] at h1;show n=l.length+1;omega
 | some e =>
  obtain⟨a,ha,hc⟩:=CP (t:=t) h.ord hn
  rw [hc,ha] at h1
  dsimp only
  by_cases hm:e.made=t
  · rw [if_pos hm] at *;simp at h1 ⊢;omega
  · rw [if_neg hm] at *;simp at h1 ⊢;omega
theorem DV (h:Run l)(hn:ve l k=none):cutR l k t=l:=by
 unfold cutR
 rw [xO hn,Ew k h.ord]
end
end
section
def SpO (p e:DElem):Prop:=cmpS (tY p) (tY e)<0
theorem SpO.irrefl {e:DElem}(h:SpO e e):False:=by unfold SpO at h;rw [ue.refl] at h;omega
theorem SpO.asymm {a b:DElem}(h:SpO a b)(k:SpO b a):False:=by
 unfold SpO at h k;have:=ue.neg (tY a) (tY b);omega
theorem SpO.trans {a b c:DElem}(h:SpO a b)(k:SpO b c):SpO a c:=ue.lt_trans h k
theorem xA {l:List DElem}(h:l.Pairwise Bef):l.Pairwise SpO:=h.imp fun hb=>hb.1
theorem Bc : ∀ {l m:List DElem},l.Pairwise SpO→m.Pairwise SpO→(∀ e,e∈l↔e∈m)→l=m
 | [],[],_,_,_=>rfl
 | [],b::m,_,_,h=>by have:=(h b).2 (by simp);simp at this
 | a::l,[],_,_,h=>by have:=(h a).1 (by simp);simp at this
 | a::l,b::m,hl,hm,h=>by
  rw [List.pairwise_cons] at hl hm
  have hab:a=b:=by
   have h1:=(h a).1 (by simp)
   have h2:=(h b).2 (by simp)
   rcases List.mem_cons.1 h1 with h1 | h1
   · exact h1
   · rcases List.mem_cons.1 h2 with h2 | h2
     · exact h2.symm
     · exact(SpO.asymm (hm.1 a h1) (hl.1 b h2)).elim
  subst hab
  congr 1
  refine Bc hl.2 hm.2 fun e=>?_
  constructor
  · intro he
    rcases List.mem_cons.1 ((h e).1 (List.mem_cons_of_mem _ he)) with h1 | h1
    · subst h1;exact(SpO.irrefl (hl.1 _ he)).elim
    · exact h1
  · intro he
    rcases List.mem_cons.1 ((h e).2 (List.mem_cons_of_mem _ he)) with h1 | h1
    · subst h1;exact(SpO.irrefl (hm.1 _ he)).elim
    · exact h1
def B7 (l:List DElem)(s:DSpot):List DElem:=l.filter fun x=>decide (cmpS (tY x) s<0)
def B5 (l:List DElem)(s:DSpot):List DElem:=l.filter fun x=>decide (0<cmpS (tY x) s)
def AQ (l:List DElem)(e:DElem):List DElem:=B7 l (tY e)++e::B5 l (tY e)
theorem zK {l:List DElem}{s:DSpot}{x:DElem}:x∈B7 l s↔x∈l∧cmpS (tY x) s<0:=by simp [B7]
theorem xY {l:List DElem}{s:DSpot}{x:DElem}:x∈B5 l s↔x∈l∧0<cmpS (tY x) s:=by simp [B5]
theorem BF {l:List DElem}{e x:DElem}:x∈AQ l e↔x=e∨x∈l∧tY x≠tY e:=by
 unfold AQ
 rw [List.mem_append,List.mem_cons,zK,xY]
 have h0:=ue.zero (tY x) (tY e)
 constructor
 · rintro(⟨h1,h2⟩ | h1 | ⟨h1,h2⟩)
   · exact .inr ⟨h1,fun h=>by rw [h0.2 h] at h2;omega⟩
   · exact .inl h1
   · exact .inr ⟨h1,fun h=>by rw [h0.2 h] at h2;omega⟩
 · rintro(h1 | ⟨h1,h2⟩)
   · exact .inr (.inl h1)
   · rcases Int.lt_trichotomy (cmpS (tY x) (tY e)) 0 with h | h | h
     · exact .inl ⟨h1,h⟩
     · exact(h2 (h0.1 h)).elim
     · exact .inr (.inr ⟨h1,h⟩)
theorem ze {l:List DElem}(h:l.Pairwise SpO)(e:DElem):(AQ l e).Pairwise SpO:=by
 unfold AQ
 rw [List.pairwise_append,List.pairwise_cons]
 refine⟨h.sublist List.filter_sublist,⟨fun x hx=>ue.pos.1 (xY.1 hx).2,h.sublist List.filter_sublist⟩,fun a ha b hb=>?_⟩
 have h1:=(zK.1 ha).2
 rcases List.mem_cons.1 hb with rfl | hb
 · exact h1
 · exact ue.lt_trans h1 (ue.pos.1 (xY.1 hb).2)
def xd (t:Int)(e:DElem):DElem:=if t<e.gone then { e with gone:=0 } else e
def AF (l:List DElem)(pfs t:Int):List DElem:=(l.filter fun e=>decide (e.made≤t)&&e.key.pfs == pfs).map (xd t)
def Ff (l:List DElem)(pfs from_ to:Int):List DElem:=(AF l pfs to).filter fun e=>decide (from_<uR e)
theorem xK (t:Int)(e:DElem):(xd t e).key=e.key:=by unfold xd;split <;> rfl
theorem yh (t:Int)(e:DElem):(xd t e).made=e.made:=by unfold xd;split <;> rfl
theorem DD (t:Int)(e:DElem):(xd t e).val=e.val:=by unfold xd;split <;> rfl
theorem zU (t:Int)(e:DElem):tY (xd t e)=tY e:=by unfold tY;rw [xK,yh]
theorem zS (t:Int)(e:DElem):(xd t e).gone=if t<e.gone then 0 else e.gone:=by unfold xd;split <;> rfl
theorem Eu {t:Int}{e:DElem}(h:ui e=0):ui (xd t e)=0:=by
 obtain⟨h1,h2,h3,h4,h5⟩:=vX h
 unfold ui
 rw [xK,yh,DD,zS,if_neg (by rw [h1];simp),if_neg,if_neg (by omega)]
 split <;> omega
theorem Dm {l:List DElem}{pfs t:Int}{x:DElem}:x∈AF l pfs t↔∃ e∈l,e.made≤t∧e.key.pfs=pfs∧x=xd t e:=by
 simp only [AF,List.mem_map,List.mem_filter,Bool.and_eq_true,decide_eq_true_eq,beq_iff_eq]
 constructor
 · rintro⟨e,⟨h1,h2,h3⟩,rfl⟩;exact⟨e,h1,h2,h3,rfl⟩
 · rintro⟨e,h1,h2,h3,rfl⟩;exact⟨e,⟨h1,h2,h3⟩,rfl⟩
theorem Run.upto {l:List DElem}(h:Run l)(pfs t:Int):Run (AF l pfs t):=by
 refine⟨?_,fun x hx=>?_,?_⟩
 · unfold AF;rw [List.length_map];exact Nat.le_trans (List.length_filter_le _ _) h.len
 · obtain⟨e,he,_,_,rfl⟩:=Dm.1 hx
   exact Eu (h.ok e he)
 · unfold AF
   rw [List.pairwise_map]
   refine(h.ord.sublist List.filter_sublist).imp_of_mem fun {a b} ha hb hab=>?_
   have hb' : b.made≤t:=by have:=(List.mem_filter.1 hb).2;simp at this;exact this.1
   refine⟨by rw [zU,zU];exact hab.1,fun hk=>?_⟩
   rw [xK,xK] at hk
   have:=hab.2 hk
   rw [zS,yh,if_neg (by omega)]
   exact this
theorem Run.fresh {l:List DElem}(h:Run l)(pfs a b:Int):Run (Ff l pfs a b):=(h.upto pfs b).sub List.filter_sublist
end
section
variable {F:Nat} [Big F]
theorem ud (e:DElem):jb e=some (tY e):=rfl
def DP (p e:DElem):Bool:=decide (cmpS (tY p) (tY e)<0)&&(p.key != e.key||(p.gone != 0&&decide (p.gone≤e.made)))
theorem Bl {p e:DElem}:DP p e=true↔Bef p e:=by
 unfold DP Bef
 simp only [Bool.and_eq_true,Bool.or_eq_true,decide_eq_true_eq,bne_iff_ne,ne_eq]
 constructor
 · rintro⟨h1,h2⟩;exact⟨h1,fun hk=>h2.resolve_left fun h=>h hk⟩
 · rintro⟨h1,h2⟩;exact⟨h1,(Decidable.em (p.key=e.key)).elim (fun h=>.inr (h2 h)) .inl⟩
def xh (l:List DElem)(k:Nat)(e:DElem):Option Int :=
 if ui e≠0 then some (ui e) else if k=0 then none else
  match l[k-1]? with
  | some p=>if DP p e then none else some 3
  | none=>none
theorem zx {l:List DElem}{e:DElem}(h:ui e=0):xh l 0 e=none:=by unfold xh;rw [if_neg (by simpa using h),if_pos rfl]
theorem xQ {l:List DElem}{j:Nat}{p e:DElem}(h:ui e=0)(hj:l[j]? = some p):xh l (j+1) e=if DP p e then none else some 3:=by
 unfold xh;rw [if_neg (by simpa using h),if_neg (by omega),Nat.add_sub_cancel,hj]
theorem Ap {l:List DElem}{k:Nat}{e:DElem}(h:ui e≠0):xh l k e=some (ui e):=by unfold xh;rw [if_pos h]
def xL (l:List DElem):Int:=if 400<l.length then 2 else ((l.zipIdx).findSome? fun p=>xh l p.2 p.1).getD 0
theorem vj {α β γ:Type}(g:β→γ)(w:α→Option β):∀ l:List α,(l.findSome? fun a=>(w a).map g)=(l.findSome? w).map g
 | []=>rfl
 | a::l=>by
  rw [List.findSome?_cons,List.findSome?_cons]
  cases w a with
  | some b=>rfl
  | none=>exact vj g w l
theorem yC (l:List DElem):nY F l=some (xL l):=by
 unfold nY xL
 by_cases hl:400<l.length
 · rw [if_pos hl,decide_eq_true (by omega),cond_true]
 · rw [if_neg hl,decide_eq_false (by omega),cond_false]
   rw [rp l (fun k e=>(xh l k e).map Sum.inr) (Sum.inl ()) (by omega) rfl (fun k e hk hb=>?_) (by simp)]
   · rw [vj]
     cases l.zipIdx.findSome? fun p=>xh l p.2 p.1 <;> rfl
   · have hkl:=(ggs.1 hk).1
     rw [decide_eq_true (by omega),cond_true,tz,hk,obs,uK,obs]
     by_cases hc:ui e=0
     · rw [sV hc,cond_false]
       cases k with
       | zero=>rw [zx hc];simp [w64]
       | succ j =>
        obtain⟨p,hj⟩ : ∃ p,l[j]? = some p:=⟨_,gge (show j<l.length by omega)⟩
        rw [xQ hc hj,show (((j+1:Nat):Int) == 0)=false by rw [beq_eq_false_iff_ne];omega,cond_false,w64 (by omega) (by omega),show (((j+1:Nat):Int)-1)=(j:Int) by omega,tz,hj,w64 (by omega) (by omega)]
        simp only [obs,ud,uo]
        unfold DP
        by_cases h1:cmpS (tY p) (tY e)<0
        · rw [decide_eq_false (by omega),cond_false,decide_eq_true h1,Bool.true_and]
          by_cases h2:p.key=e.key
          · rw [show (p.key == e.key)=true by simpa using h2,cond_true,show (p.key != e.key)=false by simpa using h2,Bool.false_or]
            by_cases h3:p.gone=0
            · rw [show (p.gone == 0)=true by simpa using h3,cond_true,show (p.gone != 0)=false by simpa using h3];rfl
            · rw [show (p.gone == 0)=false by simpa using h3,cond_false,show (p.gone != 0)=true by simpa using h3,Bool.true_and]
              by_cases h4:p.gone≤e.made
              · rw [decide_eq_false (by omega),decide_eq_true h4];rfl
              · rw [decide_eq_true (by omega),decide_eq_false h4];rfl
          · rw [show (p.key == e.key)=false by simpa using h2,cond_false,show (p.key != e.key)=true by simpa using h2];rfl
        · rw [decide_eq_true (by omega),cond_true,decide_eq_false h1];rfl
     · rw [s9 hc,cond_true,Ap hc];rfl
theorem wo {l:List DElem}:xL l=0↔Run l:=by
 unfold xL
 by_cases hl:400<l.length
 · rw [if_pos hl]
   constructor
   · intro h;cases h
   · intro h;have:=h.len;omega
 · rw [if_neg hl]
   cases hf:l.zipIdx.findSome? fun p=>xh l p.2 p.1 with
   | some c =>
    obtain⟨k,e,hk,hb⟩:=tg hf
    rw [Option.getD_some]
    constructor
    · intro hc
      subst hc
      unfold xh at hb
      split at hb
      · rename_i h;exact absurd (Option.some.inj hb) h
      · split at hb
        · cases hb
        · split at hb
          · split at hb
            · cases hb
            · cases hb
          · cases hb
    · intro h
      have he:=h.ok e (List.mem_of_getElem? hk)
      cases k with
      | zero=>rw [zx he] at hb;cases hb
      | succ j =>
       have hkl:=(ggs.1 hk).1
       have hj:l[j]? = some l[j]:=gge (by omega)
       have hp:=List.pairwise_iff_getElem.1 h.ord j (j+1) (by omega) hkl (by omega)
       rw [(ggs.1 hk).2] at hp
       rw [xQ he hj,if_pos (Bl.2 hp)] at hb
       cases hb
   | none =>
    rw [tf] at hf
    refine⟨fun _=>?_,fun _=>rfl⟩
    have hok : ∀ e∈l,ui e=0:=fun e he=>by
     obtain⟨k,hk,rfl⟩:=List.getElem_of_mem he
     have h1:=hf k _ (gge hk)
     by_cases hc:ui l[k]=0
     · exact hc
     · rw [Ap hc] at h1;cases h1
    refine⟨by omega,hok,?_⟩
    rw [List.pairwise_iff_getElem]
    have step : ∀ j (hj:j+1<l.length),Bef l[j] l[j+1]:=fun j hj=>by
     have h1:=hf (j+1) _ (gge hj)
     rw [xQ (hok _ (List.getElem_mem hj)) (gge (show j<l.length by omega))] at h1
     split at h1
     · rename_i h;exact Bl.1 h
     · cases h1
    have far : ∀ d i (hd:i+d+1<l.length),Bef (l[i]'(by omega)) l[i+d+1]:=by
     intro d
     induction d with
     | zero=>intro i hd;exact step i hd
     | succ d ih =>
      intro i hd
      have h1:=ih i (by omega)
      have h2:=step (i+d+1) (by omega)
      exact h1.trans (hok _ (List.getElem_mem _)) h2
    intro i j hi hj hij
    have:=far (j-i-1) i (by omega)
    have e:i+(j-i-1)+1=j:=by omega
    simp only [e] at this
    exact this
def BZ:DElem:=⟨⟨0,0,0⟩,0,0,ByteArray.mk #[]⟩
section
variable {α:Type} {l a b:List α} {x:α}
end
theorem Run.made {l:List DElem}(h:Run l){e:DElem}(he:e∈l):1≤e.made∧e.made≤2147483647:=by
 obtain⟨_,h1,h2,_⟩:=vX (h.ok e he);exact⟨h1,h2⟩
def CG (l:List DElem)(k:DKey)(v:ByteArray)(t:Int):Int :=
 if xL l≠0 then xL l else if ui (vL k v t)≠0 then ui (vL k v t) else if t<vq l then 9 else if 400<(putR l k v t).length then 8 else 0
theorem Dw {l:List DElem}{k:DKey}{v:ByteArray}{t:Int}:CG l k v t=0↔Run l∧ui (vL k v t)=0∧vq l≤t∧(putR l k v t).length≤400:=by
 unfold CG
 rw [← wo]
 split
 · simp_all
 · split
   · simp_all
   · split
     · constructor
       · intro h;cases h
       · omega
     · split
       · constructor
         · intro h;cases h
         · omega
       · simp_all
def Cd (l:List DElem)(k:DKey)(t:Int):Int :=
 if xL l≠0 then xL l else if yK k≠0 then yK k else if t<1∨2147483647<t∨t<vq l then 9 else if (ve l k).isNone then 4 else 0
theorem Db {l:List DElem}{k:DKey}{t:Int}:Cd l k t=0↔Run l∧yK k=0∧1≤t∧t≤2147483647∧vq l≤t∧(ve l k).isSome=true:=by
 unfold Cd
 rw [← wo]
 split
 · simp_all
 · split
   · simp_all
   · split
     · constructor
       · intro h;cases h
       · omega
     · cases ve l k
       · simp
       · simp_all
end
section
variable {F:Nat} [Big F]
def SpotO (a b:DSpot):Prop:=cmpS a b<0
def zE (s:DSpot):DElem:=⟨s.key,s.made,0,ByteArray.mk #[]⟩
def vd (l:List DElem)(k:Nat)(e:DElem):Option Int :=
 if ui e≠0 then some (ui e) else match k with
  | 0=>none
  | j+1=>match l[j]? with
   | some p=>if 0≤cmpS (tY p) (tY e) then some 3 else none
   | none=>none
def BC (n:DNode):Int :=
 if 0<n.kids.length∨0<n.seps.length∨0<n.tids.length then 3 else if 8<n.elems.length then 2 else (n.elems.zipIdx.findSome? fun p=>vd n.elems p.2 p.1).getD 0
def xn (ts:List Int)(k:Nat)(e:Int):Option Int :=
 if e<0∨400≤e then some 1 else if (ts[k]?).getD 0<0∨2147483647<(ts[k]?).getD 0 then some 9 else none
def yD (l:List DSpot)(k:Nat)(s:DSpot):Option Int :=
 if ui (zE s)≠0 then some (ui (zE s)) else match k with
  | 0=>none
  | j+1=>match l[j]? with
   | some p=>if 0≤cmpS p s then some 3 else none
   | none=>none
def zC (n:DNode):Int :=
 if 0<n.elems.length∨n.kids.length<2∨n.seps.length+1≠n.kids.length∨n.tids.length≠n.kids.length then 3
 else if 8<n.kids.length then 2
 else match n.kids.zipIdx.findSome? fun p=>xn n.tids p.2 p.1 with
  | some e=>e
  | none=>(n.seps.zipIdx.findSome? fun p=>yD n.seps p.2 p.1).getD 0
def uv (n:DNode):Int :=
 if n.kind=0 then if 0<n.elems.length∨0<n.kids.length∨0<n.seps.length∨0<n.tids.length then 3 else 0
 else if n.kind=1 then BC n else if n.kind=2 then zC n else 3
theorem AV (n:DNode):nV F n=some (BC n):=by
 unfold nV BC
 simp only [Bool.cond_eq_ite,Bool.or_eq_true,decide_eq_true_eq]
 by_cases h:0<n.kids.length∨0<n.seps.length∨0<n.tids.length
 · rw [if_pos h,if_pos (by omega)]
 rw [if_neg h,if_neg (by omega)]
 by_cases h8:8<n.elems.length
 · rw [if_pos h8,if_pos (by omega)]
 rw [if_neg h8,if_neg (by omega)]
 rw [rp n.elems (fun k e=>(vd n.elems k e).map Sum.inr) (.inl ()) (by omega) rfl (fun k e hk hb=>?_) (by simp)]
 · rw [vj,obs]
   cases (n.elems.zipIdx.findSome? fun p=>vd n.elems p.2 p.1) <;> rfl
 · have hkl:=(ggs.1 hk).1
   rw [if_pos (by omega),tz,hk,obs,uK,obs]
   unfold vd
   by_cases hc:ui e=0
   · rw [if_neg (show ¬ ((ui e != 0)=true) by simpa using hc),if_neg (show ¬ (ui e≠0) by simpa using hc)]
     cases k with
     | zero =>
      rw [if_neg (show ¬ ((0:Int)<((0:Nat):Int)) by omega),w64 (by omega) (by omega)];rfl
     | succ j =>
      obtain⟨p,hp⟩ : ∃ p,n.elems[j]? = some p:=⟨_,gge (by omega)⟩
      have e1:IntKind.i64.wrap (((j+1:Nat):Int)-1)=(j:Int):=by rw [w64 (by omega) (by omega)];omega
      rw [if_pos (show (0:Int)<((j+1:Nat):Int) by omega),e1,tz,hp]
      simp only [obs,ud,uo,decide_eq_true_eq,hp]
      by_cases hs:0≤cmpS (tY p) (tY e)
      · rw [if_pos hs,if_pos hs];rfl
      · rw [if_neg hs,if_neg hs,w64 (by omega) (by omega)];rfl
   · rw [if_pos (show ((ui e != 0)=true) by simpa using hc),if_pos (show (ui e≠0) by simpa using hc)];rfl
theorem Ah (n:DNode)(hn:n.kids.length≤9000000000000000000)(hs:n.seps.length≤9000000000000000000):nl F n=some (zC n):=by
 unfold nl zC
 simp only [Bool.cond_eq_ite,Bool.or_eq_true,decide_eq_true_eq,bne_iff_ne,ne_eq]
 rw [w64 (n:=(n.kids.length:Int)-1) (by omega) (by omega)]
 by_cases h:0<n.elems.length∨n.kids.length<2∨n.seps.length+1≠n.kids.length∨n.tids.length≠n.kids.length
 · rw [if_pos h,if_pos (by omega)]
 rw [if_neg h,if_neg (by omega)]
 by_cases h8:8<n.kids.length
 · rw [if_pos h8,if_pos (by omega)]
 rw [if_neg h8,if_neg (by omega)]
 rw [rp n.kids (fun k e=>(xn n.tids k e).map Sum.inr) (.inl ()) (by omega) rfl (fun k e hk hb=>?_) (by simp)]
 · rw [vj,obs]
   cases (n.kids.zipIdx.findSome? fun p=>xn n.tids p.2 p.1) with
   | some e=>rfl
   | none =>
    show (iter _ F (0:Int)).bind _=_
    rw [rp n.seps (fun k e=>(yD n.seps k e).map Sum.inr) (.inl ()) (by omega) rfl (fun k e hk hb=>?_) (by simp)]
    · rw [vj,obs]
      cases (n.seps.zipIdx.findSome? fun p=>yD n.seps p.2 p.1) <;> rfl
    · have hkl:=(ggs.1 hk).1
      rw [if_pos (by omega),tz,hk,obs,uK,obs]
      unfold yD
      show (if ¬ ui (zE e)=0 then _ else _)=_
      by_cases hc:ui (zE e)=0
      · rw [if_neg (show ¬ ¬ (ui (zE e)=0) by simpa using hc),if_neg (show ¬ (ui (zE e)≠0) by simpa using hc)]
        cases k with
        | zero =>
         rw [if_neg (show ¬ ((0:Int)<((0:Nat):Int)) by omega),w64 (by omega) (by omega)];rfl
        | succ j =>
         obtain⟨p,hp⟩ : ∃ p,n.seps[j]? = some p:=⟨_,gge (by omega)⟩
         have e1:IntKind.i64.wrap (((j+1:Nat):Int)-1)=(j:Int):=by rw [w64 (by omega) (by omega)];omega
         rw [if_pos (show (0:Int)<((j+1:Nat):Int) by omega),e1,tz,hp]
         simp only [obs,uo,decide_eq_true_eq,hp]
         by_cases hs:0≤cmpS p e
         · rw [if_pos hs,if_pos hs];rfl
         · rw [if_neg hs,if_neg hs,w64 (by omega) (by omega)];rfl
      · rw [if_pos (show ¬ (ui (zE e)=0) from hc),if_pos (show (ui (zE e)≠0) from hc)];rfl
 · have hkl:=(ggs.1 hk).1
   rw [if_pos (by omega),tz,hk,obs]
   unfold xn
   by_cases h1:e<0∨400≤e
   · rw [if_pos h1,if_pos h1];rfl
   · obtain⟨t,ht⟩ : ∃ t,n.tids[k]? = some t:=⟨_,gge (by omega)⟩
     rw [if_neg h1,if_neg h1,tz,ht,obs,Option.getD_some]
     by_cases h2:t<0∨2147483647<t
     · rw [if_pos h2,if_pos h2];rfl
     · rw [if_neg h2,if_neg h2,w64 (by omega) (by omega)];rfl
structure Small (n:DNode):Prop where
 elems:n.elems.length≤9000000000000000000
 kids:n.kids.length≤9000000000000000000
 seps:n.seps.length≤9000000000000000000
 tids:n.tids.length≤9000000000000000000
theorem Ag (n:DNode)(h:Small n):nk F n=some (uv n):=by
 unfold nk uv
 simp only [Bool.cond_eq_ite,Bool.or_eq_true,decide_eq_true_eq,beq_iff_eq]
 by_cases h0:n.kind=0
 · rw [if_pos h0,if_pos h0]
   by_cases h1:0<n.elems.length∨0<n.kids.length∨0<n.seps.length∨0<n.tids.length
   · rw [if_pos h1,if_pos (by omega)]
   · rw [if_neg h1,if_neg (by omega)]
 rw [if_neg h0,if_neg h0]
 by_cases h1:n.kind=1
 · rw [if_pos h1,if_pos h1,AV];rfl
 rw [if_neg h1,if_neg h1]
 by_cases h2:n.kind=2
 · rw [if_pos h2,if_pos h2,Ah n h.kids h.seps];rfl
 · rw [if_neg h2,if_neg h2]
structure Leaf (n:DNode):Prop where
 kids:n.kids=[]
 seps:n.seps=[]
 tids:n.tids=[]
 len:n.elems.length≤8
 ok : ∀ e∈n.elems,ui e=0
 ord:n.elems.Pairwise SpO
structure Inner (n:DNode):Prop where
 elems:n.elems=[]
 two:2≤n.kids.length
 eight:n.kids.length≤8
 seps:n.seps.length+1=n.kids.length
 tids:n.tids.length=n.kids.length
 kid : ∀ k∈n.kids,0≤k∧k<400
 tid : ∀ t∈n.tids,0≤t∧t≤2147483647
 ok : ∀ s∈n.seps,ui (zE s)=0
 ord:n.seps.Pairwise SpotO
theorem vY {α:Type}{R:α→α→Prop}(ht : ∀ a b c,R a b→R b c→R a c):∀ {l:List α},(∀ j p e,l[j]? = some p→l[j+1]? = some e→R p e)→l.Pairwise R
 | [],_=>List.Pairwise.nil
 | [a],_=>List.pairwise_singleton _ _
 | a::b::l,h=>by
  have ih:=vY ht (l:=b::l) fun j p e h1 h2=>h (j+1) p e h1 h2
  have hab:=h 0 a b rfl rfl
  rw [List.pairwise_cons]
  refine⟨fun x hx=>?_,ih⟩
  rcases List.mem_cons.1 hx with rfl | hx
  · exact hab
  · rw [List.pairwise_cons] at ih
    exact ht _ _ _ hab (ih.1 x hx)
theorem uV {α:Type}{R:α→α→Prop}{l:List α}(h:l.Pairwise R){i j:Nat}{a b:α}(hij:i<j)(ha:l[i]? = some a)(hb:l[j]? = some b):R a b:=by
 obtain⟨h1,rfl⟩:=ggs.1 ha
 obtain⟨h2,rfl⟩:=ggs.1 hb
 exact List.pairwise_iff_getElem.1 h i j h1 h2 hij
theorem vC {l:List DElem}{k:Nat}{e:DElem}:vd l k e=none↔ui e=0∧∀ j p,k=j+1→l[j]? = some p→SpO p e:=by
 unfold vd
 by_cases hc:ui e=0
 · rw [if_neg (by simpa using hc)]
   cases k with
   | zero=>exact ⟨fun _=>⟨hc,fun j p h=>by omega⟩,fun _=>rfl⟩
   | succ j =>
    dsimp only
    constructor
    · intro h
      refine⟨hc,fun j' p hj hp=>?_⟩
      obtain rfl:j=j':=by omega
      rw [hp] at h
      dsimp only at h
      split at h
      · cases h
      · unfold SpO;omega
    · rintro⟨_,h⟩
      cases hp:l[j]? with
      | none=>rfl
      | some p =>
       have:=h j p rfl hp
       unfold SpO at this
       dsimp only
       rw [if_neg (by omega)]
 · rw [if_pos (by simpa using hc)]
   constructor
   · intro h;cases h
   · exact fun h=>absurd h.1 hc
theorem ye {l:List DSpot}{k:Nat}{e:DSpot}:yD l k e=none↔ui (zE e)=0∧∀ j p,k=j+1→l[j]? = some p→SpotO p e:=by
 unfold yD
 by_cases hc:ui (zE e)=0
 · rw [if_neg (by simpa using hc)]
   cases k with
   | zero=>exact ⟨fun _=>⟨hc,fun j p h=>by omega⟩,fun _=>rfl⟩
   | succ j =>
    dsimp only
    constructor
    · intro h
      refine⟨hc,fun j' p hj hp=>?_⟩
      obtain rfl:j=j':=by omega
      rw [hp] at h
      dsimp only at h
      split at h
      · cases h
      · unfold SpotO;omega
    · rintro⟨_,h⟩
      cases hp:l[j]? with
      | none=>rfl
      | some p =>
       have:=h j p rfl hp
       unfold SpotO at this
       dsimp only
       rw [if_neg (by omega)]
 · rw [if_pos (by simpa using hc)]
   constructor
   · intro h;cases h
   · exact fun h=>absurd h.1 hc
theorem Ba {l:List DElem}{k:Nat}{e:DElem}:vd l k e≠some 0:=by
 unfold vd
 by_cases hc:ui e=0
 · rw [if_neg (by simpa using hc)]
   cases k with
   | zero=>simp
   | succ j=>dsimp only;split <;> (try split) <;> simp
 · rw [if_pos (by simpa using hc)];simpa using hc
theorem BR {l:List DSpot}{k:Nat}{e:DSpot}:yD l k e≠some 0:=by
 unfold yD
 by_cases hc:ui (zE e)=0
 · rw [if_neg (by simpa using hc)]
   cases k with
   | zero=>simp
   | succ j=>dsimp only;split <;> (try split) <;> simp
 · rw [if_pos (by simpa using hc)];simpa using hc
theorem BB {l:List Int}{k:Nat}{e:Int}:xn l k e≠some 0:=by
 unfold xn;split
 · simp
 · split <;> simp
theorem Av {α:Type}{l:List α}{w:Nat→α→Option Int}(hw : ∀ k e,w k e≠some 0):((l.zipIdx.findSome? fun p=>w p.2 p.1).getD 0=0)↔∀ k e,l[k]? = some e→w k e=none:=by
 rw [← tf]
 cases hf:(l.zipIdx.findSome? fun p=>w p.2 p.1) with
 | none=>simp
 | some r =>
  obtain⟨k,e,_,h⟩:=tg hf
  constructor
  · intro h0
    simp at h0
    subst h0
    exact absurd h (hw k e)
  · intro h0;cases h0
theorem Co {n:DNode}:BC n=0↔Leaf n:=by
 unfold BC
 by_cases h:0<n.kids.length∨0<n.seps.length∨0<n.tids.length
 · rw [if_pos h]
   constructor
   · intro h0;cases h0
   · rintro⟨h1,h2,h3,_⟩;rw [h1,h2,h3] at h;simp at h
 rw [if_neg h]
 have e1:n.kids=[]:=List.length_eq_zero_iff.1 (by omega)
 have e2:n.seps=[]:=List.length_eq_zero_iff.1 (by omega)
 have e3:n.tids=[]:=List.length_eq_zero_iff.1 (by omega)
 by_cases h8:8<n.elems.length
 · rw [if_pos h8]
   constructor
   · intro h0;cases h0
   · intro h0;have:=h0.len;omega
 rw [if_neg h8,Av (w:=vd n.elems) (fun k e=>Ba)]
 constructor
 · intro hn
   refine⟨e1,e2,e3,by omega,fun e he=>?_,vY (R:=SpO) (l:=n.elems) (fun a b c h1 h2=>SpO.trans h1 h2) (fun j p e hp he=>?_)⟩
   · obtain⟨k,hk⟩:=List.mem_iff_getElem?.1 he
     exact(vC.1 (hn k e hk)).1
   · exact(vC.1 (hn (j+1) e he)).2 j p rfl hp
 · intro hl k e hk
   refine vC.2 ⟨hl.ok e (List.mem_of_getElem? hk),fun j p hj hp=>uV hl.ord (i:=j) (j:=k) (by omega) hp hk⟩
theorem SpotO.trans {a b c:DSpot}(h:SpotO a b)(k:SpotO b c):SpotO a c:=ue.lt_trans h k
theorem Bv {n:DNode}:zC n=0↔Inner n:=by
 unfold zC
 by_cases h:0<n.elems.length∨n.kids.length<2∨n.seps.length+1≠n.kids.length∨n.tids.length≠n.kids.length
 · rw [if_pos h]
   constructor
   · intro h0;cases h0
   · rintro⟨h1,h2,h3,h4,h5,_⟩;rw [h1] at h;simp at h;omega
 rw [if_neg h]
 have e1:n.elems=[]:=List.length_eq_zero_iff.1 (by omega)
 by_cases h8:8<n.kids.length
 · rw [if_pos h8]
   constructor
   · intro h0;cases h0
   · intro h0;have:=h0.eight;omega
 rw [if_neg h8]
 have hkids:(∀ k e,n.kids[k]? = some e→xn n.tids k e=none)↔(∀ k∈n.kids,0≤k∧k<400)∧∀ t∈n.tids,0≤t∧t≤2147483647:=by
  constructor
  · intro hn
    refine⟨fun e he=>?_,fun t ht=>?_⟩
    · obtain⟨k,hk⟩:=List.mem_iff_getElem?.1 he
      have:=hn k e hk
      unfold xn at this
      split at this
      · cases this
      · omega
    · obtain⟨k,hk⟩:=List.mem_iff_getElem?.1 ht
      have hkl:=(ggs.1 hk).1
      have:=hn k _ (gge (show k<n.kids.length by omega))
      unfold xn at this
      rw [hk] at this
      split at this
      · cases this
      · split at this
        · cases this
        · rename_i h2 h3
          simp only [Option.getD_some] at h3
          omega
  · rintro⟨h1,h2⟩ k e hk
    have hkl:=(ggs.1 hk).1
    have g1:=h1 e (List.mem_of_getElem? hk)
    have hlt:k<n.tids.length:=by omega
    have g2:=h2 _ (List.getElem_mem hlt)
    unfold xn
    rw [if_neg (by omega),gge hlt,Option.getD_some,if_neg (by omega)]
 cases hf:(n.kids.zipIdx.findSome? fun p=>xn n.tids p.2 p.1) with
 | some r =>
  obtain⟨k,e,hk,hr⟩:=tg hf
  dsimp only
  constructor
  · intro h0;subst h0;exact absurd hr BB
  · intro hi
    have:=hkids.2 ⟨hi.kid,hi.tid⟩ k e hk
    rw [this] at hr;cases hr
 | none =>
  have hk:=hkids.1 (tf.1 hf)
  dsimp only
  rw [Av (w:=yD n.seps) (fun k e=>BR)]
  constructor
  · intro hn
    refine⟨e1,by omega,by omega,by omega,by omega,hk.1,hk.2,fun e he=>?_,vY (R:=SpotO) (l:=n.seps) (fun a b c h1 h2=>SpotO.trans h1 h2) (fun j p e hp he=>?_)⟩
    · obtain⟨k,hk⟩:=List.mem_iff_getElem?.1 he
      exact(ye.1 (hn k e hk)).1
    · exact(ye.1 (hn (j+1) e he)).2 j p rfl hp
  · intro hl k e hk
    refine ye.2 ⟨hl.ok e (List.mem_of_getElem? hk),fun j p hj hp=>uV hl.ord (i:=j) (j:=k) (by omega) hp hk⟩
def Fu (n:DNode):Prop:=n.elems=[]∧n.kids=[]∧n.seps=[]∧n.tids=[]
theorem uy {n:DNode}:uv n=0↔(n.kind=0∧Fu n)∨(n.kind=1∧Leaf n)∨(n.kind=2∧Inner n):=by
 unfold uv Fu
 by_cases h0:n.kind=0
 · rw [if_pos h0]
   have:(n.elems=[]∧n.kids=[]∧n.seps=[]∧n.tids=[])↔¬ (0<n.elems.length∨0<n.kids.length∨0<n.seps.length∨0<n.tids.length):=by
    rw [← List.length_eq_zero_iff,← List.length_eq_zero_iff,← List.length_eq_zero_iff,← List.length_eq_zero_iff];omega
   rw [this]
   split
   · rename_i h;simp [h0,h]
   · rename_i h;simp [h0,h]
 rw [if_neg h0]
 by_cases h1:n.kind=1
 · rw [if_pos h1,Co];simp [h1]
 rw [if_neg h1]
 by_cases h2:n.kind=2
 · rw [if_pos h2,Bv];simp [h2]
 · rw [if_neg h2];simp [h0,h1,h2]
def maxI (a b:Int):Int:=if a<b then b else a
def uh (n:DNode):Int:=n.tids.foldl maxI (n.elems.foldl (fun t e=>maxI t (uR e)) 0)
theorem uU (n:DNode)(h:Small n):jm F n=some (uh n):=by
 unfold jm uh
 have h1:=h.elems
 have h2:=h.tids
 rw [tj n.elems (fun t e=>maxI t (uR e)) 0 (r:=n.elems.foldl (fun t e=>maxI t (uR e)) 0) (by omega) rfl (fun k e hk=>?_) (by simp),obs]
 · rw [tj n.tids maxI (n.elems.foldl (fun t e=>maxI t (uR e)) 0) (r:=n.tids.foldl maxI (n.elems.foldl (fun t e=>maxI t (uR e)) 0)) (by omega) rfl (fun k e hk=>?_) (by simp),obs]
   have hkl:=(ggs.1 hk).1
   dsimp only
   rw [decide_eq_true (by omega),cond_true,tz,hk,obs,w64 (by omega) (by omega)];rfl
 · have hkl:=(ggs.1 hk).1
   dsimp only
   rw [decide_eq_true (by omega),cond_true,tz,hk,obs,AL,obs,w64 (by omega) (by omega)];rfl
theorem yO {α:Type}(g:α→Int):∀(l:List α) (a:Int),a≤l.foldl (fun t e=>maxI t (g e)) a∧(∀ e∈l,g e≤l.foldl (fun t e=>maxI t (g e)) a)∧(l.foldl (fun t e=>maxI t (g e)) a=a∨∃ e∈l,g e=l.foldl (fun t e=>maxI t (g e)) a)
 | [],a=>⟨Int.le_refl _,fun e he=>by simp at he,.inl rfl⟩
 | x::l,a=>by
  obtain⟨h1,h2,h3⟩:=yO g l (maxI a (g x))
  rw [List.foldl_cons]
  have hm:a≤maxI a (g x)∧g x≤maxI a (g x)∧(maxI a (g x)=a∨maxI a (g x)=g x):=by unfold maxI;split <;> omega
  refine⟨by omega,fun e he=>?_,?_⟩
  · rcases List.mem_cons.1 he with rfl | he
    · omega
    · exact h2 e he
  · rcases h3 with h3 | ⟨e,he,h3⟩
    · rcases hm.2.2 with h4 | h4
      · left;omega
      · right;exact⟨x,by simp,by omega⟩
    · right;exact⟨e,List.mem_cons_of_mem _ he,h3⟩
theorem xS (n:DNode):(∀ e∈n.elems,uR e≤uh n)∧(∀ t∈n.tids,t≤uh n)∧(uh n=0∨(∃ e∈n.elems,uR e=uh n)∨∃ t∈n.tids,t=uh n):=by
 unfold uh
 obtain⟨h1,h2,h3⟩:=yO uR n.elems 0
 obtain⟨g1,g2,g3⟩:=yO (fun t=>t) n.tids (n.elems.foldl (fun t e=>maxI t (uR e)) 0)
 have ee:(fun t e=>maxI t ((fun t=>t) e))=maxI:=rfl
 rw [ee] at g1 g2 g3
 refine⟨fun e he=>Int.le_trans (h2 e he) g1,g2,?_⟩
 rcases g3 with g3 | ⟨t,ht,g3⟩
 · rw [g3]
   rcases h3 with h3 | ⟨e,he,h3⟩
   · exact .inl h3
   · exact .inr (.inl ⟨e,he,h3⟩)
 · exact .inr (.inr ⟨t,ht,g3⟩)
def vJ (l:List DSpot)(s:DSpot):Nat:=(l.takeWhile fun x=>decide (cmpS x s≤0)).length
theorem zw (l:List DSpot)(s:DSpot):vJ l s≤l.length:=(List.takeWhile_sublist _).length_le
theorem Bh (l:List DSpot)(s:DSpot):(∀ j x,j<vJ l s→l[j]? = some x→cmpS x s≤0)∧∀ x,l[vJ l s]? = some x→¬ cmpS x s≤0:=by
 unfold vJ
 induction l with
 | nil=>exact ⟨fun j x _ h=>by simp at h,fun x h=>by simp at h⟩
 | cons a l ih =>
  by_cases ha:cmpS a s≤0
  · rw [List.takeWhile_cons_of_pos (by simpa using ha),List.length_cons]
    refine⟨fun j x hj hx=>?_,fun x hx=>ih.2 x hx⟩
    cases j with
    | zero=>cases hx;exact ha
    | succ j=>exact ih.1 j x (by omega) hx
  · rw [List.takeWhile_cons_of_neg (by simpa using ha)]
    exact⟨fun j x hj _=>by simp at hj,fun x hx=>by cases hx;exact ha⟩
theorem vD (n:DNode)(s:DSpot)(h:Small n):lE F n s=some (vJ n.seps s:Int):=by
 unfold lE
 have h1:=h.seps
 have hle:=zw n.seps s
 obtain⟨w1,w2⟩:=Bh n.seps s
 rw [rQ (s:=0) (fun k=>(k:Int)) (vJ n.seps s) (r:=(vJ n.seps s:Int)) rfl (by omega) (fun k hk=>?_) ?_,obs]
 · by_cases hl:vJ n.seps s<n.seps.length
   · have hx:=gge hl
     rw [decide_eq_true (by omega),cond_true,tz,hx,obs,uo,obs,obs,decide_eq_false (w2 _ hx),cond_false]
   · rw [decide_eq_false (by omega),cond_false,obs,cond_false]
 · have hx:=gge (show k<n.seps.length by omega)
   rw [decide_eq_true (by omega),cond_true,tz,hx,obs,uo,obs,obs,decide_eq_true (w1 k _ hk hx),cond_true,w64 (by omega) (by omega)];rfl
theorem Er {n:DNode}(h:okNode n):Small n:=by
 obtain⟨_,h1,h2,h3,h4⟩:=h
 have:=h1.1;have:=h2.1;have:=h3.1;have:=h4.1
 unfold reachBytes at *
 constructor <;> omega
end
section
structure Span where
 lo:DSpot
 hi:DSpot
 hasLo:Bool
 hasHi:Bool
def inS (s:Span)(x:DSpot):Bool:=(!s.hasLo||decide (cmpS s.lo x≤0))&&(!s.hasHi||decide (cmpS x s.hi<0))
def fl (e:Int):Int:=if e=0 then 3 else e
theorem Aq (e:Int):fl e≠0:=by unfold fl;split <;> omega
def nd (ns:List DNode)(i:Int):DNode:=(ns[i.toNat]?).getD ⟨0,[],[],[],[]⟩
def vU (n:DNode)(s:Span):Nat→Span
 | 0=>s
 | j+1=>match n.seps[j]? with
  | some x=>{ s with lo:=x,hasLo:=true }
  | none=>s
def zj (n:DNode)(s:Span)(k:Nat):Span:=match n.seps[k]? with
 | some x=>{ s with hi:=x,hasHi:=true }
 | none=>s
def ur (n:DNode)(s:Span)(k:Nat):Span:=zj n (vU n s k) k
def uJ (n:DNode)(s:Span):Nat→Bool
 | 0=>false
 | j+1=>match n.seps[j]? with
  | some x=>!inS s x
  | none=>false
def unseen (l:List Bool):Nat:=l.count false
theorem zW {l:List Bool}{i:Nat}(h:l[i]? = some false):unseen (l.set i true)+1=unseen l:=by
 induction l generalizing i with
 | nil=>simp at h
 | cons a l ih =>
  cases i with
  | zero =>
   obtain rfl:a=false:=by simpa using h
   simp [unseen]
  | succ i =>
   have:=ih (i:=i) (by simpa using h)
   unfold unseen at *
   rw [List.set_cons_succ,List.count_cons,List.count_cons]
   omega
theorem DE {l l' : List Bool}(hl:l'.length=l.length)(h : ∀ j:Nat,l[j]? = some true→l'[j]? = some true):unseen l'≤unseen l:=by
 induction l generalizing l' with
 | nil =>
  obtain rfl:l' = []:=List.eq_nil_of_length_eq_zero (by simpa using hl)
  exact Nat.le_refl _
 | cons a l ih =>
  cases l' with
  | nil=>simp at hl
  | cons b l' =>
   have h0:=h 0
   have:=ih (l':=l') (by simpa using hl) (fun j hj=>by simpa using h (j+1) (by simpa using hj))
   unfold unseen at *
   rw [List.count_cons,List.count_cons]
   cases a <;> cases b <;> simp at h0 ⊢ <;> omega
theorem Ak (l:List Bool):unseen l≤l.length:=List.count_le_length
def vN (l:List Bool)(is:List Nat):List Bool:=is.foldl (fun l i=>l.set i true) l
theorem yv (l:List Bool)(a b:List Nat):vN l (a++b)=vN (vN l a) b:=List.foldl_append
theorem xF (l:List Bool)(is:List Nat)(j:Nat):(vN l is)[j]? = if j∈is∧j<l.length then some true else l[j]?:=by
 induction is generalizing l with
 | nil=>simp [vN]
 | cons i is ih =>
  show (vN (l.set i true) is)[j]? = _
  rw [ih,List.length_set,List.getElem?_set]
  by_cases h1:j∈is
  · by_cases h2:j<l.length
    · rw [if_pos (show j∈is∧j<l.length from ⟨h1,h2⟩),if_pos (show j∈i::is∧j<l.length from ⟨List.mem_cons_of_mem _ h1,h2⟩)]
    · rw [if_neg (show ¬ (j∈is∧j<l.length) from fun h=>h2 h.2),if_neg (show ¬ (j∈i::is∧j<l.length) from fun h=>h2 h.2)]
      by_cases e:i=j
      · subst e;rw [if_pos rfl,if_neg h2,List.getElem?_eq_none (by omega)]
      · rw [if_neg e]
  · rw [if_neg (show ¬ (j∈is∧j<l.length) from fun h=>h1 h.1)]
    by_cases e:i=j
    · subst e
      rw [if_pos rfl]
      by_cases h2:i<l.length
      · rw [if_pos h2,if_pos (show i∈i::is∧i<l.length from ⟨List.mem_cons_self,h2⟩)]
      · rw [if_neg h2,if_neg (show ¬ (i∈i::is∧i<l.length) from fun h=>h2 h.2),List.getElem?_eq_none (by omega)]
    · rw [if_neg e,if_neg]
      rintro⟨h,_⟩
      rcases List.mem_cons.1 h with h | h
      · exact e h.symm
      · exact h1 h
abbrev VS:=List Bool × Int × Int
def vv (n:DNode)(v:VS→Int→Int→Span→VS × Int)(s:Span)(d:Int)(st:VS)(p:Int × Nat):VS :=
 let r:=v (st.1,st.2.1,if uJ n s p.2 then fl st.2.2 else st.2.2) p.1 (d+1) (ur n s p.2)
 if r.2≠(n.tids[p.2]?).getD 0 then (r.1.1,r.1.2.1,fl r.1.2.2) else r.1
def vis (ns:List DNode):Nat→VS→Int→Int→Span→VS × Int
 | 0,st,_,_,_=>((st.1,st.2.1,3),0)
 | m+1,st,i,d,s =>
  if st.2.2≠0 then (st,0)
  else if i<0∨(ns.length:Int)≤i∨(st.1[i.toNat]?).getD true=true∨(nd ns i).kind=0 then ((st.1,st.2.1,3),0)
  else if (nd ns i).kind=1 then
   ((st.1.set i.toNat true,if st.2.1<0 then d else st.2.1,
    (nd ns i).elems.foldl (fun e x=>if inS s (tY x) then e else fl e)
     (if (if st.2.1<0 then d else st.2.1)≠d then fl (if 0<d∧(nd ns i).elems.length+(nd ns i).kids.length<4 then 3 else 0) else if 0<d∧(nd ns i).elems.length+(nd ns i).kids.length<4 then 3 else 0)),uh (nd ns i))
  else
   ((nd ns i).kids.zipIdx.foldl (vv (nd ns i) (vis ns m) s d) (st.1.set i.toNat true,st.2.1,if 0<d∧(nd ns i).elems.length+(nd ns i).kids.length<4 then 3 else 0),uh (nd ns i))
theorem DH (ns:List DNode)(m:Nat){st:VS}(i d:Int)(s:Span)(h:st.2.2≠0):(vis ns m st i d s).1.2.2≠0:=by
 cases m with
 | zero=>simp [vis]
 | succ m=>rw [vis,if_pos h];exact h
theorem CH {n:DNode}{v:VS→Int→Int→Span→VS × Int}(hv : ∀(st:VS) i d s,st.2.2≠0→(v st i d s).1.2.2≠0){s:Span}{d:Int}{st:VS}{p:Int × Nat}(h:(vv n v s d st p).2.2=0) :
 st.2.2=0∧uJ n s p.2=false∧(v (st.1,st.2.1,0) p.1 (d+1) (ur n s p.2)).2=(n.tids[p.2]?).getD 0∧(v (st.1,st.2.1,0) p.1 (d+1) (ur n s p.2)).1.2.2=0 ∧
  vv n v s d st p=(v (st.1,st.2.1,0) p.1 (d+1) (ur n s p.2)).1:=by
 have hsx:(if uJ n s p.2=true then fl st.2.2 else st.2.2)=0:=by
  by_cases hz:(if uJ n s p.2=true then fl st.2.2 else st.2.2)=0
  · exact hz
  · exfalso
    have hst:=hv (st.1,st.2.1,if uJ n s p.2=true then fl st.2.2 else st.2.2) p.1 (d+1) (ur n s p.2) hz
    unfold vv at h
    dsimp only at h
    by_cases hr:(v (st.1,st.2.1,if uJ n s p.2=true then fl st.2.2 else st.2.2) p.1 (d+1) (ur n s p.2)).2≠(n.tids[p.2]?).getD 0
    · rw [if_pos hr] at h;exact Aq _ h
    · rw [if_neg hr] at h;exact hst h
 have hb:uJ n s p.2=false:=by
  cases hb:uJ n s p.2 with
  | false=>rfl
  | true=>rw [hb,if_pos rfl] at hsx;exact absurd hsx (Aq _)
 have hst0:st.2.2=0:=by rw [hb] at hsx;simpa using hsx
 unfold vv at h ⊢
 dsimp only at h ⊢
 rw [hsx] at h ⊢
 by_cases hr:(v (st.1,st.2.1,0) p.1 (d+1) (ur n s p.2)).2≠(n.tids[p.2]?).getD 0
 · rw [if_pos hr] at h;exact absurd h (Aq _)
 · rw [if_neg hr] at h ⊢
   exact⟨hst0,hb,by simpa using hr,h,rfl⟩
def vo (a b:List Bool):Prop:=b.length=a.length∧∀ j:Nat,a[j]? = some true→b[j]? = some true
theorem vo.refl (a:List Bool):vo a a:=⟨rfl,fun _ h=>h⟩
theorem vo.trans {a b c:List Bool}(h:vo a b)(k:vo b c):vo a c:=⟨k.1.trans h.1,fun j hj=>k.2 j (h.2 j hj)⟩
theorem vo.set (a:List Bool)(i:Nat):vo a (a.set i true):=⟨List.length_set,fun j hj=>by
 rw [List.getElem?_set]
 split
 · split
   · rfl
   · rename_i e h;subst e;rw [List.getElem?_eq_none (by omega)] at hj;exact hj
 · exact hj⟩
theorem vo.unseen {a b:List Bool}(h:vo a b):unseen b≤unseen a:=DE h.1 h.2
theorem zh {n:DNode}{v:VS→Int→Int→Span→VS × Int}(hv : ∀ st i d s,vo st.1 (v st i d s).1.1)(s:Span)(d:Int)(st:VS)(p:Int × Nat):vo st.1 (vv n v s d st p).1:=by
 have:=hv (st.1,st.2.1,if uJ n s p.2 then fl st.2.2 else st.2.2) p.1 (d+1) (ur n s p.2)
 unfold vv
 dsimp only
 by_cases hr:(v (st.1,st.2.1,if uJ n s p.2=true then fl st.2.2 else st.2.2) p.1 (d+1) (ur n s p.2)).2≠(n.tids[p.2]?).getD 0
 · rw [if_pos hr];exact this
 · rw [if_neg hr];exact this
theorem zd {n:DNode}{v:VS→Int→Int→Span→VS × Int}(hv : ∀ st i d s,vo st.1 (v st i d s).1.1)(s:Span)(d:Int)(ps:List (Int × Nat)):∀ st:VS,vo st.1 (ps.foldl (vv n v s d) st).1:=by
 induction ps with
 | nil=>exact fun st=>vo.refl _
 | cons p ps ih=>exact fun st=>(zh hv s d st p).trans (ih _)
theorem za (ns:List DNode):∀(m:Nat) (st:VS) (i d:Int) (s:Span),vo st.1 (vis ns m st i d s).1.1:=by
 intro m
 induction m with
 | zero=>exact fun st i d s=>vo.refl _
 | succ m ih =>
  intro st i d s
  rw [vis]
  split
  · exact vo.refl _
  split
  · exact vo.refl _
  split
  · exact vo.set _ _
  · exact(vo.set st.1 i.toNat).trans (zd (n:=nd ns i) ih s d (nd ns i).kids.zipIdx (st.1.set i.toNat true,st.2.1,if 0<d∧(nd ns i).elems.length+(nd ns i).kids.length<4 then 3 else 0))
def okN (ns:List DNode):Nat→Int→Int→Span→Prop
 | 0,i,d,s=>(0≤i∧i<(ns.length:Int))∧(nd ns i).kind=1∧(0<d→4≤(nd ns i).elems.length+(nd ns i).kids.length)∧∀ x∈(nd ns i).elems,inS s (tY x)=true
 | h+1,i,d,s=>(0≤i∧i<(ns.length:Int))∧((nd ns i).kind≠0∧(nd ns i).kind≠1)∧(0<d→4≤(nd ns i).elems.length+(nd ns i).kids.length) ∧
  ∀ p∈(nd ns i).kids.zipIdx,okN ns h p.1 (d+1) (ur (nd ns i) s p.2)∧uJ (nd ns i) s p.2=false∧uh (nd ns p.1)=((nd ns i).tids[p.2]?).getD 0
def ids (ns:List DNode):Nat→Int→List Nat
 | 0,i=>[i.toNat]
 | h+1,i=>i.toNat::(nd ns i).kids.flatMap (ids ns h)
theorem yN (l:List DElem)(s:Span):∀ e:Int,l.foldl (fun e x=>if inS s (tY x) then e else fl e) e=0↔e=0∧∀ x∈l,inS s (tY x)=true:=by
 induction l with
 | nil=>intro e;simp
 | cons a l ih =>
  intro e
  rw [List.foldl_cons,ih]
  by_cases h:inS s (tY a)=true
  · rw [if_pos h];simp [h]
  · rw [if_neg h];simp [h,Aq]
def wb (ns:List DNode)(h:Nat)(ps:List (Int × Nat)):List Nat:=ps.flatMap fun p=>ids ns h p.1
theorem xE (ns:List DNode)(h:Nat)(l:List Int):wb ns h l.zipIdx=l.flatMap (ids ns h):=by
 unfold wb
 have : ∀(l:List Int) (n:Nat),(l.zipIdx n).flatMap (fun p=>ids ns h p.1)=l.flatMap (ids ns h):=by
  intro l
  induction l with
  | nil=>intro n;rfl
  | cons a l ih=>intro n;rw [List.zipIdx_cons,List.flatMap_cons,List.flatMap_cons,ih]
 exact this l 0
theorem uZ {ns:List DNode}{i:Int}(h0:0≤i)(h1:i<(ns.length:Int)):nd ns i∈ns:=by
 unfold nd
 rw [gge (show i.toNat<ns.length by omega)]
 exact List.getElem_mem _
theorem yw {ns:List DNode}{i:Nat}{n:DNode}(h:ns[i]? = some n):nd ns (i:Int)=n:=by
 unfold nd;rw [Int.toNat_natCast,h];rfl
theorem DG (ns:List DNode)(hns : ∀ n∈ns,uv n=0):∀(m:Nat) (seen:List Bool) (deep i d:Int) (s:Span),seen.length=ns.length→0≤d→(vis ns m (seen,deep,0) i d s).1.2.2=0 →
 ∃ h:Nat,okN ns h i d s∧(ids ns h i).Nodup∧(∀ j∈ids ns h i,seen[j]? = some false)∧(deep<0∨deep=d+h)∧vis ns m (seen,deep,0) i d s=((vN seen (ids ns h i),d+h,0),uh (nd ns i)):=by
 intro m
 induction m with
 | zero=>intro seen deep i d s _ _ h;simp [vis] at h
 | succ m ih =>
  intro seen deep i d s hsl hd he
  rw [vis] at he ⊢
  dsimp only at he ⊢
  rw [if_neg (by simp)] at he ⊢
  split at he
  · exact absurd he (by simp)
  rename_i hin
  rw [if_neg hin]
  have h0:0≤i:=by omega
  have h1:i<(ns.length:Int):=by omega
  have h2:seen[i.toNat]? = some false:=by
   have hlt:i.toNat<seen.length:=by omega
   rw [gge hlt]
   cases hb:seen[i.toNat] with
   | false=>rfl
   | true=>exact absurd (.inr (.inr (.inl (by rw [gge hlt,hb];rfl)))) hin
  have h3:(nd ns i).kind≠0:=fun h=>hin (.inr (.inr (.inr h)))
  split at he
  · rename_i hk
    rw [if_pos hk]
    dsimp only at he
    rw [yN] at he
    obtain⟨he1,he2⟩:=he
    have hdeep:(if deep<0 then d else deep)=d:=by
     by_cases hx:(if deep<0 then d else deep)=d
     · exact hx
     · rw [if_pos hx] at he1;exact absurd he1 (Aq _)
    rw [if_neg (by simpa using hdeep)] at he1
    have hfill : ¬ (0<d∧(nd ns i).elems.length+(nd ns i).kids.length<4):=fun h=>by rw [if_pos h] at he1;cases he1
    refine⟨0,⟨⟨h0,h1⟩,hk,fun hd=>by omega,he2⟩,by simp [ids],fun j hj=>?_,?_,?_⟩
    · obtain rfl:j=i.toNat:=by simpa [ids] using hj
      exact h2
    · by_cases hx:deep<0
      · exact .inl hx
      · rw [if_neg hx] at hdeep;exact .inr (by omega)
    · have e1 : List.foldl (fun e x => if inS s (tY x) = true then e else fl e) (if (if deep < 0 then d else deep) ≠ d then fl (if 0 < d ∧ (nd ns i).elems.length + (nd ns i).kids.length < 4 then 3 else 0) else if 0 < d ∧ (nd ns i).elems.length + (nd ns i).kids.length < 4 then 3 else 0) (nd ns i).elems = 0 := by
       rw [yN]
       refine⟨?_,he2⟩
       rw [if_neg (by simpa using hdeep),if_neg hfill]
      rw [e1,hdeep]
      simp [vN,ids]
  · rename_i hk
    rw [if_neg hk]
    dsimp only at he
    have key : ∀(ps:List (Int × Nat)) (st:VS),st.1.length=ns.length→(ps.foldl (vv (nd ns i) (vis ns m) s d) st).2.2=0→st.2.2=0∧(ps≠[]→∃ h:Nat,
     (∀ p∈ps,okN ns h p.1 (d+1) (ur (nd ns i) s p.2)∧uJ (nd ns i) s p.2=false∧uh (nd ns p.1)=((nd ns i).tids[p.2]?).getD 0)∧(wb ns h ps).Nodup ∧
     (∀ j∈wb ns h ps,st.1[j]? = some false)∧(st.2.1<0∨st.2.1=d+1+h)∧ps.foldl (vv (nd ns i) (vis ns m) s d) st=(vN st.1 (wb ns h ps),d+1+h,0)):=by
     intro ps
     induction ps with
     | nil=>exact fun st _ h=>⟨h,fun h=>absurd rfl h⟩
     | cons p ps ihp =>
      intro st hl he
      rw [List.foldl_cons] at he
      obtain⟨k1,k2⟩:=ihp (vv (nd ns i) (vis ns m) s d st p) (by rw [(zh (za ns m) s d st p).1];exact hl) he
      have hs0:=CH (fun st i d s=>DH ns m i d s) k1
      obtain⟨hst0,hb,hr,hre,hstep⟩:=hs0
      obtain⟨h,q1,q2,q3,q4,q5⟩:=ih st.1 st.2.1 p.1 (d+1) (ur (nd ns i) s p.2) hl (by omega) hre
      rw [q5] at hr hstep
      dsimp only at hr hstep
      refine⟨hst0,fun _=>?_⟩
      by_cases hps:ps=[]
      · subst hps
        refine⟨h,fun p' hp'=>?_,?_,?_,q4,?_⟩
        · obtain rfl:p' = p:=by simpa using hp'
          exact⟨q1,hb,hr⟩
        · simpa [wb] using q2
        · simpa [wb] using q3
        · rw [List.foldl_cons,List.foldl_nil,hstep];simp [wb]
      · obtain⟨h',w1,w2,w3,w4,w5⟩:=k2 hps
        rw [hstep] at w3 w4 w5
        dsimp only at w3 w4 w5
        obtain rfl:h=h':=by omega
        have hdis : ∀ j∈wb ns h ps,j ∉ ids ns h p.1∧st.1[j]? = some false:=fun j hj=>by
         have:=w3 j hj
         rw [xF] at this
         split at this
         · cases this
         · rename_i hne
           refine⟨fun hm=>hne ⟨hm,?_⟩,this⟩
           exact(ggs.1 this).1
        refine⟨h,fun p' hp'=>?_,?_,fun j hj=>?_,q4,?_⟩
        · rcases List.mem_cons.1 hp' with rfl | hp'
          · exact⟨q1,hb,hr⟩
          · exact w1 p' hp'
        · show (ids ns h p.1++wb ns h ps).Nodup
          exact List.nodup_append.2 ⟨q2,w2,fun a ha b hb' e=>(hdis b hb').1 (e▸ha)⟩
        · rcases List.mem_append.1 (show j∈ids ns h p.1++wb ns h ps from hj) with hj | hj
          · exact q3 j hj
          · exact(hdis j hj).2
        · rw [List.foldl_cons,hstep,w5]
          show _=(vN st.1 (ids ns h p.1++wb ns h ps),_,_)
          rw [yv]
    obtain⟨k1,k2⟩:=key _ _ (by rw [List.length_set];exact hsl) he
    dsimp only at k1 k2
    have hfill : ¬ (0<d∧(nd ns i).elems.length+(nd ns i).kids.length<4):=fun h=>by rw [if_pos h] at k1;cases k1
    by_cases hnil:(nd ns i).kids.zipIdx=[]
    · have hk0:(nd ns i).kids=[]:=by simpa using hnil
      rcases uy.1 (hns _ (uZ h0 h1)) with h | h | h
      · exact absurd h.1 h3
      · exact absurd h.1 hk
      · have:=h.2.two;rw [hk0] at this;simp at this
    · obtain⟨h,w1,w2,w3,w4,w5⟩:=k2 hnil
      rw [xE] at w2 w3 w5
      have hset : ∀ j∈(nd ns i).kids.flatMap (ids ns h),j≠i.toNat∧seen[j]? = some false:=fun j hj=>by
       have:=w3 j hj
       rw [List.getElem?_set] at this
       split at this
       · split at this
         · cases this
         · cases this
       · rename_i hne;exact⟨fun e=>hne e.symm,this⟩
      refine⟨h+1,⟨⟨h0,h1⟩,⟨h3,hk⟩,fun hd=>by omega,w1⟩,?_,fun j hj=>?_,?_,?_⟩
      · rw [ids,List.nodup_cons]
        exact⟨fun hm=>(hset _ hm).1 rfl,w2⟩
      · rw [ids] at hj
        rcases List.mem_cons.1 hj with rfl | hj
        · exact h2
        · exact(hset j hj).2
      · rcases w4 with w4 | w4
        · exact .inl w4
        · exact .inr (by push_cast;omega)
      · rw [w5,ids]
        show _=((vN (seen.set i.toNat true) _,_,_),_)
        congr 3
        push_cast;omega
theorem Es {n:DNode}{v:VS→Int→Int→Span→VS × Int}{s:Span}{d:Int}{seen seen' : List Bool}{deep deep' g:Int}{p:Int × Nat}(hb:uJ n s p.2=false)
 (hv:v (seen,deep,0) p.1 (d+1) (ur n s p.2)=((seen',deep',0),g)) (hg:g=(n.tids[p.2]?).getD 0):vv n v s d (seen,deep,0) p=(seen',deep',0):=by
 have e:(if uJ n s p.2=true then fl 0 else 0)=(0:Int):=by rw [hb];rfl
 unfold vv
 dsimp only
 rw [e,hv,if_neg (by simpa using hg)]
theorem Bg (ns:List DNode)(hns : ∀ n∈ns,uv n=0):∀(h m:Nat) (seen:List Bool) (deep i d:Int) (s:Span),okN ns h i d s→(ids ns h i).Nodup→(∀ j∈ids ns h i,seen[j]? = some false) →
 (deep<0∨deep=d+h)→0≤d→h<m→vis ns m (seen,deep,0) i d s=((vN seen (ids ns h i),d+h,0),uh (nd ns i)):=by
 intro h
 induction h with
 | zero =>
  intro m seen deep i d s ⟨⟨h0,h1⟩,hk,hf,hi⟩ hnd hse hdeep hd hm
  obtain⟨m,rfl⟩ : ∃ q,m=q+1:=⟨m-1,by omega⟩
  have hsi:seen[i.toNat]? = some false:=hse _ (by simp [ids])
  rw [vis]
  dsimp only
  rw [if_neg (by simp),if_neg (by rw [hsi,hk];simp;omega),if_pos hk]
  have hdd:(if deep<0 then d else deep)=d:=by split <;> omega
  have e1:List.foldl (fun e x=>if inS s (tY x)=true then e else fl e) (if (if deep<0 then d else deep)≠d then fl (if 0<d∧(nd ns i).elems.length+(nd ns i).kids.length<4 then 3 else 0) else if 0<d∧(nd ns i).elems.length+(nd ns i).kids.length<4 then 3 else 0) (nd ns i).elems=0:=by
   rw [yN]
   exact⟨by rw [if_neg (by simpa using hdd),if_neg (by omega)],hi⟩
  rw [e1,hdd]
  simp [vN,ids]
 | succ h ih =>
  intro m seen deep i d s ⟨⟨h0,h1⟩,⟨hk0,hk1⟩,hf,hi⟩ hnd hse hdeep hd hm
  obtain⟨m,rfl⟩ : ∃ q,m=q+1:=⟨m-1,by omega⟩
  rw [ids] at hnd hse ⊢
  rw [List.nodup_cons] at hnd
  have hsi:seen[i.toNat]? = some false:=hse _ List.mem_cons_self
  rw [vis]
  dsimp only
  rw [if_neg (by simp),if_neg (by rw [hsi];simp;omega),if_neg hk1,if_neg (by omega)]
  have key : ∀(ps:List (Int × Nat)) (seen:List Bool) (deep:Int),(∀ p∈ps,okN ns h p.1 (d+1) (ur (nd ns i) s p.2)∧uJ (nd ns i) s p.2=false∧uh (nd ns p.1)=((nd ns i).tids[p.2]?).getD 0) →
   (wb ns h ps).Nodup→(∀ j∈wb ns h ps,seen[j]? = some false)→(deep<0∨deep=d+1+h) →
   ps.foldl (vv (nd ns i) (vis ns m) s d) (seen,deep,0)=(vN seen (wb ns h ps),if ps=[] then deep else d+1+h,0):=by
   intro ps
   induction ps with
   | nil=>intro seen deep _ _ _ _;rfl
   | cons p ps ihp =>
    intro seen deep hp hn hs hdp
    obtain⟨p1,p2,p3⟩:=hp p List.mem_cons_self
    have hfl:wb ns h (p::ps)=ids ns h p.1++wb ns h ps:=rfl
    rw [hfl] at hn hs ⊢
    rw [List.nodup_append] at hn
    obtain⟨n1,n2,n3⟩:=hn
    have e1:=ih m seen deep p.1 (d+1) (ur (nd ns i) s p.2) p1 n1 (fun j hj=>hs j (List.mem_append_left _ hj)) hdp (by omega) (by omega)
    rw [List.foldl_cons,Es p2 e1 p3,ihp _ _ (fun p' hp'=>hp p' (List.mem_cons_of_mem _ hp')) n2 (fun j hj=>?_) (.inr rfl),yv,if_neg (List.cons_ne_nil _ _)]
    · split <;> rfl
    · rw [xF,if_neg]
      · exact hs j (List.mem_append_right _ hj)
      · exact fun hx=>n3 _ hx.1 _ hj rfl
  have hne:(nd ns i).kids.zipIdx≠[]:=fun hnil=>by
   have hk0' : (nd ns i).kids=[]:=by simpa using hnil
   rcases uy.1 (hns _ (uZ h0 h1)) with h | h | h
   · exact hk0 h.1
   · exact hk1 h.1
   · have:=h.2.two;rw [hk0'] at this;simp at this
  rw [key _ _ _ hi (by rw [xE];exact hnd.2) (fun j hj=>?_) (by push_cast at hdeep;omega),if_neg hne,xE]
  · show ((vN _ _,_,_),_)=((vN (seen.set i.toNat true) _,_,_),_)
    congr 3
    push_cast;omega
  · rw [xE] at hj
    rw [List.getElem?_set,if_neg (fun e=>hnd.1 (by rw [e];exact hj))]
    exact hse j (List.mem_cons_of_mem _ hj)
theorem yG : ∀(l:List Nat) (seen:List Bool),l.Nodup→(∀ j∈l,seen[j]? = some false)→unseen (vN seen l)+l.length=unseen seen
 | [],seen,_,_=>rfl
 | i::l,seen,hn,hs=>by
  rw [List.nodup_cons] at hn
  have h1:=zW (hs i List.mem_cons_self)
  have:=yG l (seen.set i true) hn.2 fun j hj=>by
   rw [List.getElem?_set,if_neg (fun e=>hn.1 (by rw [e];exact hj))]
   exact hs j (List.mem_cons_of_mem _ hj)
  show unseen (vN (seen.set i true) l)+(l.length+1)=_
  omega
theorem Ax (ns:List DNode):∀(h:Nat) (i d:Int) (s:Span),okN ns h i d s→∀ j∈ids ns h i,j<ns.length:=by
 intro h
 induction h with
 | zero =>
  intro i d s hok j hj
  obtain rfl:j=i.toNat:=by simpa [ids] using hj
  have:=hok.1
  omega
 | succ h ih =>
  intro i d s hok j hj
  rw [ids] at hj
  rcases List.mem_cons.1 hj with rfl | hj
  · have:=hok.1;omega
  · obtain⟨k,hk,hj⟩:=List.mem_flatMap.1 hj
    obtain⟨q,hq⟩:=List.mem_iff_getElem?.1 hk
    exact ih k _ _ (hok.2.2.2 (k,q) (by rw [List.mem_zipIdx_iff_getElem?];exact hq)).1 j hj
theorem xV {ns:List DNode}{h:Nat}{i d:Int}{s:Span}(hok:okN ns h i d s)(hn:(ids ns h i).Nodup):(ids ns h i).length≤ns.length:=by
 have h1:=yG (ids ns h i) (List.replicate ns.length false) hn fun j hj=>by
  rw [List.getElem?_replicate,if_pos (Ax ns h i d s hok j hj)]
 have h2:unseen (List.replicate ns.length false)=ns.length:=by unfold unseen;simp
 omega
theorem vH {ns:List DNode}(hns : ∀ n∈ns,uv n=0){i:Int}(h0:0≤i∧i<(ns.length:Int))(hk:(nd ns i).kind≠0∧(nd ns i).kind≠1):(nd ns i).kind=2∧Inner (nd ns i):=by
 rcases uy.1 (hns _ (uZ h0.1 h0.2)) with h | h | h
 · exact absurd h.1 hk.1
 · exact absurd h.1 hk.2
 · exact h
theorem wy {ns:List DNode}(hns : ∀ n∈ns,uv n=0){i:Int}(h0:0≤i∧i<(ns.length:Int))(hk:(nd ns i).kind=1):Leaf (nd ns i):=by
 rcases uy.1 (hns _ (uZ h0.1 h0.2)) with h | h | h
 · rw [hk] at h;exact absurd h.1 (by decide)
 · exact h.2
 · rw [hk] at h;exact absurd h.1 (by decide)
theorem xU {ns:List DNode}(hns : ∀ n∈ns,uv n=0):∀(h:Nat) (i d:Int) (s:Span),okN ns h i d s→h<(ids ns h i).length:=by
 intro h
 induction h with
 | zero=>intro i d s _;simp [ids]
 | succ h ih =>
  intro i d s hok
  have hin:=(vH hns hok.1 hok.2.1).2
  obtain⟨k,hk⟩ : ∃ k,(nd ns i).kids[0]? = some k:=⟨_,gge (by have:=hin.two;omega)⟩
  have h1:=ih k _ _ (hok.2.2.2 (k,0) (by rw [List.mem_zipIdx_iff_getElem?];exact hk)).1
  rw [ids,List.length_cons,List.length_flatMap]
  have h2:(ids ns h k).length≤((nd ns i).kids.map fun a=>(ids ns h a).length).sum:=by
   have : ∀ l:List Int,k∈l→(ids ns h k).length≤(l.map fun a=>(ids ns h a).length).sum:=by
    intro l
    induction l with
    | nil=>intro h;cases h
    | cons a l ih =>
     intro hm
     rw [List.map_cons,List.sum_cons]
     rcases List.mem_cons.1 hm with rfl | hm
     · omega
     · have:=ih hm;omega
   exact this _ (List.mem_of_getElem? hk)
  omega
def tX (ns:List DNode):Nat→Int→List DElem
 | 0,i=>(nd ns i).elems
 | h+1,i=>(nd ns i).kids.flatMap (tX ns h)
theorem AN {ns:List DNode}(hns : ∀ n∈ns,uv n=0):∀(h:Nat) (i d:Int) (s:Span),okN ns h i d s→(tX ns h i).length≤8*(ids ns h i).length:=by
 intro h
 induction h with
 | zero =>
  intro i d s hok
  have:=(wy hns hok.1 hok.2.1).len
  simp [tX,ids];omega
 | succ h ih =>
  intro i d s hok
  rw [tX,ids,List.length_cons,List.length_flatMap,List.length_flatMap]
  have : ∀ l:List Int,(∀ k∈l,(tX ns h k).length≤8*(ids ns h k).length)→(l.map fun a=>(tX ns h a).length).sum≤8*(l.map fun a=>(ids ns h a).length).sum:=by
   intro l
   induction l with
   | nil=>intro _;simp
   | cons a l ihl =>
    intro hm
    have h1:=ihl fun k hk=>hm k (List.mem_cons_of_mem _ hk)
    have h2:=hm a List.mem_cons_self
    rw [List.map_cons,List.map_cons,List.sum_cons,List.sum_cons]
    omega
  have:=this (nd ns i).kids fun k hk=>by
   obtain⟨q,hq⟩:=List.mem_iff_getElem?.1 hk
   exact ih k _ _ (hok.2.2.2 (k,q) (by rw [List.mem_zipIdx_iff_getElem?];exact hq)).1
  omega
def topS:Span:=⟨⟨⟨0,0,0⟩,0⟩,⟨⟨0,0,0⟩,0⟩,false,false⟩
structure Good (t:DTree) (h:Nat):Prop where
 len:t.nodes.length≤400
 chk : ∀ n∈t.nodes,uv n=0
 ok:okN t.nodes h t.root 0 topS
 nodup:(ids t.nodes h t.root).Nodup
 all : ∀ i:Nat,i<t.nodes.length→(nd t.nodes i).kind≠0→i∈ids t.nodes h t.root
def wP (F:Nat)(t:DTree):VS × Int:=vis t.nodes F (List.replicate t.nodes.length false,-1,0) t.root 0 topS
def vz (F:Nat)(t:DTree):Int :=
 if 400<t.nodes.length then 2 else match t.nodes.findSome? fun n=>if uv n≠0 then some (uv n) else none with
  | some e=>e
  | none=>t.nodes.zipIdx.foldl (fun e p=>if p.1.kind≠0∧((wP F t).1.1[p.2]?).getD true=false then fl e else e) (wP F t).1.2.2
theorem D0 {α:Type}(q:α→Prop)[DecidablePred q](l:List α):∀ e:Int,l.foldl (fun e x=>if q x then fl e else e) e=0↔e=0∧∀ x∈l,¬ q x:=by
 induction l with
 | nil=>intro e;simp
 | cons a l ih =>
  intro e
  rw [List.foldl_cons,ih]
  by_cases h:q a
  · rw [if_pos h];simp [h,Aq]
  · rw [if_neg h];simp [h]
theorem uS {F:Nat}[Big F]{t:DTree}:vz F t=0↔∃ h,Good t h:=by
 unfold vz
 by_cases hl:400<t.nodes.length
 · rw [if_pos hl]
   exact⟨fun h=>(by cases h),fun ⟨h,hg⟩=>(by have:=hg.len;omega)⟩
 rw [if_neg hl]
 cases hf:t.nodes.findSome? fun n=>if uv n≠0 then some (uv n) else none with
 | some e =>
  obtain⟨n,hn,he⟩:=List.exists_of_findSome?_eq_some hf
  split at he
  · rename_i hne
    obtain rfl:=Option.some.inj he
    exact⟨fun h=>absurd h hne,fun ⟨h,hg⟩=>absurd (hg.chk n hn) hne⟩
  · cases he
 | none =>
  rw [List.findSome?_eq_none_iff] at hf
  have hns : ∀ n∈t.nodes,uv n=0:=fun n hn=>by
   have:=hf n hn
   split at this
   · cases this
   · rename_i h;simpa using h
  dsimp only
  rw [D0 (fun p:DNode × Nat=>p.1.kind≠0∧((wP F t).1.1[p.2]?).getD true=false)]
  constructor
  · rintro⟨h1,h2⟩
    obtain⟨h,q1,q2,q3,q4,q5⟩:=DG t.nodes hns F (List.replicate t.nodes.length false) (-1) t.root 0 topS (by simp) (Int.le_refl _) h1
    refine⟨h,by omega,hns,q1,q2,fun i hi hk=>?_⟩
    have h3:=h2 (t.nodes[i],i) (by rw [List.mem_zipIdx_iff_getElem?];exact gge hi)
    have hnd:nd t.nodes (i:Int)=t.nodes[i]:=yw (gge hi)
    rw [hnd] at hk
    unfold wP at h3
    rw [q5] at h3
    dsimp only at h3
    rw [xF] at h3
    by_cases hm:i∈ids t.nodes h t.root
    · exact hm
    · rw [if_neg (fun hx=>hm hx.1),List.getElem?_replicate,if_pos hi] at h3
      exact absurd ⟨hk,rfl⟩ h3
  · rintro⟨h,hg⟩
    have hr:=Ax t.nodes h t.root 0 topS hg.ok
    have hF:h<F:=by
     have h1:=xU hg.chk h t.root 0 topS hg.ok
     have h2:=xV hg.ok hg.nodup
     have h3:=(inferInstance:Big F).le
     omega
    have e:=Bg t.nodes hg.chk h F (List.replicate t.nodes.length false) (-1) t.root 0 topS hg.ok hg.nodup (fun j hj=>by rw [List.getElem?_replicate,if_pos (hr j hj)]) (.inl (by decide)) (Int.le_refl _) hF
    unfold wP
    rw [e]
    refine⟨rfl,fun p hp=>?_⟩
    rw [List.mem_zipIdx_iff_getElem?] at hp
    rintro⟨hk,hb⟩
    have hlt:=(ggs.1 hp).1
    have:=hg.all p.2 hlt (by rw [yw hp];exact hk)
    rw [xF,if_pos ⟨this,by simpa using hlt⟩] at hb
    cases hb
theorem uB {s:Span}{x:DSpot}:inS s x=true↔(s.hasLo=true→cmpS s.lo x≤0)∧(s.hasHi=true→cmpS x s.hi<0):=by
 unfold inS
 cases s.hasLo <;> cases s.hasHi <;> simp
theorem xR {a b c:DSpot}(h:cmpS a b≤0)(k:cmpS b c<0):cmpS a c<0:=by
 by_cases h0:cmpS a b<0
 · exact ue.lt_trans h0 k
 · obtain rfl:a=b:=(ue.zero _ _).1 (by omega)
   exact k
theorem vA {a b c:DSpot}(h:cmpS a b<0)(k:cmpS b c≤0):cmpS a c<0:=by
 by_cases h0:cmpS b c<0
 · exact ue.lt_trans h h0
 · obtain rfl:b=c:=(ue.zero _ _).1 (by omega)
   exact h
theorem Cc {a b c:DSpot}(h:cmpS a b≤0)(k:cmpS b c≤0):cmpS a c≤0:=ue.trans _ _ _ h k
theorem Bo {a b c:DSpot}(h:cmpS a b≤0)(k:cmpS b c≤0):cmpS a c≤0:=by
 by_cases h0:cmpS a b<0
 · have:=vA h0 k;omega
 · obtain rfl:a=b:=(ue.zero _ _).1 (by omega)
   exact k
theorem BA {n:DNode}{s:Span}{k:Nat}{x y:DSpot}(hx:n.seps[k]? = some x)(h:inS (ur n s (k+1)) y=true):cmpS x y≤0:=by
 have h1:=(uB.1 h).1
 have e:vU n s (k+1) = { s with lo:=x,hasLo:=true }:=by
  show (match n.seps[k]? with | some x=>_ | none=>s)=_
  rw [hx]
 have e2:(ur n s (k+1)).lo=x∧(ur n s (k+1)).hasLo=true:=by
  unfold ur zj
  split
  · rw [e];exact⟨rfl,rfl⟩
  · rw [e];exact⟨rfl,rfl⟩
 rw [e2.1] at h1
 exact h1 e2.2
theorem zI {n:DNode}{s:Span}{k:Nat}{x y:DSpot}(hx:n.seps[k]? = some x)(h:inS (ur n s k) y=true):cmpS y x<0:=by
 have h1:=(uB.1 h).2
 have e2:(ur n s k).hi=x∧(ur n s k).hasHi=true:=by
  unfold ur zj
  rw [hx];exact⟨rfl,rfl⟩
 rw [e2.1] at h1
 exact h1 e2.2
theorem Dj {n:DNode}{s:Span}{k:Nat}{y:DSpot}(hk:k≤n.seps.length)(hb : ∀ j,j≤n.seps.length→uJ n s j=false)(h:inS (ur n s k) y=true):inS s y=true:=by
 have hsep : ∀ j x,n.seps[j]? = some x→inS s x=true:=fun j x hx=>by
  have hjl:=(ggs.1 hx).1
  have:=hb (j+1) (by omega)
  have e:uJ n s (j+1) = !inS s x:=by
   show (match n.seps[j]? with | some x=>_ | none=>false)=_
   rw [hx]
  rw [e] at this
  simpa using this
 rw [uB]
 constructor
 · intro hl
   cases k with
   | zero =>
    have h1:=(uB.1 h).1
    have e2:(ur n s 0).lo=s.lo∧(ur n s 0).hasLo=s.hasLo:=by
     unfold ur zj;split <;> exact ⟨rfl,rfl⟩
    rw [e2.1,e2.2] at h1
    exact h1 hl
   | succ j =>
    have hx:n.seps[j]? = some n.seps[j]:=gge (by omega)
    exact Cc ((uB.1 (hsep _ _ hx)).1 hl) (BA hx h)
 · intro hh
   by_cases hk' : k<n.seps.length
   · have hx:n.seps[k]? = some n.seps[k]:=gge hk'
     exact ue.lt_trans (zI hx h) ((uB.1 (hsep _ _ hx)).2 hh)
   · have h1:=(uB.1 h).2
     have hx:n.seps[k]? = none:=List.getElem?_eq_none (by omega)
     have e2:(ur n s k).hi=s.hi∧(ur n s k).hasHi=s.hasHi:=by
      have hl1:(vU n s k).hi=s.hi∧(vU n s k).hasHi=s.hasHi:=by
       unfold vU;split
       · exact⟨rfl,rfl⟩
       · split <;> exact ⟨rfl,rfl⟩
      unfold ur zj
      rw [hx]
      exact hl1
     rw [e2.1,e2.2] at h1
     exact h1 hh
theorem wm {α β:Type}{R:β→β→Prop}{f:α→List β}:∀(l:List α),(∀ a∈l,(f a).Pairwise R)→(∀(i j:Nat) (a b:α),i<j→l[i]? = some a→l[j]? = some b→∀ x∈f a,∀ y∈f b,R x y)→(l.flatMap f).Pairwise R
 | [],_,_=>List.Pairwise.nil
 | a::l,h1,h2=>by
  rw [List.flatMap_cons,List.pairwise_append]
  refine⟨h1 a List.mem_cons_self,wm l (fun b hb=>h1 b (List.mem_cons_of_mem _ hb)) (fun i j a' b hij ha hb=>h2 (i+1) (j+1) a' b (by omega) (by simpa using ha) (by simpa using hb)),fun x hx y hy=>?_⟩
  obtain⟨b,hb,hy⟩:=List.mem_flatMap.1 hy
  obtain⟨q,hq⟩:=List.mem_iff_getElem?.1 hb
  exact h2 0 (q+1) a b (by omega) rfl (by simpa using hq) x hx y hy
theorem wY {l:List Int}{q:Nat}{k:Int}(h:l[q]? = some k):(k,q)∈l.zipIdx:=by rw [List.mem_zipIdx_iff_getElem?];exact h
theorem uX {ns:List DNode}(hns : ∀ n∈ns,uv n=0):∀(h:Nat) (i d:Int) (s:Span),okN ns h i d s→(tX ns h i).Pairwise SpO∧∀ e∈tX ns h i,inS s (tY e)=true∧ui e=0:=by
 intro h
 induction h with
 | zero =>
  intro i d s hok
  have hl:=wy hns hok.1 hok.2.1
  exact⟨hl.ord,fun e he=>⟨hok.2.2.2 e he,hl.ok e he⟩⟩
 | succ h ih =>
  intro i d s hok
  have hI:=(vH hns hok.1 hok.2.1).2
  have hkids : ∀ q k,(nd ns i).kids[q]? = some k→_:=fun q k hk=>ih k _ _ (hok.2.2.2 (k,q) (wY hk)).1
  have hbad : ∀ j,j≤(nd ns i).seps.length→uJ (nd ns i) s j=false:=fun j hj=>by
   have hlen:=hI.seps
   have hk:(nd ns i).kids[j]? = some (nd ns i).kids[j]:=gge (by omega)
   exact(hok.2.2.2 (_,j) (wY hk)).2.1
  rw [tX]
  constructor
  · refine wm _ (fun k hk=>?_) (fun q r a b hqr ha hb x hx y hy=>?_)
    · obtain⟨q,hq⟩:=List.mem_iff_getElem?.1 hk
      exact(hkids q k hq).1
    · have hlen:=hI.seps
      have hrl:=(ggs.1 hb).1
      have h1:=((hkids q a ha).2 x hx).1
      have h2:=((hkids r b hb).2 y hy).1
      obtain⟨r,rfl⟩ : ∃ p,r=p+1:=⟨r-1,by omega⟩
      have hxq:(nd ns i).seps[q]? = some (nd ns i).seps[q]:=gge (by omega)
      have hxr:(nd ns i).seps[r]? = some (nd ns i).seps[r]:=gge (by omega)
      have h3:=zI hxq h1
      have h4:=BA hxr h2
      show cmpS (tY x) (tY y)<0
      rcases Nat.lt_or_ge q r with hlt | hge
      · have:=uV hI.ord hlt hxq hxr
        exact vA (ue.lt_trans h3 this) h4
      · obtain rfl:q=r:=by omega
        exact vA h3 h4
  · intro e he
    obtain⟨k,hk,he⟩:=List.mem_flatMap.1 he
    obtain⟨q,hq⟩:=List.mem_iff_getElem?.1 hk
    have h1:=(hkids q k hq).2 e he
    have hql:=(ggs.1 hq).1
    have hlen:=hI.seps
    exact⟨Dj (by omega) hbad h1.1,h1.2⟩
theorem Et {α:Type}{f:α→Nat}{c:Nat}:∀(l:List α),(∀ a∈l,c≤f a)→c*l.length≤(l.map f).sum
 | [],_=>by simp
 | a::l,h=>by
  have:=Et l fun b hb=>h b (List.mem_cons_of_mem _ hb)
  have:=h a List.mem_cons_self
  rw [List.map_cons,List.sum_cons,List.length_cons,Nat.mul_succ]
  omega
theorem Ce {ns:List DNode}(hns : ∀ n∈ns,uv n=0):∀(h:Nat) (i d:Int) (s:Span),okN ns h i d s→0<d→4 ^ (h+1)≤(tX ns h i).length:=by
 intro h
 induction h with
 | zero =>
  intro i d s hok hd
  have hl:=wy hns hok.1 hok.2.1
  have:=hok.2.2.1 hd
  rw [hl.kids] at this
  simpa [tX] using this
 | succ h ih =>
  intro i d s hok hd
  have hI:=(vH hns hok.1 hok.2.1).2
  have h4:=hok.2.2.1 hd
  rw [hI.elems] at h4
  rw [tX,List.length_flatMap]
  have:=Et (c:=4 ^ (h+1)) (f:=fun k=>(tX ns h k).length) (nd ns i).kids fun k hk=>by
   obtain⟨q,hq⟩:=List.mem_iff_getElem?.1 hk
   have:=hok.1
   exact ih k _ _ (hok.2.2.2 (k,q) (wY hq)).1 (by omega)
  refine Nat.le_trans ?_ this
  rw [Nat.pow_succ 4 (h+1)]
  exact Nat.mul_le_mul_left _ (by simpa using h4)
end
end Go.Proofs.YtfbpiogbhkgieaaGreat
