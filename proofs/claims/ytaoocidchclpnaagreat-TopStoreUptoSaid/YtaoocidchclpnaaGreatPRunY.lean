/- From 'every call returns true and changes nothing that was there' to a law's statement; how arguments are opened. Its conditions: none. -/
import Derived.Test.YtaoocidchclpnaaGreatOpsY
import Derived.Test.YtaoocidchclpnaaGreatRows
import Derived.ProofKit
import Derived.Below
import Derived.Deep.Slices
import Derived.SizedLaws
import Derived.JoinedCond
import Derived.Deep.CondSized
import Derived.Test.YtaoocidchclpnaaGreatCodeFY
import Derived.Test.YtaoocidchclpnaaGreatDiskFY
import Derived.Test.YtaoocidchclpnaaGreatEqLY
import Derived.Test.YtaoocidchclpnaaGreatRunFY
open UInt8 renaming ofNat→a_, toNat_ofNat'→C_, toNat_inj→T_
open Int renaming toNat_natCast→d_, lt_or_eq_of_le→o5, fdiv_eq_ediv_of_nonneg→v5
open List renaming append_nil→f_, mem_append→g_, getElem_mem→i_, take_length→j_, length_append→l_, nil_append→o_, getElem?_eq_getElem→p_, append_assoc→t_, length_cons→u_, foldl_cons→x_, findSome?_cons→y_, foldl_append→z_, take_add_one→B_, length_take→D_, filter_cons_of_neg→E_, mem_cons→F_, mem_cons_of_mem→G_, range'→I_, length_drop→M_, getD_eq_getElem?_getD→N_, cons_append→O_, range→Q_, getElem?_append_left→R_, getElem?_eq_none→S_, filter_sublist→U_, pairwise_append→V_, mem_append_left→W_, getElem?_append_right→X_, mem_zipIdx_iff_getElem?→Z_, take_left'→l7, take_succ_cons→l9, mem_range'→m0, getElem_of_mem→m4, mem_cons_self→n9, pairwise_cons→o8, filter_cons_of_pos→p6, length→p7, mem_append_right→p8, drop_eq_nil_of_le→t6, findSome?_eq_none_iff→t7, exists_of_findSome?_eq_some→t9, set_append_right→v6, filter_eq_nil_iff→v7, filterMap_cons_some→v8, mem_of_find?_eq_some→w6, pairwise_iff_getElem→w7, take_of_length_le→B1
open Option renaming some→q_, getD_none→m9, bind_some→o6
open Nat renaming le_refl→v_, lt_or_ge→H_, pow_succ→J_, mul_comm→K_, mod_eq_of_lt→L_, zero_mul→g6, zero_add→g8, add_mul→g9, mul_le_mul_right→t5, pow_le_pow_right→v4
open Bool renaming cond_eq_ite→P_, eq_iff_iff→Y_, or_eq_true→o7
namespace Go.Proofs.YtaoocidchclpnaaGreat
set_option linter.unusedSimpArgs false
set_option linter.unusedVariables false
section
open Go.ChangeShapes Go.WideShapes Go.ChangeAt Go.RowKit
section
variable {H:Type} {enc:TypeId × Value→H} {P:Program}
theorem Af (hl:laidOutB P=true){W W' : World}{sp:Nat→Bool}:∀(ts:List TypeId) (vs:List Value) (ds:List (DataW H)) (p:List MemPlace),
 (∀ t∈ts,P.readableRec t=true∧t<P.types.size)→DataW.TrodAll enc P W 0 (fun _=>true) true ts vs ds p→(∀ x∈p,W.sameAt W' x)→(∀ x∈p,sp x.block=true) →
 DataW.TrodAll enc P W' 0 sp true ts vs ds p
 | [],[],[],_,_,h,_,_=>h
 | t::ts,v::vs,d::ds,ps,ht,h,hs,hsp=>by
  obtain⟨p,q,h1,h2,rfl⟩:=h
  have hp : ∀ x∈p,x∈p++q:=fun x hx=>W_ q hx
  have hq : ∀ x∈q,x∈p++q:=fun x hx=>p8 p hx
  obtain⟨hr,hlt⟩:=ht t (by simp)
  exact⟨p,q,WideElems.Trod_stays hl hr hlt h1 (fun x hx=>hs x (hp x hx)) (fun x hx=>hsp x (hp x hx)),
   Af hl ts vs ds q (fun t' h'=>ht t' (by simp [h'])) h2 (fun x hx=>hs x (hq x hx)) (fun x hx=>hsp x (hq x hx)),rfl⟩
 | [],_::_,_,_,_,h,_,_=>h.elim
 | [],[],_::_,_,_,h,_,_=>h.elim
 | _::_,[],_,_,_,h,_,_=>h.elim
 | _::_,_::_,[],_,_,h,_,_=>h.elim
end
section
variable {H:Type} {enc:TypeId × Value→H} {P:Program} {w:World} {base:Nat} {spare:Nat→Bool} {held:Bool}
end
def GF {H:Type}(P:Program)(t:TypeId)(d:DataW H):Prop:=∀ n∈DataW.weights P t d,n≤reachBytes
def xZ {α:Type}(P:Program)(t:TypeId)(E:Enc α)(ok:α→Prop):Prop :=
 ∀(H:Type) (enc:TypeId × Value→H) (w:World) (base:Nat) (sp:Nat→Bool) (held:Bool) (fuel:Nat) (cs:List Value) (x:DataW H × List MemPlace),DataW.trod enc P w base sp held fuel t cs=some x→GF P t x.1→∃ d,E.rep (vw w) cs d∧ok d
def Ac (k:IntKind)(n:Int):Prop:=(Lit.int k n).wf=true
def okStrW (s:ByteArray):Prop:=s.size≤reachBytes
def xX {α:Type}(bytes:Nat)(ok:α→Prop)(l:List α):Prop:=l.length*bytes≤reachBytes∧∀ x∈l,ok x
theorem yV {H:Type}{P:Program}{ts:List TypeId}{ds:List (DataW H)}(hw:(DataW.weightsEach P ts ds).all (·≤reachBytes)=true){j:Nat}{t:TypeId}{d:DataW H}(ht:ts[j]? = some t)(hd:ds[j]? = some d):GF P t d:=fun n hn=>by
 have:=List.all_eq_true.1 hw n (DataW.weights_mem_each ht hd n hn)
 simpa using this
theorem zv {H:Type}{P:Program}{e:TypeId}:∀ {ds:List (DataW H)} {d:DataW H} {n:Nat},d∈ds→n∈DataW.weights P e d→n∈DataW.weightsAll P e ds
 | d0::ds,d,n,hd,hn=>by
  unfold DataW.weightsAll
  rcases F_.1 hd with rfl | hd
  · exact W_ _ hn
  · exact p8 _ (zv hd hn)
section
variable {P:Program} {t:TypeId}
theorem zV {k:IntKind}(ht:P.underlying t=some (.int k)):xZ P t (eK k) (Ac k):=fun H enc w base sp held fuel cs x h _=>by
 obtain⟨n,hc,_,hw⟩:=DataW.trod_int ht h
 exact⟨n,hc,hw⟩
theorem Gp (ht:P.underlying t=some .bool):xZ P t eBool (fun _=>True):=fun H enc w base sp held fuel cs x h _=>by
 obtain⟨b,hc,_⟩:=DataW.trod_bool ht h
 exact⟨b,hc,trivial⟩
theorem HC (ht:P.underlying t=some .string):xZ P t eStr okStrW:=fun H enc w base sp held fuel cs x h hw=>by
 obtain⟨s,hc,hx,_⟩:=DataW.trod_string ht h
 refine⟨s,hc,?_⟩
 show s.size≤reachBytes
 have:=hw s.data.toList.length (by rw [hx];simp [DataW.weights])
 simpa using this
theorem yl {α:Type}{e:TypeId}{E:Enc α}{ok:α→Prop}{bytes:Nat}(ht:P.underlying t=some (.slice e))(hs:P.cellsOf e=E.size)(hby:P.bytesOf e=bytes)(he:xZ P e E ok):xZ P t (kU E) (xX bytes ok):=fun H enc w base sp held fuel cs x h hw=>by
 rcases Deep.open_slice ht h with ⟨rfl,_⟩ | ⟨a,len,cap,m,n,D,Pl,rfl,_,hlc,hcm,hm,hx,hi⟩
 · exact⟨[],⟨none,0,rfl,hJ.nil _ _⟩,by simp,fun x hx=>by simp at hx⟩
 · have hlm:len≤m:=by rw [hm];split <;> omega
   subst hx
   have hlen:len*bytes≤reachBytes:=by
    have:=hw ((((Q_ len).map D).length+((Q_ (m-len)).map fun j=>D (len+j)).length)*P.bytesOf e) (by simp [DataW.weights,ht])
    rw [hby] at this
    simp only [List.length_map,List.length_range] at this
    exact Nat.le_trans (t5 _ (by omega)) this
   have hlight : ∀ i,i<len→GF P e (D i):=fun i hil n hn=>hw n (by
    simp only [DataW.weights,ht]
    refine G_ _ (W_ _ (zv (List.mem_map.2 ⟨i,List.mem_range.2 hil,rfl⟩) hn)))
   have key : ∀ i,i<len→∃(cs' : List Value) (d:α),w.cells? base (a.add (i*E.size)) E.size=some cs'∧E.rep (vw w) cs' d∧ok d:=fun i hil=>by
    obtain⟨cs',h1,h2⟩:=hi i (by omega)
    rw [hs] at h1
    obtain⟨d,h3,h4⟩:=he H enc w base sp held n cs' _ h2 (hlight i hil)
    exact⟨cs',d,h1,h3,h4⟩
   have build : ∀ k,k≤len→∃(l:List α) (xs:List Value),l.length=k∧iE (vw w) E xs l∧mY (vw w) (some a) xs∧∀ x∈l,ok x:=by
    intro k
    induction k with
    | zero=>intro _;exact⟨[],[],rfl,⟨by simp,fun k x hk=>by simp at hk⟩,fun j u hu=>by simp at hu,fun x hx=>by simp at hx⟩
    | succ k ih =>
     intro hk
     obtain⟨l,xs,h1,h2,h3,h4⟩:=ih (by omega)
     obtain⟨cs',d,h5,h6,h7⟩:=key k (by omega)
     refine⟨l++[d],xs++cs',by simp [h1],h2.append (ri h6),fun j u hu=>?_,fun x hx=>?_⟩
     · by_cases hj:j<xs.length
       · rw [R_ hj] at hu
         exact h3 j u hu
       · rw [X_ (by omega)] at hu
         refine⟨a,rfl,?_⟩
         obtain⟨_,_,hat⟩:=World.cells?_some h5
         have hl5:cs'.length=E.size:=E.len h6
         have hjl:j-xs.length<cs'.length:=by
          rcases H_ (j-xs.length) cs'.length with h | h
          · exact h
          · rw [S_ h] at hu;cases hu
         have:=hat (j-xs.length) (by omega)
         rw [hu,lU] at this
         have e:k*E.size+(j-xs.length)=j:=by rw [h2.1,h1] at hj ⊢;omega
         rw [e] at this
         exact this
     · rcases g_.1 hx with hx | hx
       · exact h4 x hx
       · simp at hx;subst hx;exact h7
   obtain⟨l,xs,h1,h2,h3,h4⟩:=build len (v_ _)
   subst h1
   exact⟨l,⟨some a,cap,rfl,hlc,hcm,xs,h2,h3⟩,hlen,h4⟩
theorem Cq (cs:List Value)(a k:Nat):cs.drop a=(cs.drop a).take k++cs.drop (a+k):=by
 rw [← List.drop_drop,List.take_append_drop]
theorem Jd {fs:Array Field}{H:Type}{enc:TypeId × Value→H}{w:World}{base:Nat}{sp:Nat→Bool}{held:Bool}{fuel:Nat}{cs:List Value}{x:DataW H × List MemPlace}(ht:P.underlying t=some (.struct fs))
 (h:DataW.trod enc P w base sp held fuel t cs=some x):cs.length=P.cellsOf t:=by
 obtain⟨_,_,_,_,hl,_,_⟩:=DataW.trod_struct ht h
 exact hl
theorem Az {α:Type}{E:Enc α}{ok:α→Prop}{fs:Array Field}{H:Type}{enc:TypeId × Value→H}{w:World}{base:Nat}{sp:Nat→Bool}{held:Bool}{fuel:Nat}{cs:List Value}{x:DataW H × List MemPlace}(ht:P.underlying t=some (.struct fs))
 (h:DataW.trod enc P w base sp held fuel t cs=some x) (hw:GF P t x.1) {i:Nat} {f:Field} (hi:fs[i]? = some f) (ho:xZ P f.type E ok) :
 ∃ d,E.rep (vw w) ((cs.drop f.offset).take (P.cellsOf f.type)) d∧ok d:=by
 obtain⟨xs,n,_,hx,_,hxl,hg⟩:=DataW.trod_struct ht h
 have h1:=hg i f hi
 have hlt:i<xs.length:=by rw [hxl];exact(Array.getElem?_eq_some_iff.1 hi).1
 rw [p_ hlt] at h1
 refine ho H enc w base sp held n _ _ h1 fun n hn=>hw n ?_
 subst hx
 simp only [DataW.weights,ht]
 refine DataW.weights_mem_each (j:=i) (t:=f.type) (d:=(xs[i]).1) ?_ ?_ n hn
 · rw [List.getElem?_map,Array.getElem?_toList,hi];rfl
 · rw [List.getElem?_map,p_ hlt];rfl
def okKey (x:DKey):Prop:=(Ac .i64) x.pfs∧(Ac .i64) x.obj∧(Ac .i64) x.off
theorem HB {f0 f1 f2:Field}(ht:P.underlying t=some (.struct #[f0,f1,f2]))(hc:P.cellsOf t=3)
 (o0:f0.offset=0) (c0:P.cellsOf f0.type=1) (h0:xZ P f0.type hO (Ac .i64))
 (o1:f1.offset=1) (c1:P.cellsOf f1.type=1) (h1:xZ P f1.type hO (Ac .i64))
 (o2:f2.offset=2) (c2:P.cellsOf f2.type=1) (h2:xZ P f2.type hO (Ac .i64)):xZ P t uz okKey:=fun H enc w base sp held fuel cs x h hw=>by
 have hl:=Jd ht h
 obtain⟨d0,r0,k0⟩:=Az ht h hw (i:=0) (f:=f0) rfl h0
 obtain⟨d1,r1,k1⟩:=Az ht h hw (i:=1) (f:=f1) rfl h1
 obtain⟨d2,r2,k2⟩:=Az ht h hw (i:=2) (f:=f2) rfl h2
 rw [o0,c0] at r0
 rw [o1,c1] at r1
 rw [o2,c2] at r2
 have e:cs=(cs.drop 0).take 1++((cs.drop 1).take 1++((cs.drop 2).take 1++cs.drop 3)):=by
  rw [← Cq cs 2 1,← Cq cs 1 1,← Cq cs 0 1]
  rfl
 refine⟨⟨d0,d1,d2⟩,?_,⟨k0,k1,k2⟩⟩
 show cs=DKey.cells _
 rw [e,show (cs.drop 0).take 1=_ from r0,show (cs.drop 1).take 1=_ from r1,show (cs.drop 2).take 1=_ from r2,t6 (by omega)]
 rfl
end
end
section
open Go.ChangeShapes Go.WideShapes Go.ChangeAt Go.RowKit
section
variable {H:Type}
theorem Ib (d:DataW H):1≤Rows.uptoBulk d:=by
 cases d with
 | lit l=>cases l <;> simp [Rows.uptoBulk]
 | nil=>simp [Rows.uptoBulk]
 | ptr d=>simp [Rows.uptoBulk]
 | slice elems spare=>simp [Rows.uptoBulk]
 | agg parts=>simp [Rows.uptoBulk]
 | iface t d=>simp [Rows.uptoBulk]
 | map entries=>simp [Rows.uptoBulk]
 | held h=>simp [Rows.uptoBulk]
theorem Hc {d:DataW H}{l:List (DataW H)}(h:d∈l):Rows.uptoBulk d≤Rows.uptoBulkAll l:=by
 induction l with
 | nil=>cases h
 | cons x r ih =>
  simp only [Rows.uptoBulkAll]
  cases F_.1 h with
  | inl e=>subst e;omega
  | inr e=>have:=ih e;omega
theorem EQ (l:List (DataW H)):l.length≤Rows.uptoBulkAll l:=by
 induction l with
 | nil=>simp [Rows.uptoBulkAll]
 | cons x r ih=>have:=Ib x;simp only [Rows.uptoBulkAll,u_];omega
variable {enc:TypeId × Value→H} {P:Program} {w:World} {base:Nat} {sp:Nat→Bool} {held:Bool} {fuel:Nat}
theorem yQ {t e:TypeId}{cs:List Value}{x:DataW H × List MemPlace}{A:Option Addr}{n c:Nat}{ds:List (DataW H)}(ht:P.underlying t=some (.slice e))(h:DataW.trod enc P w base sp held fuel t cs=some x)(hcs:cs=[.slice A n c])
 (hk:Rows.uptoSmall H ds=true) (hm:x.1∈ds):n≤1048576:=by
 have h1:Rows.uptoBulkAll ds≤1048576:=of_decide_eq_true hk
 have h2:=Hc hm
 rcases DataW.trod_slice ht h with ⟨h3,_⟩ | ⟨a,len,cap,elems,rest,m,_,h3,h4,_,_,_,h5,_⟩
 · rw [hcs] at h3
   simp at h3
   omega
 · rw [hcs] at h3
   simp at h3
   obtain⟨_,rfl,_⟩:=h3
   rw [h4] at h2
   simp only [Rows.uptoBulk] at h2
   have h6:=EQ (elems.map (·.1))
   rw [List.length_map] at h6
   omega
end
def EG (P:Program)(F:FuncId)(fn:Func):Prop :=
 ∀(H:Type) (enc:TypeId × Value→H) (W:World) (base:Nat) (args:Array Value) (ds:List (DataW H)) (p:List MemPlace),
  (∀(j:Nat) t v,fn.params[j]? = some t→args[j]? = some v→Value.okWide P W .any base t v) →
  DataW.TrodAll enc P W 0 (fun _=>true) true fn.params.toList args.toList ds p →
  (DataW.weightsEach P fn.params.toList ds).all (·≤reachBytes)=true→Rows.uptoSmall H ds=true →
  Calls P F args W fun e W'=>e = .returned (.bool true)∧Below W.heap.size W W'
theorem B0 {C:Checked}{os:Os}{F:FuncId}{fn:Func}{s:ChangeSpec}{tb:TypeId}{H:Type}{enc:TypeId × Value→H}(hcall:EG C.prog F fn)
 (own:ownKnob C.prog.godebug=none) (started:os.Started) (noInit:C.prog.inits.idxOf? F=none) (hfn:C.prog.funcs[F]? = some fn)
 (witness : ∃(w:World) (tape:Tape) (i:Input),w.os=os∧(w.forCall tape i).Shaped C.prog∧i.vars=[]∧Input.okWide C.prog (w.forCall tape i) .any w.heap.size F i ∧
  (Rows.OpenSpec.upto s).pre6 enc C.prog fn [] false (w.forCall tape i).memory i.args∧Assume.holds {} C.prog (lone (Frame.enter C.prog F i.args .normal) [] (w.forCall tape i)))
 (hvars:s.vars=[]) (hres:fn.resultTypes = #[tb]) (htb:C.prog.underlying tb=some .bool) (laid:laidOutB C.prog=true)
 (hread : ∀ t∈fn.params.toList,C.prog.readableRec t=true∧t<C.prog.types.size)
 (hspec : ∀(ds:List (DataW H)),ds.length=fn.params.toList.length→(s.fn H ds).results=[.lit (.bool true)]∧(s.fn H ds).args=ds∧(s.fn H ds).vars=[]) (Fi:Stop.Interp) :
 ReturnsInHanded {} C os F .any ((Rows.OpenSpec.upto s).pre6 enc C.prog fn [] false) (((Rows.OpenSpec.upto s).at Fi).post enc C.prog fn false true false false):=by
 refine returnsInHanded_of_cond_sized (C:=C) (s:=Rows.OpenSpec.upto s) (k:=Rows.uptoSmall) rfl own started noInit hfn witness ?_
 intro W base args ds gs before hval hW _ hk hw _
 have hW' : DataW.Whole enc C.prog fn.params.toList s.vars false W args.toList ds gs before:=hW
 obtain⟨p,q,hA,hV,rfl,hfz,hnd⟩:=hW
 have hv0:(Rows.OpenSpec.upto s).vars=[]:=hvars
 rw [hv0] at hV
 obtain⟨rfl,rfl⟩:=trodVars_none hV
 have hvt:s.plain.varTypes C.prog=[]:=by
  show DataSpec.varTypes _ _=[]
  unfold DataSpec.varTypes ChangeSpec.plain
  simp [hvars]
 have hw' : (DataW.weightsEach C.prog (fn.params.toList++s.plain.varTypes C.prog) (ds++[])).all (·≤reachBytes)=true:=hw
 rw [hvt,f_,f_] at hw'
 rw [f_] at hk
 have hlen : ∀(ts:List TypeId) (vs:List Value) (ds:List (DataW H)) (p:List MemPlace),DataW.TrodAll enc C.prog W 0 (fun _=>true) true ts vs ds p→ds.length=ts.length:=by
  intro ts
  induction ts with
  | nil=>intro vs ds p h;cases vs <;> cases ds <;> first | rfl | exact h.elim
  | cons t ts ih =>
   intro vs ds p h
   cases vs with
   | nil=>exact h.elim
   | cons v vs =>
    cases ds with
    | nil=>exact h.elim
    | cons d ds=>obtain ⟨p1,q1,_,h2,_⟩:=h;simp [ih _ _ _ h2]
 refine(hcall H enc W base args ds p hval hA hw' hk).mono fun e W' ⟨he,hb⟩=>?_
 subst he
 obtain⟨hs1,hs2,hs3⟩:=hspec ds (hlen _ _ _ _ hA)
 have hlt : ∀ x∈p,x.block<W.heap.size:=fun x hx=>hW'.lt x (by simpa using hx)
 have hstay : ∀ sp:Nat→Bool,(∀ x∈p,sp x.block=true)→DataW.TrodAll enc C.prog W' 0 sp true fn.params.toList args.toList ds p:=fun sp hsp =>
  Af laid _ _ _ _ hread hA (fun x hx=>hb.same (hlt x hx)) hsp
 have post:s.post enc C.prog fn false true false false W args (.bool true) W':=by
  refine⟨ds,[],p++[],[],p,[],hW',?_,?_,?_,World.keptBut_mono (fun x hx=>⟨by simpa using hx,.inr (.inl (by simpa using hx))⟩) (hb.frame (·∈p)),fun h=>by cases h⟩
  · rw [f_,hs1,hres]
    exact trodAll_mk1 (shut_bool htb true)
  · rw [f_,hs2]
    exact hstay _ fun x hx=>by simpa using hlt x hx
  · rw [f_,hs3,hvars]
    rfl
 exact⟨_,rfl,post⟩
end
section
def ofL (l:List UInt8):ByteArray:=⟨l.toArray⟩
theorem F2 (s:ByteArray):∃ l,s=ofL l:=⟨s.data.toList,rfl⟩
@[simp] theorem CF (l : List UInt8) : (ofL l).size = l.length := rfl
theorem GS {a b:List UInt8}:ofL a=ofL b↔a=b:=by
 constructor
 · intro h
   have:=congrArg (fun s:ByteArray=>s.data.toList) h
   simpa [ofL] using this
 · rintro rfl;rfl
theorem yM (l:List UInt8)(i:Int):qc (ofL l) i=if 0≤i then l[i.toNat]? else none:=by
 unfold qc
 split
 · show (if h:i.toNat<l.toArray.size then some l.toArray[i.toNat] else none)=_
   by_cases hi:i.toNat<l.length
   · rw [dif_pos (by simpa using hi),p_ hi];rfl
   · rw [dif_neg (by simpa using hi),S_ (by omega)]
 · rfl
theorem Gl (a b:List UInt8):ofL a++ofL b=ofL (a++b):=by
 have:(ofL a++ofL b).data=(ofL (a++b)).data:=by
  rw [ByteArray.data_append];simp [ofL]
 exact ByteArray.ext this
theorem wq {a b:List UInt8}(h:a.length+b.length≤9223372036854775807):mv (ofL a) (ofL b)=some (ofL (a++b)):=by
 unfold mv
 rw [if_pos (by simpa using h),Gl]
theorem Fq (l:List UInt8)(lo hi:Nat):(ofL l).extract lo hi=ofL ((l.take hi).drop lo):=by
 apply ByteArray.ext
 rw [ByteArray.data_extract]
 simp [ofL,List.extract,List.drop_take]
theorem vY {l:List UInt8}{lo hi:Int}(h0:0≤lo)(h1:lo≤hi)(h2:hi≤l.length):jN (ofL l) lo hi=some (ofL ((l.take hi.toNat).drop lo.toNat)):=by
 unfold jN
 rw [if_pos ⟨h0,h1,by simpa using h2⟩,Fq]
theorem JP (a b:List UInt8):seq (ofL a) (ofL b)=(a == b):=by
 rw [Y_,tQ,GS];simp
theorem FQ (l:List Int):lu l=ofL (l.map fun n=>a_ n.toNat):=by
 have key : ∀(l:List Int) (s:ByteArray),l.foldl (fun s n=>s.push (a_ n.toNat)) s=ofL (s.data.toList++l.map fun n=>a_ n.toNat):=by
  intro l
  induction l with
  | nil=>intro s;simp [ofL]
  | cons n l ih =>
   intro s
   rw [x_,ih]
   congr 1
   simp
 simpa [lu] using key l ByteArray.empty
theorem yg (l:List UInt8):lu (l.map fun b=>(b.toNat:Int))=ofL l:=by
 rw [FQ,List.map_map]
 congr 1
 have:(fun b:UInt8=>a_ ((b.toNat:Int)).toNat)=id:=by funext b;simp
 rw [show (fun n:Int=>a_ n.toNat) ∘ (fun b:UInt8=>(b.toNat:Int))=id from this,List.map_id]
theorem uT {α β:Type}(a:α)(f:α→Option β):(some a).bind f=f a:=by
 have h : ∀ o:Option α,o=some a→o.bind f=f a:=fun o ho=>by rw [ho];rfl
 exact h _ rfl
theorem vh {α:Type}(a b:α):(bif true then a else b)=a:=by
 have h : ∀ c:Bool,c=true→(bif c then a else b)=a:=fun c hc=>by rw [hc];rfl
 exact h _ rfl
theorem uY {α:Type}(a b:α):(bif false then a else b)=b:=by
 have h : ∀ c:Bool,c=false→(bif c then a else b)=b:=fun c hc=>by rw [hc];rfl
 exact h _ rfl
theorem zO {σ ρ:Type}{f:σ→Option (σ ⊕ ρ)}(g:Nat→σ)(W:Nat→Option ρ)(n:Nat){res:ρ}(hs : ∀ k,k<n→f (g k)=some (match W k with | some r=>.inr r | none=>.inl (g (k+1))))(he:f (g n)=some (.inr res)) :
 ∀(m k N:Nat),k+m=n→m<N→iter f N (g k)=some (((I_ k m).findSome? W).getD res)
 | 0,k,N,hk,hN=>by
  obtain⟨N,rfl⟩ : ∃ M,N=M+1:=⟨N-1,by omega⟩
  rw [iter,show k=n by omega,he];rfl
 | m+1,k,N,hk,hN=>by
  obtain⟨N,rfl⟩ : ∃ M,N=M+1:=⟨N-1,by omega⟩
  rw [iter,hs k (by omega),List.range'_succ,y_]
  cases hW:W k with
  | some r=>rfl
  | none=>exact zO g W n hs he m (k+1) N (by omega) (by omega)
theorem vo {n:Int}(h0 : -9223372036854775808≤n)(h1:n≤9223372036854775807):IntKind.i64.wrap n=n:=by
 rw [IntKind.wrap_i64]
 omega
theorem Kp (n:Int):IntKind.u8.wrap n=n % 256:=by simp [IntKind.wrap,IntKind.bits,IntKind.signed]
theorem ED (n:Int):IntKind.u16.wrap n=n % 65536:=by simp [IntKind.wrap,IntKind.bits,IntKind.signed]
end
section
def stp (x:BitVec 16):BitVec 16:=if x.msb then (x <<< 1) ^^^ 0x1021#16 else x <<< 1
def HJ (b:Bool):BitVec 16:=if b then 0x1021#16 else 0#16
theorem Ew (x:BitVec 16):stp x=(x <<< 1) ^^^ HJ x.msb:=by
 unfold stp HJ
 split <;> simp_all
theorem IU (a b:Bool):HJ (a ^^ b)=HJ a ^^^ HJ b:=by cases a <;> cases b <;> rfl
theorem KD (a b c d:BitVec 16):(a ^^^ b) ^^^ (c ^^^ d)=(a ^^^ c) ^^^ (b ^^^ d):=by
 rw [BitVec.xor_assoc,← BitVec.xor_assoc b c d,BitVec.xor_comm b c,BitVec.xor_assoc c b d,← BitVec.xor_assoc]
theorem JT (x y:BitVec 16):stp (x ^^^ y)=stp x ^^^ stp y:=by
 rw [Ew,Ew,Ew,BitVec.msb_xor,IU,BitVec.shiftLeft_xor_distrib,KD]
def fd (x:BitVec 16)(b:Bool):BitVec 16:=stp (x ^^^ (if b then 0x8000#16 else 0#16))
def C3 (x:BitVec 16)(l:List Bool):BitVec 16:=l.foldl fd x
def Ix (b:Bool):BitVec 16:=if b then 0x8000#16 else 0#16
theorem EY (x:BitVec 16)(l m:List Bool):C3 x (l++m)=C3 (C3 x l) m:=z_
def EC:List Bool→BitVec 16
 | []=>0#16
 | b::l=>Ix b ^^^ (EC l >>> 1)
def Ex:Nat→BitVec 16→BitVec 16
 | 0,x=>x
 | n+1,x=>Ex n (stp x)
theorem FK : ∀(l:List Bool) (i:Nat),i+l.length<16→(EC l).getLsbD i=false
 | [],i,_=>by simp [EC]
 | b::l,i,h=>by
  have h1:=FK l (i+1) (by simp at h;omega)
  have h2:(Ix b).getLsbD i=false:=by
   cases b
   · simp [Ix]
   · have:i<15:=by simp at h;omega
     simp only [Ix,if_true]
     rw [show (0x8000#16:BitVec 16)=BitVec.twoPow 16 15 from rfl,BitVec.getLsbD_twoPow]
     simp;omega
  simp [EC,h1,h2,Nat.add_comm 1 i]
theorem I9 {y:BitVec 16}(h0:y.getLsbD 0=false):stp (y >>> 1)=y:=by
 have hm:(y >>> 1).msb=false:=by
  rw [BitVec.msb_eq_getLsbD_last];simp
 rw [Ew,hm]
 simp only [HJ,Bool.false_eq_true,if_false,BitVec.xor_zero]
 apply BitVec.eq_of_getLsbD_eq
 intro i hi
 rcases Nat.eq_zero_or_pos i with rfl | hp
 · simp;simpa using h0
 · rw [BitVec.getLsbD_shiftLeft,BitVec.getLsbD_ushiftRight]
   simp [hi,show ¬ i<1 by omega,show 1+(i-1)=i by omega]
theorem Di : ∀(l:List Bool) (x:BitVec 16),l.length≤16→C3 x l=Ex l.length (x ^^^ EC l)
 | [],x,_=>by simp [C3,Ex,EC]
 | b::l,x,h=>by
  have hl:l.length≤15:=by simpa using h
  show C3 (fd x b) l=Ex l.length (stp (x ^^^ (Ix b ^^^ (EC l >>> 1))))
  rw [Di l _ (by omega),← BitVec.xor_assoc,JT,I9 (FK l 0 (by omega))]
  rfl
def EL (b:UInt8):List Bool:=(Q_ 8).map fun j=>b.toNat.testBit (7-j)
def Cm (l:List UInt8):List Bool:=l.flatMap EL
def crc (l:List UInt8):BitVec 16:=C3 0#16 (Cm l)
theorem AK (b:UInt8):(EL b).length=8:=by simp [EL]
theorem DW (a b:List UInt8):Cm (a++b)=Cm a++Cm b:=List.flatMap_append
theorem GD (b:UInt8):EC (EL b)=BitVec.ofNat 16 b.toNat <<< 8:=by
 have : ∀ n,n<256→EC ((Q_ 8).map fun j=>n.testBit (7-j))=BitVec.ofNat 16 n <<< 8:=by decide +kernel
 exact this _ b.toNat_lt
def Id (x:BitVec 16)(b:UInt8):BitVec 16:=Ex 8 (x ^^^ (BitVec.ofNat 16 b.toNat <<< 8))
theorem He (x:BitVec 16)(b:UInt8):C3 x (EL b)=Id x b:=by
 rw [Di _ _ (by rw [AK];decide),AK,GD];rfl
theorem FZ (a b:List UInt8):crc (a++b)=C3 (crc a) (Cm b):=by rw [crc,DW,EY];rfl
end
end Go.Proofs.YtaoocidchclpnaaGreat
namespace Go.Proofs.YtaoocidchclpnaaGreat
theorem obs {α:Type _}{β:Type _}(a:α)(f:α→Option β):(some a).bind f=f a:=rfl
theorem gge {α:Type _}{l:List α}{i:Nat}(h:i<l.length):l[i]? = some l[i]:=p_ h
theorem ggs {α:Type _}{l:List α}{i:Nat}{a:α}:l[i]? = some a↔∃ h:i<l.length,l[i]=a:=List.getElem?_eq_some_iff
set_option linter.unusedVariables false
set_option linter.unusedSimpArgs false
theorem w64 {n:Int}(h0 : -9223372036854775808≤n)(h1:n≤9223372036854775807):IntKind.i64.wrap n=n:=by
 rw [IntKind.wrap_i64]
 omega
theorem uX {α:Type}(l:List α)(k:Nat):idx l (k:Int)=l[k]?:=by
 unfold idx;rw [if_neg (by omega),d_]
theorem vn {α:Type}{b:Nat}{l m:List α}(h:(l.length+m.length)*b≤140737488355328)(hm:l.length+m.length≤9223372036854775807):jT b l m=some (l++m):=by
 unfold jT;rw [if_pos ⟨h,by unfold maxLen;omega⟩]
theorem Bx {α:Type}{l:List α}{lo hi:Int}(h0:0≤lo)(h1:lo≤hi)(h2:hi≤l.length):ja l lo hi=some ((l.take hi.toNat).drop lo.toNat):=by
 unfold ja;rw [if_pos ⟨h0,h1,h2⟩]
theorem wd {α:Type}{l:List α}{k:Nat}(h:k≤l.length):ja l 0 (k:Int)=some (l.take k):=by
 rw [Bx (by omega) (by omega) (by omega)];simp
theorem vF {α:Type}{l:List α}{k:Nat}(h:k≤l.length):ja l (k:Int) (l.length:Int)=some (l.drop k):=by
 rw [Bx (by omega) (by omega) (by omega)];simp
theorem vD {c:Int}(h:c≠0):(c != 0)=true:=by simpa using h
theorem vp {c:Int}(h:c=0):(c != 0)=false:=by simp [h]
section loops
variable {σ ρ α τ:Type} {F:Nat}
theorem GO {f:σ→Option (σ ⊕ ρ)}(g:Nat→σ){r:ρ}:∀(n:Nat) (N:Nat),(∀ k,k<n→f (g k)=some (.inl (g (k+1))))→f (g n)=some (.inr r)→n<N→iter f N (g 0)=some r
 | 0,N,_,he,hN=>by
  obtain⟨N,rfl⟩ : ∃ M,N=M+1:=⟨N-1,by omega⟩
  rw [iter,he]
 | n+1,N,hs,he,hN=>by
  obtain⟨N,rfl⟩ : ∃ M,N=M+1:=⟨N-1,by omega⟩
  rw [iter,hs 0 (by omega)]
  exact GO (fun k=>g (k+1)) n N (fun k hk=>hs (k+1) (by omega)) he (by omega)
theorem yB [h:Big F]{n:Nat}(hn:n≤9223372036854775807):n<F:=by have:=h.le;omega
theorem vE [Big F]{f:σ→Option (σ ⊕ ρ)}(g:Nat→σ)(n:Nat){r:ρ}{s:σ}(h0:s=g 0)(hn:n≤9223372036854775807)(hs : ∀ k,k<n→f (g k)=some (.inl (g (k+1))))(he:f (g n)=some (.inr r)):iter f F s=some r:=by
 rw [h0];exact GO g n F hs he (yB hn)
theorem IB [Big F]{f:σ→Option (σ ⊕ ρ)}(g:Nat→σ){r:ρ}(n:Nat)(hs : ∀ k,k<n→f (g k)=some (.inl (g (k+1))))(he:f (g n)=some (.inr r))(hn:n≤9223372036854775807){s:σ}(h0:s=g 0):iter f F s=some r :=
 vE g n h0 hn hs he
theorem wQ [Big F]{f:σ→Option (σ ⊕ ρ)}{k:ρ→Option τ}{q:τ}(g:Nat→σ){r:ρ}(n:Nat){s:σ}(hn:n≤9223372036854775807)(h0:s=g 0)(hk:k r=some q)(hs : ∀ k,k<n→f (g k)=some (.inl (g (k+1))))(he:f (g n)=some (.inr r)) :
 (iter f F s).bind k=some q:=by
 rw [vE g n h0 hn hs he];exact hk
theorem w8 [Big F]{f:Int→Option (Int ⊕ ρ)}(l:List α)(w:Nat→α→Option ρ)(res:ρ)(hn:l.length≤9223372036854775807){s:Int}(h0:s=0)
 (hs : ∀(k:Nat) (e:α),l[k]? = some e→(∀ j x,j<k→l[j]? = some x→w j x=none)→f (k:Int)=some (match w k e with | some r=>.inr r | none=>.inl ((k:Int)+1)))
 (he:f (l.length:Int)=some (.inr res)):iter f F s=some (((l.zipIdx).findSome? fun p=>w p.2 p.1).getD res):=by
 subst h0
 have key : ∀(m k N:Nat),k+m=l.length→m<N→(∀ j x,j<k→l[j]? = some x→w j x=none)→iter f N (k:Int)=some ((((l.drop k).zipIdx k).findSome? fun p=>w p.2 p.1).getD res):=by
  intro m
  induction m with
  | zero =>
   intro k N hk hN _
   obtain⟨N,rfl⟩ : ∃ M,N=M+1:=⟨N-1,by omega⟩
   rw [iter,show k=l.length by omega,he,List.drop_length];rfl
  | succ m ih =>
   intro k N hk hN hb
   obtain⟨N,rfl⟩ : ∃ M,N=M+1:=⟨N-1,by omega⟩
   have hkl:k<l.length:=by omega
   rw [iter,hs k l[k] (p_ hkl) hb,List.drop_eq_getElem_cons hkl,List.zipIdx_cons,y_]
   dsimp only
   cases hw:w k l[k] with
   | some r=>rfl
   | none =>
    refine ih (k+1) N (by omega) (by omega) fun j x hj hx=>?_
    rcases H_ j k with h1 | h1
    · exact hb j x h1 hx
    · obtain rfl:j=k:=by omega
      rw [p_ hkl] at hx
      obtain rfl:=q_.inj hx
      exact hw
 have:=key l.length 0 F (by omega) (yB hn) (fun j x hj=>by omega)
 rw [List.drop_zero] at this
 exact this
theorem CC [Big F]{f:Int→Option (Int ⊕ ρ)}(l:List α)(w:α→Option ρ)(res:ρ)(hn:l.length≤9223372036854775807){s:Int}(h0:s=0)
 (hs : ∀(k:Nat) (e:α),l[k]? = some e→f (k:Int)=some (match w e with | some r=>.inr r | none=>.inl ((k:Int)+1)))
 (he:f (l.length:Int)=some (.inr res)):iter f F s=some ((l.findSome? w).getD res):=by
 rw [w8 l (fun _ e=>w e) res hn h0 (fun k e hk _=>hs k e hk) he]
 congr 2
 have : ∀(l:List α) (n:Nat),(l.zipIdx n).findSome? (fun p=>w p.1)=l.findSome? w:=by
  intro l
  induction l with
  | nil=>intro n;rfl
  | cons a l ih=>intro n;rw [List.zipIdx_cons,y_,y_,ih]
 exact this l 0
theorem xx {l:List α}{w:Nat→α→Option ρ}:(l.zipIdx.findSome? fun p=>w p.2 p.1)=none↔∀ k e,l[k]? = some e→w k e=none:=by
 rw [t7]
 constructor
 · intro h k e hk
   exact h (e,k) (by rw [Z_];exact hk)
 · rintro h ⟨e,k⟩ hp
   rw [Z_] at hp
   exact h k e hp
theorem yH {l:List α}{w:Nat→α→Option ρ}{r:ρ}(h:(l.zipIdx.findSome? fun p=>w p.2 p.1)=some r):∃ k e,l[k]? = some e∧w k e=some r:=by
 obtain⟨⟨e,k⟩,hp,hr⟩:=t9 h
 rw [Z_] at hp
 exact⟨k,e,hp,hr⟩
theorem wr [Big F]{f:τ × Int→Option ((τ × Int) ⊕ ρ)}(l:List α)(st:τ→α→τ)(a0:τ){r:ρ}(hn:l.length≤9223372036854775807){s:τ × Int}(h0:s=(a0,0))
 (hs : ∀(k:Nat) (e:α),l[k]? = some e→f ((l.take k).foldl st a0,(k:Int))=some (.inl (st ((l.take k).foldl st a0) e,(k:Int)+1)))
 (he:f (l.foldl st a0,(l.length:Int))=some (.inr r)):iter f F s=some r:=by
 refine vE (fun k=>((l.take k).foldl st a0,(k:Int))) l.length (by rw [h0];rfl) hn (fun k hk=>?_) (by rw [j_];exact he)
 rw [hs k l[k] (p_ hk),B_,p_ hk,Option.toList_some,z_]
 simp
theorem AX [Big F]{f:σ→Option (σ ⊕ ρ)}{K:ρ→Option τ}(R:Nat→σ→τ→Prop)
 (hR : ∀ m s q,R m s q→(∃ r,f s=some (.inr r)∧K r=some q)∨∃ m' s',m'<m∧f s=some (.inl s')∧R m' s' q) {m:Nat} {s:σ} {q:τ} (hm:m≤9223372036854775807) (h:R m s q):(iter f F s).bind K=some q:=by
 have key : ∀(n N m:Nat) (s:σ),m≤n→n<N→R m s q→(iter f N s).bind K=some q:=by
  intro n
  induction n with
  | zero =>
   intro N m s hmn hN hs
   obtain⟨N,rfl⟩ : ∃ M,N=M+1:=⟨N-1,by omega⟩
   rcases hR m s q hs with ⟨r,h1,h2⟩ | ⟨m',s',h1,h2,h3⟩
   · rw [iter,h1];exact h2
   · omega
  | succ n ih =>
   intro N m s hmn hN hs
   obtain⟨N,rfl⟩ : ∃ M,N=M+1:=⟨N-1,by omega⟩
   rcases hR m s q hs with ⟨r,h1,h2⟩ | ⟨m',s',h1,h2,h3⟩
   · rw [iter,h1];exact h2
   · rw [iter,h2];exact ih N m' s' (by omega) (by omega) h3
 exact key m F m s (v_ _) (yB hm) h
theorem Ct {β:Type}(g:α→β)(l:List α):∀ a:List β,l.foldl (fun a e=>a++[g e]) a=a++l.map g:=by
 induction l with
 | nil=>intro a;simp
 | cons x l ih=>intro a;rw [x_,ih];simp
def JW (p:Nat→Bool):Nat→Nat
 | 0=>0
 | n+1=>if p (JW p n) then JW p n else if p n then n else n+1
end loops
end Go.Proofs.YtaoocidchclpnaaGreat
namespace Go.Proofs.YtaoocidchclpnaaGreat
set_option linter.unusedSimpArgs false
set_option linter.unusedVariables false
section
open Go.ChangeShapes
variable {F:Nat} [Big F]
theorem Cd (X:BitVec 16):BitVec.ofInt 16 (X.toNat:Int)=X:=by simp
theorem Jj (X:BitVec 16):IntKind.u16.wrap (X.toNat:Int)=(X.toNat:Int):=by
 rw [ED];have:=X.isLt;omega
theorem Ic (X Y:BitVec 16):uj .u16 (X.toNat:Int) (Y.toNat:Int)=((X ^^^ Y).toNat:Int):=by
 show IntKind.u16.wrap ((BitVec.ofInt 16 (X.toNat:Int) ^^^ BitVec.ofInt 16 (Y.toNat:Int)).toNat:Int)=_
 rw [Cd,Cd,Jj]
theorem J3 (X Y:BitVec 16):ut .u16 (X.toNat:Int) (Y.toNat:Int)=((X &&& Y).toNat:Int):=by
 show IntKind.u16.wrap ((BitVec.ofInt 16 (X.toNat:Int) &&& BitVec.ofInt 16 (Y.toNat:Int)).toNat:Int)=_
 rw [Cd,Cd,Jj]
theorem JX (X:BitVec 16){n:Nat}(hn:n≤16):shl .u16 (X.toNat:Int) n=((X <<< n).toNat:Int):=by
 show IntKind.u16.wrap ((X.toNat:Int)*2 ^ min n 16)=_
 rw [ED,Nat.min_eq_left hn,BitVec.toNat_shiftLeft,Nat.shiftLeft_eq]
 rw [Int.natCast_emod,Int.natCast_mul,Int.natCast_pow]
 rfl
theorem H5 (X:BitVec 16):X &&& 0x8000#16=if X.msb then 0x8000#16 else 0#16:=by
 apply BitVec.eq_of_getLsbD_eq
 intro i hi
 rw [BitVec.getLsbD_and,show (0x8000#16:BitVec 16)=BitVec.twoPow 16 15 from rfl,BitVec.getLsbD_twoPow,BitVec.msb_eq_getLsbD_last]
 by_cases h:i=15
 · subst h
   cases hx:X.getLsbD 15 <;> simp [hx,BitVec.getLsbD_twoPow]
 · have h' : ¬ 15=i:=fun e=>h e.symm
   cases X.getLsbD (16-1) <;> simp [h',BitVec.getLsbD_twoPow]
theorem JS (X:BitVec 16):(bif ((ut .u16 (X.toNat:Int) 32768) != 0) then some (uj .u16 (shl .u16 (X.toNat:Int) 1) 4129) else some (shl .u16 (X.toNat:Int) 1))=some ((stp X).toNat:Int):=by
 have e1:ut .u16 (X.toNat:Int) 32768=((X &&& 0x8000#16).toNat:Int):=J3 X 0x8000#16
 rw [e1,H5,JX X (by decide)]
 unfold stp
 cases X.msb with
 | true=>exact congrArg some (Ic (X <<< 1) 0x1021#16)
 | false=>rfl
theorem DP : ∀ k X,Ex (k+1) X=stp (Ex k X)
 | 0,_=>rfl
 | k+1,X=>DP k (stp X)
theorem CP (l:List UInt8)(hl:l.length≤9223372036854775807):qF F (ofL l)=some ((crc l).toNat:Int):=by
 unfold qF
 have inner : ∀ X:BitVec 16,iter (σ:=Int × Int) (ρ:=Int) (fun x=>match x with
  | (x3,x4) =>
   bif decide (x4<8) then
    (
     bif ((ut .u16 x3 32768) != 0) then
      some (uj .u16 (shl .u16 x3 1) 4129)
      else
       some (shl .u16 x3 1):Option (Int)).bind fun z3 =>
    some (.inl (z3,IntKind.i64.wrap (x4+1)))
    else
     some (.inr x3)) F ((X.toNat:Int),0)=some ((Ex 8 X).toNat:Int):=fun X=>by
  refine IB (fun k=>(((Ex k X).toNat:Int),(k:Int))) 8 (fun k hk=>?_) rfl (by decide) rfl
  dsimp only
  rw [JS,show decide ((k:Int)<8)=true from by simp;omega,vo (by omega) (by omega)]
  simp [DP]
 have outer : ∀ k,k<l.length→(qc (ofL l) (k:Int))=some l[k]!:=fun k hk=>by
  rw [yM,if_pos (by omega),d_,gge hk,getElem!_pos l k hk]
 refine wQ (r:=((crc l).toNat:Int)) (fun k=>(((crc (l.take k)).toNat:Int),(k:Int))) l.length hl (by simp [crc,Cm,C3]) ?_ (fun k hk=>?_) ?_
 · rw [vo (by omega) (by have:=(crc l).isLt;omega)]
 · dsimp only
   rw [show decide ((k:Int)<((ofL l).size:Int))=true from by simp;omega,outer k hk]
   have e1:IntKind.u16.wrap ((l[k]!).toNat:Int)=(((BitVec.ofNat 16 (l[k]!).toNat).toNat:Nat):Int):=by
    have:=(l[k]!).toNat_lt
    rw [ED,BitVec.toNat_ofNat];omega
   simp only [obs,cond_true]
   rw [e1,JX _ (by decide),Ic,inner,vo (by omega) (by omega)]
   have e2:l.take (k+1)=l.take k++[l[k]!]:=by
    rw [B_,gge hk,getElem!_pos l k hk];rfl
   have e3:crc (l.take (k+1))=Id (crc (l.take k)) l[k]!:=by
    rw [e2,FZ,Cm,List.flatMap_cons,List.flatMap_nil,f_,He]
   rw [e3]
   simp [Id]
 · dsimp only
   rw [show decide ((l.length:Int)<((ofL l).size:Int))=false from by simp,j_]
   rfl
def two (X:BitVec 16):List UInt8:=[a_ (X.toNat / 256),a_ (X.toNat % 256)]
theorem AG (X:BitVec 16):(two X).length=2:=rfl
theorem Kf {n:Int}(h0:0≤n)(h1:n≤140737488355328):qV 1 n=some ():=by
 unfold qV maxLen
 rw [if_pos ⟨h0,by omega,by omega⟩]
theorem wa {α:Type}(l:List α)(k:Nat):idx l (k:Int)=l[k]?:=by
 unfold idx
 rw [if_neg (by omega),d_]
end
section
open Go.ChangeShapes
variable {F:Nat} [Big F]
def vg (n:Nat):Nat→List UInt8
 | 0=>[]
 | k+1=>a_ (n / 256 ^ k)::vg n k
def vu (l:List UInt8):Nat:=l.foldl (fun n b=>n*256+b.toNat) 0
theorem uV (n:Nat):∀ k,(vg n k).length=k
 | 0=>rfl
 | k+1=>by rw [vg,u_,uV n k]
theorem Hi (l:List UInt8)(x:Nat):l.foldl (fun n b=>n*256+b.toNat) x=x*256 ^ l.length+vu l:=by
 unfold vu
 induction l generalizing x with
 | nil=>simp
 | cons b l ih =>
  rw [x_,ih,x_,ih (0*256+b.toNat),u_,J_,g6,g8,g9,Nat.mul_assoc,K_ 256,Nat.add_assoc]
theorem BI (b:UInt8)(l:List UInt8):vu (b::l)=b.toNat*256 ^ l.length+vu l:=by
 show List.foldl _ (0*256+b.toNat) l=_
 rw [Hi,g6,g8]
theorem Cg : ∀ l:List UInt8,vu l<256 ^ l.length
 | []=>by decide
 | b::l=>by
  have:=Cg l
  have hb:=b.toNat_lt
  rw [BI,u_,J_]
  have h1:(b.toNat+1)*256 ^ l.length≤256*256 ^ l.length:=t5 _ (by omega)
  rw [g9,Nat.one_mul] at h1
  rw [K_ (256 ^ l.length)]
  omega
theorem wA (n:Nat):∀ k,vu (vg n k)=n % 256 ^ k
 | 0=>by rw [Nat.pow_zero,Nat.mod_one];rfl
 | k+1=>by
  have h:=Nat.mod_mul (x:=n) (a:=256 ^ k) (b:=256)
  rw [vg,BI,uV,wA n k,J_,h,C_]
  show n / 256 ^ k % 256*256 ^ k+n % 256 ^ k=_
  rw [K_,Nat.add_comm]
theorem EK : ∀(l:List UInt8) (m:Nat),vg (m*256 ^ l.length+vu l) l.length=l
 | [],_=>rfl
 | b::l,m=>by
  rw [u_,vg,BI]
  have hl:=Cg l
  have e1:m*256 ^ (l.length+1)+(b.toNat*256 ^ l.length+vu l)=(m*256+b.toNat)*256 ^ l.length+vu l:=by
   rw [J_,g9,Nat.mul_assoc,K_ 256];omega
  rw [e1,EK l (m*256+b.toNat)]
  congr 1
  have e2:((m*256+b.toNat)*256 ^ l.length+vu l) / 256 ^ l.length=m*256+b.toNat:=by
   rw [K_,Nat.mul_add_div (Nat.pow_pos (by decide)),Nat.div_eq_of_lt hl,Nat.add_zero]
  rw [e2]
  apply T_.1
  rw [C_]
  have:=b.toNat_lt
  omega
theorem DU (l:List UInt8):vg (vu l) l.length=l:=by
 have:=EK l 0
 rwa [g6,g8] at this
theorem EN (x b:Nat)(hb:b<256)(hx:x<36028797018963968):bor .i64 (shl .i64 (x:Int) 8) (b:Int)=((x*256+b:Nat):Int):=by
 have e1:shl .i64 (x:Int) 8=((x*256:Nat):Int):=by
  show IntKind.i64.wrap ((x:Int)*2 ^ min 8 64)=_
  have:(2:Int) ^ min 8 64=256:=by decide
  rw [this,vo (by omega) (by omega)]
  omega
 rw [e1]
 show IntKind.i64.wrap ((BitVec.ofInt 64 ((x*256:Nat):Int) ||| BitVec.ofInt 64 (b:Int)).toNat:Int)=_
 rw [BitVec.ofInt_natCast,BitVec.ofInt_natCast,BitVec.toNat_or,BitVec.toNat_ofNat,BitVec.toNat_ofNat,L_ (by omega),L_ (by omega)]
 have e2:(x*256) ||| b=x*256+b:=by
  have:=Nat.shiftLeft_add_eq_or_of_lt (b:=b) (i:=8) hb x
  rw [Nat.shiftLeft_eq] at this
  exact this.symm
 rw [e2,vo (by omega) (by omega)]
theorem wU (l:List UInt8)(hl:l.length≤7):kD F (ofL l)=some ((vu l:Nat):Int):=by
 unfold kD
 have bound : ∀ k,vu (l.take k)<256 ^ 7:=fun k=>Nat.lt_of_lt_of_le (Cg _) (v4 (by decide) (by rw [D_];omega))
 refine wQ (fun k=>(((vu (l.take k):Nat):Int),(k:Int))) l.length (by omega) (by simp [vu]) (r:=((vu l:Nat):Int)) rfl (fun k hk=>?_) ?_
 · dsimp only
   have hb:=bound k
   have hb1:=bound (k+1)
   have e1:qc (ofL l) (k:Int)=some l[k]!:=by
    rw [yM,if_pos (by omega),d_,gge hk,getElem!_pos l k hk]
   have e2:l.take (k+1)=l.take k++[l[k]!]:=by
    rw [B_,gge hk,getElem!_pos l k hk];rfl
   have e3:vu (l.take (k+1))=vu (l.take k)*256+(l[k]!).toNat:=by
    rw [e2];unfold vu;rw [z_];rfl
   have hlt:=(l[k]!).toNat_lt
   rw [e3] at hb1 ⊢
   have hp:(256:Nat) ^ 7=72057594037927936:=by decide
   rw [hp] at hb1
   rw [show decide ((k:Int)<((ofL l).size:Int))=true from decide_eq_true (show (k:Int)<(l.length:Int) by omega),vh,e1,uT,vo (by omega) (by omega),vo (by omega) (by omega),EN _ _ hlt (by omega)]
   simp
 · dsimp only
   rw [show decide ((l.length:Int)<((ofL l).size:Int))=false from decide_eq_false (show ¬ (l.length:Int)<(l.length:Int) by omega),j_]
   rfl
theorem FF (n:Nat):shr .i64 (n:Int) 8=((n / 256:Nat):Int):=by
 show Int.fdiv (n:Int) (2 ^ min 8 64)=_
 have:(2:Int) ^ min 8 64=256:=by decide
 rw [this,v5 _ (by decide),Int.natCast_ediv];rfl
theorem Ez (n:Nat):IntKind.u8.wrap (n:Int)=((a_ n).toNat:Int):=by
 rw [Kp,C_];omega
theorem xw (n m:Nat)(hm:m≤100):ko F (n:Int) (m:Int)=some (ofL (vg n m)):=by
 unfold ko
 rw [Kf (by omega) (by omega),uT]
 have hlen:((List.replicate ((m:Int).toNat) (0:Int)).length:Int)=m:=by simp
 refine wQ (fun k=>(List.replicate (m-k) (0:Int)++(vg n k).map (fun b=>(b.toNat:Int)),((n / 256 ^ k:Nat):Int),(k:Int))) m (by omega) (by simp [vg]) (r:=(vg n m).map (fun b=>(b.toNat:Int))) ?_ (fun k hk=>?_) ?_
 · rw [yg]
 · dsimp only
   rw [hlen,show decide ((k:Int)<(m:Int))=true from decide_eq_true (by omega),vh]
   have w1:IntKind.i64.wrap (IntKind.i64.wrap ((m:Int)-1)-k)=((m-k-1:Nat):Int):=by
    rw [vo (n:=(m:Int)-1) (by omega) (by omega),vo (by omega) (by omega)];omega
   have w2:IntKind.i64.wrap ((k:Int)+1)=((k+1:Nat):Int):=by rw [vo (by omega) (by omega)];rfl
   rw [w1,wa,R_ (by simp;omega),List.getElem?_replicate,if_pos (by omega),uT,d_,w2,FF,Ez]
   rw [List.set_append_left _ _ (by simp;omega)]
   congr 1
   congr 1
   congr 1
   · rw [show m-k=(m-k-1)+1 by omega,List.replicate_succ',v6 _ _ (by simp),vg]
     simp [show m-(k+1)=m-k-1 by omega]
   · rw [Nat.div_div_eq_div_mul,J_]
 · dsimp only
   rw [hlen,show decide ((m:Int)<(m:Int))=false from decide_eq_false (by omega),uY,Nat.sub_self]
   rfl
theorem AQ (n:Nat):nD (n:Int)=some (ofL (vg n 2)):=by
 unfold nD
 rw [FF,Ez,Ez]
 have:=yg [a_ (n / 256),a_ n]
 simp only [List.map_cons,List.map_nil] at this
 rw [this]
 simp [vg]
theorem Ey (X:BitVec 16):two X=vg X.toNat 2:=by
 have h:a_ (X.toNat % 256)=a_ X.toNat:=by
  apply T_.1
  rw [C_,C_];omega
 simp [two,vg,h]
theorem Bu (a b:UInt8)(l:List UInt8):lI (ofL (a::b::l))=some ((vu [a,b]:Nat):Int):=by
 have ha:=a.toNat_lt
 have hb:=b.toNat_lt
 unfold lI
 rw [yM,yM]
 simp only [show (0:Int)≤0 from by decide,show (0:Int)≤1 from by decide,if_true,show (0:Int).toNat=0 from rfl,show (1:Int).toNat=1 from rfl,List.getElem?_cons_zero,List.getElem?_cons_succ,uT]
 rw [vo (by omega) (by omega),vo (by omega) (by omega),EN _ _ hb (by omega)]
 simp [vu]
def xg (k:Nat)(B:List UInt8):List UInt8:=a_ k::(vg B.length 2++B)
def xp (k:Nat)(B:List UInt8):List UInt8:=xg k B++two (crc (xg k B))
theorem xh (k:Nat)(B:List UInt8):(xg k B).length=B.length+3:=by
 rw [xg,u_,l_,uV];omega
theorem xO (k:Nat)(B:List UInt8):(xp k B).length=B.length+5:=by
 rw [xp,l_,xh,AG]
theorem yj (k:Nat)(B:List UInt8)(h0:1≤k)(h1:k≤255)(h:B.length≤3000):mD F ⟨k,ofL B⟩=some (ofL (xp k B),0):=by
 unfold mD
 dsimp only
 have e1:lu [IntKind.u8.wrap (k:Int)]=ofL [a_ k]:=by
  rw [Ez]
  exact yg [a_ k]
 have e2:nD ((ofL B).size:Int)=some (ofL (vg B.length 2)):=AQ B.length
 have e3:mv (ofL [a_ k]) (ofL (vg B.length 2))=some (ofL ([a_ k]++vg B.length 2)):=wq (by rw [uV];simp)
 have e4:mv (ofL ([a_ k]++vg B.length 2)) (ofL B)=some (ofL (xg k B)):=by
  rw [wq (by simp [uV];omega)]
  simp [xg]
 have e5:qF F (ofL (xg k B))=some ((crc (xg k B)).toNat:Int):=CP _ (by rw [xh];omega)
 have e6:nD ((crc (xg k B)).toNat:Int)=some (ofL (two (crc (xg k B)))):=by rw [AQ,Ey]
 have e7:mv (ofL (xg k B)) (ofL (two (crc (xg k B))))=some (ofL (xp k B)):=by
  rw [wq (by rw [xh,AG];omega)];rfl
 have b1:(decide ((k:Int)<1)||decide ((255:Int)<(k:Int)))=false:=by simp;omega
 have b2:decide ((3000:Int)<((ofL B).size:Int))=false:=decide_eq_false (show ¬ (3000:Int)<(B.length:Int) by omega)
 rw [b1,uY,b2,uY,e1,e2,uT,e3,uT,e4,uT,e5,uT,e6,uT,e7,uT]
def vW (l:List UInt8):DFrame × Int × Int :=
 if l.length<5 then (⟨0,ofL []⟩,0,7)
 else
  let n:=vu ((l.drop 1).take 2)
  if l.getD 0 0=0∨3000<n then (⟨0,ofL []⟩,0,3)
  else if l.length<n+5 then (⟨0,ofL []⟩,0,7)
  else if vu ((l.drop (n+3)).take 2)≠(crc (l.take (n+3))).toNat then (⟨0,ofL []⟩,0,6)
  else (⟨((l.getD 0 0).toNat:Int),ofL ((l.take (n+3)).drop 3)⟩,((n+5:Nat):Int),0)
theorem DI (l:List UInt8)(h:2≤l.length):lI (ofL l)=some ((vu (l.take 2):Nat):Int):=by
 match l,h with
 | a::b::l,_=>exact Bu a b l
theorem Jh (l:List UInt8):vu (l.take 2)<65536:=by
 have:=Cg (l.take 2)
 have h2:256 ^ (l.take 2).length≤256 ^ 2:=v4 (by decide) (by rw [D_];omega)
 omega
theorem yT (l:List UInt8)(hl:l.length≤9223372036854775807):mC F (ofL l)=some (vW l):=by
 unfold mC vW
 by_cases h5:l.length<5
 · rw [show decide (((ofL l).size:Int)<5)=true from decide_eq_true (show (l.length:Int)<5 by omega),vh,if_pos h5];rfl
 · rw [show decide (((ofL l).size:Int)<5)=false from decide_eq_false (show ¬ (l.length:Int)<5 by omega),uY,if_neg h5]
   have hs:jN (ofL l) 1 ((ofL l).size:Int)=some (ofL (l.drop 1)):=by
    have:=vY (l:=l) (lo:=1) (hi:=(l.length:Int)) (by decide) (by omega) (by omega)
    rw [d_,j_] at this
    exact this
   have hn:=Jh (l.drop 1)
   rw [hs,uT,DI _ (by rw [M_];omega),uT]
   generalize hN:vu ((l.drop 1).take 2)=n at *
   dsimp only
   have h0:qc (ofL l) 0=some (l.getD 0 0):=by
    rw [yM,if_pos (by decide),N_]
    show l[0]? = _
    rw [gge (by omega)];rfl
   rw [h0,uT]
   have hz:((if l.getD 0 0=0∨3000<n then true else false:Bool))=((((l.getD 0 0).toNat:Int) == 0)||decide ((3000:Int)<(n:Int))):=by
    have e1:(((l.getD 0 0).toNat:Int) == 0)=decide (l.getD 0 0=0):=by
     rw [Y_,beq_iff_eq,decide_eq_true_iff,← T_]
     exact Int.natCast_eq_zero
    have e2:decide ((3000:Int)<(n:Int))=decide (3000<n):=by rw [decide_eq_decide];omega
    rw [e1,e2,← Bool.decide_or]
    by_cases hP:l.getD 0 0=0∨3000<n
    · rw [if_pos hP,decide_eq_true hP]
    · rw [if_neg hP,decide_eq_false hP]
   have hc:(bif (((l.getD 0 0).toNat:Int) == 0) then some true else some (decide ((3000:Int)<(n:Int))))=some (if l.getD 0 0=0∨3000<n then true else false):=by
    rw [hz]
    cases (((l.getD 0 0).toNat:Int) == 0) <;> rfl
   rw [hc,uT]
   by_cases hb:l.getD 0 0=0∨3000<n
   · rw [if_pos hb,if_pos hb,vh];rfl
   · rw [if_neg hb,if_neg hb,uY]
     have w5:IntKind.i64.wrap ((n:Int)+5)=((n+5:Nat):Int):=by rw [vo (by omega) (by omega)];rfl
     have w3:IntKind.i64.wrap ((n:Int)+3)=((n+3:Nat):Int):=by rw [vo (by omega) (by omega)];rfl
     rw [w5,w3]
     by_cases hs5:l.length<n+5
     · rw [show decide (((ofL l).size:Int)<((n+5:Nat):Int))=true from decide_eq_true (show (l.length:Int)<((n+5:Nat):Int) by omega),vh,if_pos hs5];rfl
     · rw [show decide (((ofL l).size:Int)<((n+5:Nat):Int))=false from decide_eq_false (show ¬ (l.length:Int)<((n+5:Nat):Int) by omega),uY,if_neg hs5]
       have s2:jN (ofL l) ((n+3:Nat):Int) ((ofL l).size:Int)=some (ofL (l.drop (n+3))):=by
        have:=vY (l:=l) (lo:=((n+3:Nat):Int)) (hi:=(l.length:Int)) (by omega) (by omega) (by omega)
        rw [d_,d_,j_] at this
        exact this
       have s3:jN (ofL l) 0 ((n+3:Nat):Int)=some (ofL (l.take (n+3))):=by
        have:=vY (l:=l) (lo:=0) (hi:=((n+3:Nat):Int)) (by decide) (by omega) (by omega)
        rw [d_] at this
        exact this
       have s4:jN (ofL l) 3 ((n+3:Nat):Int)=some (ofL ((l.take (n+3)).drop 3)):=by
        have:=vY (l:=l) (lo:=3) (hi:=((n+3:Nat):Int)) (by decide) (by omega) (by omega)
        rw [d_] at this
        exact this
       rw [s2,uT,DI _ (by rw [M_];omega),uT,s3,uT,CP _ (by rw [D_];omega),uT]
       by_cases hv:vu ((l.drop (n+3)).take 2)≠(crc (l.take (n+3))).toNat
       · have : (((vu ((l.drop (n + 3)).take 2) : Nat) : Int) != ((crc (l.take (n + 3))).toNat : Int)) = true := by
          rw [bne_iff_ne];omega
         rw [this,vh,if_pos hv];rfl
       · have : (((vu ((l.drop (n + 3)).take 2) : Nat) : Int) != ((crc (l.take (n + 3))).toNat : Int)) = false := by
          rw [bne_eq_false_iff_eq];omega
         have hlt:=(l.getD 0 0).toNat_lt
         rw [this,uY,if_neg hv,uT,s4,uT,vo (by omega) (by omega)]
theorem JU (X:BitVec 16):vu (two X)=X.toNat:=by
 have:=X.isLt
 rw [Ey,wA];exact L_ this
theorem Hs (k:Nat)(B more:List UInt8):(xp k B++more).take (B.length+3)=xg k B:=by
 rw [xp,t_]
 exact l7 (xh k B)
theorem Ho (k:Nat)(B more:List UInt8):(xp k B++more).drop (B.length+3)=two (crc (xg k B))++more:=by
 rw [xp,t_]
 exact List.drop_left' (xh k B)
theorem Hq (k:Nat)(B more:List UInt8):((xp k B++more).drop 1).take 2=vg B.length 2:=by
 simp only [xp,xg,O_,t_,List.drop_succ_cons,List.drop_zero]
 exact l7 (uV _ _)
theorem I7 {B:List UInt8}(h:B.length≤3000):vu (vg B.length 2)=B.length:=by
 rw [wA];exact L_ (by omega)
theorem Fg {k:Nat}(h1:k≤255):(a_ k).toNat=k:=by
 rw [C_];exact L_ (by omega)
theorem JA {k:Nat}(h0:1≤k)(h1:k≤255):a_ k≠0:=by
 intro h
 have:=congrArg UInt8.toNat h
 rw [Fg h1] at this
 have h3:(0:UInt8).toNat=0:=rfl
 omega
theorem J9 (k:Nat)(B more:List UInt8):(xp k B++more).getD 0 0=a_ k:=rfl
theorem F3 (k:Nat)(B:List UInt8):(xg k B).drop 3=B:=by
 simp [xg,vg]
theorem Br (k:Nat)(B more:List UInt8)(h0:1≤k)(h1:k≤255)(h:B.length≤3000):vW (xp k B++more)=(⟨(k:Int),ofL B⟩,((B.length+5:Nat):Int),0):=by
 unfold vW
 have hl:(xp k B++more).length=B.length+5+more.length:=by rw [l_,xO]
 rw [if_neg (by omega),Hq,I7 h]
 dsimp only
 rw [J9,if_neg (by rintro (h' | h');exact JA h0 h1 h';omega),if_neg (by omega),Ho,Hs,l7 (AG _),JU,if_neg (by simp),F3,Fg h1]
theorem Dr {l:List UInt8}(h:(vW l).2.2=0):∃(k:Nat) (B:List UInt8),1≤k∧k≤255∧B.length≤3000∧B.length+5≤l.length∧vW l=(⟨(k:Int),ofL B⟩,((B.length+5:Nat):Int),0)∧xp k B=l.take (B.length+5):=by
 unfold vW at h ⊢
 by_cases h5:l.length<5
 · rw [if_pos h5] at h;cases h
 rw [if_neg h5] at h ⊢
 dsimp only at h ⊢
 generalize hn:vu ((l.drop 1).take 2)=n at h ⊢
 by_cases hb:l.getD 0 0=0∨3000<n
 · rw [if_pos hb] at h;cases h
 rw [if_neg hb] at h ⊢
 by_cases hs:l.length<n+5
 · rw [if_pos hs] at h;cases h
 rw [if_neg hs] at h ⊢
 by_cases hv:vu ((l.drop (n+3)).take 2)≠(crc (l.take (n+3))).toNat
 · rw [if_pos hv] at h;cases h
 rw [if_neg hv]
 have hv' : vu ((l.drop (n+3)).take 2)=(crc (l.take (n+3))).toNat:=Decidable.not_not.1 hv
 have hB:((l.take (n+3)).drop 3).length=n:=by rw [M_,D_];omega
 have h0:(l.getD 0 0).toNat≠0:=fun e=>hb (.inl (T_.1 e))
 have hlt:=(l.getD 0 0).toNat_lt
 refine⟨(l.getD 0 0).toNat,(l.take (n+3)).drop 3,by omega,by omega,by rw [hB];omega,by rw [hB];omega,by rw [hB],?_⟩
 have hhead:xg (l.getD 0 0).toNat ((l.take (n+3)).drop 3)=l.take (n+3):=by
  rw [xg,hB]
  have e1:vg n 2=(l.drop 1).take 2:=by
   have:=DU ((l.drop 1).take 2)
   rw [hn,show ((l.drop 1).take 2).length=2 by rw [D_,M_];omega] at this
   exact this
  have e2:a_ (l.getD 0 0).toNat=l.getD 0 0:=by simp
  rw [e1,e2]
  have three : ∀ l:List UInt8,3≤l.length→l.getD 0 0::((l.drop 1).take 2++(l.take (n+3)).drop 3)=l.take (n+3):=fun l hl=>by
   match l,hl with
   | a::b::c::l,_=>simp [l9]
   | [a,b],h=>simp at h
   | [a],h=>simp at h
   | [],h=>simp at h
  exact three l (by omega)
 rw [xp,hhead,hB,Ey,← hv']
 have e3:=DU ((l.drop (n+3)).take 2)
 rw [show ((l.drop (n+3)).take 2).length=2 by rw [D_,M_];omega] at e3
 rw [e3,show n+5=(n+3)+2 by omega]
 exact List.take_add.symm
end
section
variable {F:Nat} [Big F]
theorem J5 {α:Type}[DecidableEq α](test:α→α→Bool)(ht : ∀ x y,test x y=true↔x=y)(p q:List α)(hp:p.length≤9223372036854775807) :
 (bif ((p.length:Int) != (q.length:Int)) then
  some false
 else
  (iter (σ:=Int) (ρ:=(Unit) ⊕ Bool) (fun x1 =>
   bif decide (x1<(p.length:Int)) then
    (idx p x1).bind fun e1 =>
    (idx q x1).bind fun e2 =>
    bif (!(test e1 e2)) then
     some (.inr (.inr false))
    else
     some (.inl (IntKind.i64.wrap (x1+1)))
    else
     some (.inr (.inl ()))) F 0).bind fun z=>match z with
  | .inl _ =>
   some true
  | .inr q=>some q)=some (decide (p=q)):=by
 by_cases hl:p.length=q.length
 · rw [show ((p.length:Int) != (q.length:Int))=false by rw [bne_eq_false_iff_eq];omega,cond_false]
   obtain⟨W,hW⟩ : ∃ W:Nat→α→Option (Unit ⊕ Bool),∀ k e,W k e=if q[k]? = some e then none else some (Sum.inr false):=⟨_,fun _ _=>rfl⟩
   rw [w8 p W (Sum.inl ()) hp rfl (fun k e hk _=>?_) (by simp)]
   · by_cases he:p=q
     · subst he
       rw [xx.2 fun k e hk=>by rw [hW,if_pos hk],decide_eq_true rfl];rfl
     · rw [decide_eq_false he]
       cases hf:p.zipIdx.findSome? fun a=>W a.2 a.1 with
       | some r =>
        obtain⟨k,e,_,hr⟩:=yH hf
        rw [hW] at hr
        split at hr
        · cases hr
        · obtain rfl:=q_.inj hr;rfl
       | none =>
        exfalso
        apply he
        rw [xx] at hf
        apply List.ext_getElem?
        intro k
        cases hk:p[k]? with
        | none=>rw [List.getElem?_eq_none_iff] at hk;rw [S_ (by omega)]
        | some e =>
         have:=hf k e hk
         rw [hW] at this
         split at this
         · rename_i h;exact h.symm
         · cases this
   · have hkl:=(ggs.1 hk).1
     have hq:q[k]? = some (q[k]'(by omega)):=gge (by omega)
     rw [decide_eq_true (by omega),cond_true,uX,uX,hk,hq,obs,obs,w64 (by omega) (by omega),hW]
     by_cases he:q[k]'(by omega)=e
     · rw [if_pos (by rw [hq,he]),(ht _ _).2 he.symm];rfl
     · have hf : test e (q[k]'(by omega)) = false := by
        cases hx:test e (q[k]'(by omega))
        · rfl
        · exact absurd ((ht _ _).1 hx).symm he
       rw [if_neg (by rw [hq];simpa using he),hf];rfl
 · rw [show ((p.length:Int) != (q.length:Int))=true by rw [bne_iff_ne];omega,cond_true,decide_eq_false (fun e=>hl (by rw [e]))]
theorem Il (p q:List DElem)(hp:p.length≤9223372036854775807):kz F p q=some (decide (p=q)):=J5 (fun x y=>x == y) (fun x y=>by simp) p q hp
end
section
open Go.ChangeShapes
variable {F:Nat} [Big F]
def okW (n:Nat)(w:DWrite):Prop:=0≤w.page∧w.page<n∧w.text.size≤3500
structure GoodD (d:DDisk):Prop where
 np:d.pages.length≤201
 nw:d.writes.length≤400
 pages : ∀ s∈d.pages,s.size≤3500
 writes : ∀ w∈d.writes,okW d.pages.length w
def Bf (n:Nat)(i:Int)(s:ByteArray):Int:=if i<0∨n≤i then 1 else if 3500<s.size then 2 else 0
theorem BN (d:DDisk)(i:Int)(s:ByteArray):oy d i s=some (Bf d.pages.length i s):=by
 unfold oy Bf
 by_cases h:i<0∨(d.pages.length:Int)≤i
 · rw [if_pos h,show (decide (i<0)||decide ((d.pages.length:Int)≤i))=true by simpa using h,vh]
 · rw [if_neg h,show (decide (i<0)||decide ((d.pages.length:Int)≤i))=false by simpa using h,uY]
   by_cases h2:3500<s.size
   · rw [if_pos h2,decide_eq_true (by omega),vh]
   · rw [if_neg h2,decide_eq_false (by omega),uY]
theorem Cf {n:Nat}{i:Int}{s:ByteArray}:Bf n i s=0↔0≤i∧i<n∧s.size≤3500:=by
 unfold Bf
 split
 · constructor
   · intro h;cases h
   · omega
 · split
   · constructor
     · intro h;cases h
     · omega
   · constructor
     · intro _;omega
     · intro _;rfl
theorem yy {ρ:Type}{W:Nat→Option ρ}{n:Nat}:(I_ 0 n).findSome? W=none↔∀ k,k<n→W k=none:=by
 rw [t7]
 constructor
 · intro h k hk;exact h k (by simp [m0];omega)
 · intro h k hk
   simp [m0] at hk
   exact h k (by omega)
theorem yS {ρ:Type}{W:Nat→Option ρ}{n:Nat}{r:ρ}(h:(I_ 0 n).findSome? W=some r):∃ k,k<n∧W k=some r:=by
 obtain⟨k,hk,hr⟩:=t9 h
 simp [m0] at hk
 exact⟨k,by omega,hr⟩
theorem wL (d:DDisk):∃ c:Int,kR F d=some c∧(c=0↔GoodD d):=by
 unfold kR
 by_cases h:201<d.pages.length∨400<d.writes.length
 · refine⟨2,?_,?_⟩
   · rw [show (decide ((201:Int)<(d.pages.length:Int))||decide ((400:Int)<(d.writes.length:Int)))=true by simp;omega,vh]
   · constructor
     · intro h;cases h
     · intro g;have:=g.np;have:=g.nw;omega
 · rw [show (decide ((201:Int)<(d.pages.length:Int))||decide ((400:Int)<(d.writes.length:Int)))=false by simp;omega,uY]
   have key:=zO (ρ:=Unit ⊕ Int) (f:=fun x1:Int =>
    bif decide (x1<(d.pages.length:Int)) then
     (idx d.pages x1).bind fun e1 =>
     bif decide ((3500:Int)<(e1.size:Int)) then
      some (.inr (.inr 2))
     else
      some (.inl (IntKind.i64.wrap (x1+1)))
     else
      some (.inr (.inl ()))) (fun k=>(k:Int)) (fun k=>match d.pages[k]? with | some s=>if 3500<s.size then some (.inr 2) else none | none=>none) d.pages.length (res:=.inl ()) (fun k hk=>by
    rw [decide_eq_true (show (k:Int)<(d.pages.length:Int) by omega),vh,wa,gge hk,uT]
    dsimp only
    by_cases hs:3500<(d.pages[k]).size
    · rw [if_pos hs,decide_eq_true (by omega),vh]
    · rw [if_neg hs,decide_eq_false (by omega),uY,vo (by omega) (by omega)];rfl) (by
    rw [decide_eq_false (by omega)];rfl) d.pages.length 0 F (by omega) (yB (by omega))
   rw [show iter _ F (0:Int)=_ from key,uT]
   cases hf:(I_ 0 d.pages.length).findSome? (fun k=>match d.pages[k]? with | some s=>if 3500<s.size then some (.inr 2:Unit ⊕ Int) else none | none=>none) with
   | some r =>
    obtain⟨k,hk,hr⟩:=yS hf
    rw [gge hk] at hr
    dsimp only at hr
    split at hr
    · rename_i hbig
      obtain rfl:=q_.inj hr
      refine⟨2,rfl,?_⟩
      constructor
      · intro h;cases h
      · intro g;have:=g.pages _ (i_ hk);omega
    · cases hr
   | none =>
    rw [yy] at hf
    have hp : ∀ s∈d.pages,s.size≤3500:=fun s hs=>by
     obtain⟨k,hk,rfl⟩:=m4 hs
     have:=hf k hk
     rw [gge hk] at this
     dsimp only at this
     split at this
     · cases this
     · omega
    rw [m9]
    dsimp only
    have key2:=zO (ρ:=Unit ⊕ Int) (f:=fun x2:Int =>
     bif decide (x2<(d.writes.length:Int)) then
      (idx d.writes x2).bind fun e2 =>
      (oy d e2.page e2.text).bind fun r1 =>
      bif (r1 != 0) then
       some (.inr (.inr r1))
      else
       some (.inl (IntKind.i64.wrap (x2+1)))
      else
       some (.inr (.inl ()))) (fun k=>(k:Int)) (fun k=>match d.writes[k]? with | some w=>if Bf d.pages.length w.page w.text≠0 then some (.inr (Bf d.pages.length w.page w.text)) else none | none=>none) d.writes.length (res:=.inl ()) (fun k hk=>by
     rw [decide_eq_true (show (k:Int)<(d.writes.length:Int) by omega),vh,wa,gge hk,uT,BN,uT]
     dsimp only
     by_cases hs:Bf d.pages.length (d.writes[k]).page (d.writes[k]).text≠0
     · rw [if_pos hs,show (Bf d.pages.length (d.writes[k]).page (d.writes[k]).text != 0)=true by simpa using hs,vh]
     · rw [if_neg hs,show (Bf d.pages.length (d.writes[k]).page (d.writes[k]).text != 0)=false by simpa using hs,uY,vo (by omega) (by omega)];rfl) (by
     rw [decide_eq_false (by omega)];rfl) d.writes.length 0 F (by omega) (yB (by omega))
    rw [show iter _ F (0:Int)=_ from key2,uT]
    cases hf2:(I_ 0 d.writes.length).findSome? (fun k=>match d.writes[k]? with | some w=>if Bf d.pages.length w.page w.text≠0 then some (.inr (Bf d.pages.length w.page w.text):Unit ⊕ Int) else none | none=>none) with
    | some r =>
     obtain⟨k,hk,hr⟩:=yS hf2
     rw [gge hk] at hr
     dsimp only at hr
     split at hr
     · rename_i hbad
       obtain rfl:=q_.inj hr
       refine⟨Bf d.pages.length (d.writes[k]).page (d.writes[k]).text,rfl,?_⟩
       constructor
       · intro h;exact absurd h hbad
       · intro g;exact Cf.2 (g.writes _ (i_ hk))
     · cases hr
    | none =>
     rw [yy] at hf2
     refine⟨0,rfl,?_⟩
     constructor
     · intro _
       refine⟨by omega,by omega,hp,fun w hw=>?_⟩
       obtain⟨k,hk,rfl⟩:=m4 hw
       have:=hf2 k hk
       rw [gge hk] at this
       dsimp only at this
       split at this
       · cases this
       · rename_i h0
         exact Cf.1 (Decidable.not_not.1 h0)
     · intro _;rfl
def vZ:List DWrite→Int→Option ByteArray
 | [],_=>none
 | w::ws,i=>match vZ ws i with
  | some t=>some t
  | none=>if w.page=i then some w.text else none
theorem AV (w:DWrite)(i:Int):∀ ws:List DWrite,vZ (ws++[w]) i=if w.page=i then some w.text else vZ ws i
 | []=>by simp [vZ]
 | v::ws=>by
  rw [O_,vZ,AV w i ws]
  by_cases h:w.page=i
  · simp [h]
  · simp [h,vZ]
def vG (d:DDisk)(i:Nat):ByteArray:=(vZ d.writes i).getD (d.pages.getD i (ofL []))
theorem yR (d:DDisk)(i:Nat)(hi:i<d.pages.length)(hn:d.writes.length≤1000000):mz F d (i:Int)=some (vG d i):=by
 unfold mz
 have key : ∀(m N:Nat),m≤d.writes.length→m<N→iter (σ:=Int) (ρ:=Unit ⊕ ByteArray) (fun x1 =>
  bif decide ((0:Int)≤x1) then
   (idx d.writes x1).bind fun e1 =>
   bif (e1.page == (i:Int)) then
    (idx d.writes x1).bind fun e2 =>
    some (.inr (.inr e2.text))
   else
    some (.inl (IntKind.i64.wrap (x1-1)))
   else
    some (.inr (.inl ()))) N ((m:Int)-1)=some (match vZ (d.writes.take m) i with | some t=>.inr t | none=>.inl ()):=by
  intro m
  induction m with
  | zero =>
   intro N _ hN
   obtain⟨N,rfl⟩ : ∃ M,N=M+1:=⟨N-1,by omega⟩
   rw [iter,decide_eq_false (by omega)];rfl
  | succ m ih =>
   intro N hm hN
   obtain⟨N,rfl⟩ : ∃ M,N=M+1:=⟨N-1,by omega⟩
   have e0:(((m+1:Nat):Int)-1)=(m:Int):=by omega
   rw [iter,e0,decide_eq_true (show (0:Int)≤(m:Int) by omega),vh,wa,gge (show m<d.writes.length by omega),uT,uT]
   have e2:d.writes.take (m+1)=d.writes.take m++[d.writes[m]]:=by
    rw [B_,gge (show m<d.writes.length by omega)];rfl
   rw [e2,AV]
   by_cases h:(d.writes[m]).page=(i:Int)
   · rw [show ((d.writes[m]).page == (i:Int))=true by simpa using h,vh,if_pos h]
   · rw [show ((d.writes[m]).page == (i:Int))=false by simpa using h,uY,if_neg h]
     dsimp only
     rw [vo (by omega) (by omega)]
     exact ih N (by omega) (by omega)
 rw [vo (by omega) (by omega),key d.writes.length F (v_ _) (yB (by omega)),uT,j_]
 unfold vG
 cases vZ d.writes i with
 | some t=>rfl
 | none =>
  dsimp only
  rw [wa,gge hi,uT,m9,N_,gge hi];rfl
theorem xi {α:Type}{b:Nat}{l m:List α}(h:(l.length+m.length)*b≤140737488355328)(hm:l.length+m.length≤9223372036854775807):jT b l m=some (l++m):=by
 unfold jT;rw [if_pos ⟨h,by unfold maxLen;omega⟩]
def Ag (d:DDisk)(i:Int)(s:ByteArray):Prop:=GoodD d∧0≤i∧i<d.pages.length∧s.size≤3500∧d.writes.length<400
theorem EZ (d:DDisk)(i:Int)(s:ByteArray):(Ag d i s∧m7 F d i s=some (⟨d.pages,d.writes++[⟨i,s⟩]⟩,0))∨(¬ Ag d i s∧∃ c:Int,c≠0∧m7 F d i s=some (⟨[],[]⟩,c)):=by
 unfold m7
 obtain⟨c,hc,hg⟩:=wL (F:=F) d
 rw [hc,uT]
 by_cases h0:c=0
 · subst h0
   have g:=hg.1 rfl
   have gp:=g.np
   have gw:=g.nw
   rw [show ((0:Int) != 0)=false by decide,uY,BN,uT]
   by_cases h1:Bf d.pages.length i s=0
   · have h1':=Cf.1 h1
     rw [h1,show ((0:Int) != 0)=false by decide,uY]
     by_cases h2:d.writes.length=400
     · right
       refine⟨fun h=>by have:=h.2.2.2.2;omega,8,by decide,?_⟩
       rw [show ((d.writes.length:Int) == 400)=true by rw [beq_iff_eq];omega,vh]
     · left
       refine⟨⟨g,h1'.1,h1'.2.1,h1'.2.2,by omega⟩,?_⟩
       rw [show ((d.writes.length:Int) == 400)=false by rw [beq_eq_false_iff_ne];omega,uY,xi (by simp;omega) (by simp;omega),uT,xi (by simp;omega) (by simp;omega),uT,uT,xi (by simp;omega) (by simp;omega),uT]
       simp
   · right
     refine⟨fun h=>h1 (Cf.2 ⟨h.2.1,h.2.2.1,h.2.2.2.1⟩),_,h1,?_⟩
     rw [show (Bf d.pages.length i s != 0)=true by simpa using h1,vh]
 · right
   refine⟨fun h=>h0 (hg.2 h.1),c,h0,?_⟩
   rw [show (c != 0)=true by simpa using h0,vh]
theorem Cv {d:DDisk}{i:Int}{s:ByteArray}(h:Ag d i s):GoodD ⟨d.pages,d.writes++[⟨i,s⟩]⟩:=by
 obtain⟨g,h1,h2,h3,h4⟩:=h
 refine⟨g.np,by simp;omega,g.pages,fun w hw=>?_⟩
 rcases g_.1 hw with hw | hw
 · exact g.writes w hw
 · simp at hw;subst hw;exact⟨h1,h2,h3⟩
def Gv (ps:List ByteArray)(w:DWrite):List ByteArray:=ps.set w.page.toNat w.text
def apply (ws:List DWrite)(ps:List ByteArray):List ByteArray:=ws.foldl Gv ps
theorem vC (ws:List DWrite)(ps:List ByteArray):(apply ws ps).length=ps.length:=by
 unfold apply
 induction ws generalizing ps with
 | nil=>rfl
 | cons w ws ih=>rw [x_,ih];simp [Gv]
theorem Df (ps:List ByteArray)(i:Nat)(hi:i<ps.length):∀(ws:List DWrite) (ps:List ByteArray),i<ps.length→(∀ w∈ws,0≤w.page)→(apply ws ps).getD i (ofL [])=(vZ ws i).getD (ps.getD i (ofL []))
 | [],_,_,_=>rfl
 | w::ws,ps,hi,h=>by
  have hw:=h w (n9)
  show (apply ws (Gv ps w)).getD i _=_
  rw [Df ps i hi ws (Gv ps w) (by simp [Gv];exact hi) (fun v hv=>h v (G_ _ hv)),vZ]
  cases vZ ws i with
  | some t=>rfl
  | none =>
   rw [m9,Gv,N_,List.getElem?_set]
   by_cases hq:w.page=(i:Int)
   · rw [if_pos hq,if_pos (by omega),if_pos (by omega)];rfl
   · rw [if_neg hq,if_neg (by omega)];rfl
theorem Jb {d:DDisk}(g:GoodD d):iter (σ:=(List ByteArray) × Int) (ρ:=(List ByteArray)) (fun x=>match x with
 | (x1,x2) =>
  bif decide (x2<(d.writes.length:Int)) then
   (idx d.writes x2).bind fun e1 =>
   (idx x1 e1.page).bind fun e2 =>
   some (.inl ((x1.set e1.page.toNat e1.text),IntKind.i64.wrap (x2+1)))
   else
    some (.inr x1)) F (d.pages,0)=some (apply d.writes d.pages):=by
 have gp:=g.np
 have gw:=g.nw
 have hl : ∀ k,(apply (d.writes.take k) d.pages).length=d.pages.length:=fun k=>vC _ _
 have run:(iter (σ:=(List ByteArray) × Int) (ρ:=(List ByteArray)) (fun x=>match x with
  | (x1,x2) =>
   bif decide (x2<(d.writes.length:Int)) then
    (idx d.writes x2).bind fun e1 =>
    (idx x1 e1.page).bind fun e2 =>
    some (.inl ((x1.set e1.page.toNat e1.text),IntKind.i64.wrap (x2+1)))
    else
     some (.inr x1)) F (d.pages,0)).bind (fun z2=>some z2)=some (apply d.writes d.pages):=by
  refine wQ (fun k=>(apply (d.writes.take k) d.pages,(k:Int))) (r:=apply d.writes d.pages) d.writes.length (by omega) (by simp [apply]) rfl (fun k hk=>?_) ?_
  · dsimp only
    have hw:=g.writes _ (i_ hk)
    have e2:d.writes.take (k+1)=d.writes.take k++[d.writes[k]]:=by
     rw [B_,gge hk];rfl
    have hi:idx (apply (d.writes.take k) d.pages) (d.writes[k]).page=some ((apply (d.writes.take k) d.pages)[(d.writes[k]).page.toNat]'(by rw [hl];have:=hw.1;have:=hw.2.1;omega)):=by
     have:=hw.1
     unfold idx
     rw [if_neg (by omega)]
     exact gge _
    have e3:apply (d.writes.take (k+1)) d.pages=(apply (d.writes.take k) d.pages).set (d.writes[k]).page.toNat (d.writes[k]).text:=by
     rw [e2,apply,z_];rfl
    rw [decide_eq_true (show (k:Int)<(d.writes.length:Int) by omega),vh,wa,gge hk,uT,hi,uT,vo (by omega) (by omega),e3]
    rfl
  · dsimp only
    rw [decide_eq_false (show ¬ (d.writes.length:Int)<(d.writes.length:Int) by omega),j_];rfl
 obtain⟨z,hz,hz2⟩:=Option.bind_eq_some_iff.1 run
 rw [hz];exact hz2
theorem xf {d:DDisk}(g:GoodD d):lO F d=some (⟨apply d.writes d.pages,[]⟩,0):=by
 unfold lO
 obtain⟨c,hc,hg⟩:=wL (F:=F) d
 have h0:=hg.2 g
 subst h0
 have gp:=g.np
 have gw:=g.nw
 rw [hc,uT,show ((0:Int) != 0)=false by decide,uY,xi (by simp;omega) (by simp;omega),uT,o_]
 have hl : ∀ k,(apply (d.writes.take k) d.pages).length=d.pages.length:=fun k=>vC _ _
 have run:(iter (σ:=(List ByteArray) × Int) (ρ:=(List ByteArray)) (fun x=>match x with
  | (x1,x2) =>
   bif decide (x2<(d.writes.length:Int)) then
    (idx d.writes x2).bind fun e1 =>
    (idx x1 e1.page).bind fun e2 =>
    some (.inl ((x1.set e1.page.toNat e1.text),IntKind.i64.wrap (x2+1)))
    else
     some (.inr x1)) F (d.pages,0)).bind (fun z2=>some z2)=some (apply d.writes d.pages):=by
  refine wQ (fun k=>(apply (d.writes.take k) d.pages,(k:Int))) (r:=apply d.writes d.pages) d.writes.length (by omega) (by simp [apply]) rfl (fun k hk=>?_) ?_
  · dsimp only
    have hw:=g.writes _ (i_ hk)
    have e2:d.writes.take (k+1)=d.writes.take k++[d.writes[k]]:=by
     rw [B_,gge hk];rfl
    have hi:idx (apply (d.writes.take k) d.pages) (d.writes[k]).page=some ((apply (d.writes.take k) d.pages)[(d.writes[k]).page.toNat]'(by rw [hl];have:=hw.1;have:=hw.2.1;omega)):=by
     have:=hw.1
     unfold idx
     rw [if_neg (by omega)]
     exact gge _
    have e3:apply (d.writes.take (k+1)) d.pages=(apply (d.writes.take k) d.pages).set (d.writes[k]).page.toNat (d.writes[k]).text:=by
     rw [e2,apply,z_];rfl
    rw [decide_eq_true (show (k:Int)<(d.writes.length:Int) by omega),vh,wa,gge hk,uT,hi,uT,vo (by omega) (by omega),e3]
    rfl
  · dsimp only
    rw [decide_eq_false (show ¬ (d.writes.length:Int)<(d.writes.length:Int) by omega),j_];rfl
 rw [run,uT]
theorem xA {d:DDisk}(g:GoodD d):GoodD ⟨apply d.writes d.pages,[]⟩:=by
 refine⟨by rw [vC];exact g.np,by simp,?_,by simp⟩
 have key : ∀(ws:List DWrite) (ps:List ByteArray),(∀ w∈ws,w.text.size≤3500)→(∀ s∈ps,s.size≤3500)→∀ s∈apply ws ps,s.size≤3500:=by
  intro ws
  induction ws with
  | nil=>intro ps _ h;exact h
  | cons w ws ih =>
   intro ps hw h
   refine ih (Gv ps w) (fun v hv=>hw v (G_ _ hv)) (fun s hs=>?_)
   rcases List.mem_or_eq_of_mem_set hs with h1 | h1
   · exact h s h1
   · rw [h1];exact hw w (n9)
 exact key _ _ (fun w hw=>(g.writes w hw).2.2) g.pages
def vT:List DWrite→List Bool→List DWrite
 | [],_=>[]
 | w::ws,[]=>[]
 | w::ws,b::bs=>if b then w::vT ws bs else vT ws bs
theorem Gb (ws:List DWrite):∀(bs:List Bool) (k:Nat) (hk:k<ws.length),vT (ws.take (k+1)) bs=vT (ws.take k) bs++(if bs.getD k false then [ws[k]] else []):=by
 induction ws with
 | nil=>intro bs k hk;simp at hk
 | cons w ws ih =>
  intro bs k hk
  cases bs with
  | nil=>cases k <;> simp [vT]
  | cons b bs =>
   cases k with
   | zero=>simp [vT]
   | succ k =>
    have hk' : k<ws.length:=by simpa using hk
    rw [l9,l9,vT,vT,ih bs k hk']
    cases b <;> simp
theorem DA (ws:List DWrite)(bs:List Bool):∀ w∈vT ws bs,w∈ws:=by
 induction ws generalizing bs with
 | nil=>intro w hw;simp [vT] at hw
 | cons v ws ih =>
  intro w hw
  cases bs with
  | nil=>simp [vT] at hw
  | cons b bs =>
   rw [vT] at hw
   split at hw
   · rcases F_.1 hw with rfl | hw
     · exact n9
     · exact G_ _ (ih bs w hw)
   · exact G_ _ (ih bs w hw)
theorem BX {d:DDisk}(g:GoodD d)(bs:List Bool)(hb:bs.length≤9223372036854775807):nU F d bs=some (⟨apply (vT d.writes bs) d.pages,[]⟩,0):=by
 unfold nU
 obtain⟨c,hc,hg⟩:=wL (F:=F) d
 have h0:=hg.2 g
 subst h0
 have gp:=g.np
 have gw:=g.nw
 rw [hc,uT,show ((0:Int) != 0)=false by decide,uY,xi (by simp;omega) (by simp;omega),uT,o_]
 have hl : ∀ k,(apply (vT (d.writes.take k) bs) d.pages).length=d.pages.length:=fun k=>vC _ _
 have run:(iter (σ:=(List ByteArray) × Int) (ρ:=(List ByteArray)) (fun x=>match x with
  | (x1,x2) =>
   bif decide (x2<(d.writes.length:Int)) then
    (
     (idx d.writes x2).bind fun e1 =>
      (
       (
        bif decide (x2<(bs.length:Int)) then
         (idx bs x2).bind fun e2 =>
         some e2
         else
          some false:Option (Bool)).bind fun z5 =>
        some z5:Option (Bool)).bind fun z4 =>
      bif z4 then
       (idx x1 e1.page).bind fun e3 =>
       some (x1.set e1.page.toNat e1.text)
      else
       some x1:Option ((List ByteArray))).bind fun z3 =>
    some (.inl (z3,IntKind.i64.wrap (x2+1)))
    else
     some (.inr x1)) F (d.pages,0)).bind (fun z2=>some z2)=some (apply (vT d.writes bs) d.pages):=by
  refine wQ (fun k=>(apply (vT (d.writes.take k) bs) d.pages,(k:Int))) (r:=apply (vT d.writes bs) d.pages) d.writes.length (by omega) (by simp [apply,vT]) rfl (fun k hk=>?_) ?_
  · dsimp only
    have hw:=g.writes _ (i_ hk)
    have hi:idx (apply (vT (d.writes.take k) bs) d.pages) (d.writes[k]).page=some ((apply (vT (d.writes.take k) bs) d.pages)[(d.writes[k]).page.toNat]'(by rw [hl];have:=hw.1;have:=hw.2.1;omega)):=by
     have:=hw.1
     unfold idx
     rw [if_neg (by omega)]
     exact gge _
    have hbit:(bif decide ((k:Int)<(bs.length:Int)) then (idx bs (k:Int)).bind (fun e2=>some e2) else some false)=some (bs.getD k false):=by
     by_cases hkb:k<bs.length
     · rw [decide_eq_true (by omega),vh,wa,gge hkb,uT,N_,gge hkb];rfl
     · rw [decide_eq_false (by omega),uY,N_,S_ (by omega)];rfl
    rw [decide_eq_true (show (k:Int)<(d.writes.length:Int) by omega),vh,wa,gge hk,uT,hbit,uT,uT,vo (by omega) (by omega),Gb d.writes bs k hk]
    cases hbk:bs.getD k false with
    | true =>
     rw [vh,hi,uT,uT,if_pos rfl]
     have e3:apply (vT (d.writes.take k) bs++[d.writes[k]]) d.pages=(apply (vT (d.writes.take k) bs) d.pages).set (d.writes[k]).page.toNat (d.writes[k]).text:=by
      rw [apply,z_];rfl
     rw [e3];rfl
    | false =>
     rw [uY,uT,if_neg (by decide),f_];rfl
  · dsimp only
    rw [decide_eq_false (show ¬ (d.writes.length:Int)<(d.writes.length:Int) by omega),j_];rfl
 rw [run,uT]
end
section
def ord (a b:Int):Int:=if a<b then -1 else if b<a then 1 else 0
theorem AS (a b:Int):lQ a b=some (ord a b):=by
 unfold lQ ord
 simp only [P_,decide_eq_true_eq]
 split
 · rfl
 · split <;> rfl
structure Cmp {α:Type} (f:α→α→Int):Prop where
 one : ∀ a b,f a b = -1∨f a b=0∨f a b=1
 neg : ∀ a b,f a b = - f b a
 zero : ∀ a b,f a b=0↔a=b
 trans : ∀ a b c,f a b≤0→f b c≤0→f a c≤0
theorem B9:Cmp ord:=by
 refine⟨fun a b=>?_,fun a b=>?_,fun a b=>?_,fun a b c=>?_⟩ <;> unfold ord <;> (repeat' split) <;> omega
def lex {α β γ:Type}(p:γ→α)(q:γ→β)(f:α→α→Int)(g:β→β→Int)(x y:γ):Int:=if f (p x) (p y)≠0 then f (p x) (p y) else g (q x) (q y)
theorem Cmp.lexic {α β γ:Type}{p:γ→α}{q:γ→β}{f:α→α→Int}{g:β→β→Int}(hf:Cmp f)(hg:Cmp g)(hpq : ∀ x y,p x=p y→q x=q y→x=y):Cmp (lex p q f g):=by
 have le : ∀ x y,lex p q f g x y≤0↔(f (p x) (p y)<0∨f (p x) (p y)=0∧g (q x) (q y)≤0):=fun x y=>by
  unfold lex
  split <;> omega
 refine⟨fun a b=>?_,fun a b=>?_,fun a b=>?_,fun a b c h1 h2=>?_⟩
 · unfold lex
   split
   · exact hf.one _ _
   · exact hg.one _ _
 · have h1:=hf.neg (p a) (p b)
   have h2:=hg.neg (q a) (q b)
   unfold lex
   split <;> split <;> omega
 · unfold lex
   split
   · rename_i h
     refine⟨fun h'=>absurd h' h,fun h'=>?_⟩
     subst h'
     exact absurd ((hf.zero _ _).2 rfl) h
   · rename_i h
     have h0:p a=p b:=(hf.zero _ _).1 (by omega)
     rw [hg.zero]
     exact⟨hpq a b h0,fun h'=>by rw [h']⟩
 · rw [le] at h1 h2 ⊢
   have ht:=hf.trans (p a) (p b) (p c) (by omega) (by omega)
   rcases o5 ht with h | h
   · exact .inl h
   · right
     refine⟨h,?_⟩
     have hac:=(hf.zero _ _).1 h
     have h3:=hf.neg (p a) (p b)
     rw [hac] at h1 h3
     have h4:f (p c) (p b)=0:=by omega
     have h5:f (p b) (p c)=0:=by omega
     exact hg.trans _ (q b) _ (by omega) (by omega)
def cmpK:DKey→DKey→Int:=lex DKey.pfs (fun k=>k) ord (lex DKey.obj DKey.off ord ord)
theorem Ii (a b:DKey):cmpK a b=if ord a.pfs b.pfs≠0 then ord a.pfs b.pfs else if ord a.obj b.obj≠0 then ord a.obj b.obj else ord a.off b.off:=rfl
theorem vk:Cmp cmpK:=by
 have h:Cmp (lex Prod.fst Prod.snd ord (lex Prod.fst Prod.snd ord ord):Int × Int × Int→Int × Int × Int→Int) :=
  B9.lexic (B9.lexic B9 fun x y h1 h2=>Prod.ext h1 h2) fun x y h1 h2=>Prod.ext h1 h2
 have e : ∀ a b:DKey,cmpK a b=lex Prod.fst Prod.snd ord (lex Prod.fst Prod.snd ord ord) (a.pfs,a.obj,a.off) (b.pfs,b.obj,b.off):=fun _ _=>rfl
 refine⟨fun a b=>?_,fun a b=>?_,fun a b=>?_,fun a b c=>?_⟩
 · rw [e];exact h.one _ _
 · rw [e,e];exact h.neg _ _
 · rw [e,h.zero]
   obtain⟨a1,a2,a3⟩:=a
   obtain⟨b1,b2,b3⟩:=b
   simp
 · rw [e,e,e];exact h.trans _ _ _
theorem Gc (a b:DKey):qy a b=some (cmpK a b):=by
 unfold qy
 rw [Ii]
 simp only [AS,o6,P_,bne_iff_ne,ne_eq]
 by_cases h1:ord a.pfs b.pfs=0
 · by_cases h2:ord a.obj b.obj=0
   · by_cases h3:ord a.off b.off=0 <;> simp [h1,h2,h3]
   · simp [h1,h2]
 · simp [h1]
def cmpS:DSpot→DSpot→Int:=lex DSpot.key DSpot.made cmpK ord
theorem EU (a b:DSpot):cmpS a b=if cmpK a.key b.key≠0 then cmpK a.key b.key else ord a.made b.made:=rfl
theorem vc:Cmp cmpS:=vk.lexic B9 fun x y h1 h2=>by
 obtain⟨x1,x2⟩:=x
 obtain⟨y1,y2⟩:=y
 simp_all
theorem vx (a b:DSpot):jp a b=some (cmpS a b):=by
 unfold jp
 rw [EU]
 simp only [AS,Gc,o6,P_,bne_iff_ne,ne_eq]
 by_cases h1:cmpK a.key b.key=0 <;> simp [h1]
def zi (e:DElem)(t:Int):Bool:=decide (e.made≤t)&&(e.gone == 0||decide (t<e.gone))
def vQ (e:DElem):Int:=if e.made<e.gone then e.gone else e.made
theorem AO (e:DElem):nC e=some (vQ e):=by
 unfold nC vQ
 simp
def AN (k:DKey):Int:=if k.pfs<0∨15<k.pfs∨k.obj<0∨1048576<k.obj∨k.off<0∨1073741824<k.off then 1 else 0
theorem yU (k:DKey):nF k=some (AN k):=by
 unfold nF AN
 simp only [P_,o7,decide_eq_true_eq]
 split <;> rfl
def vb (e:DElem):Int :=
 if AN e.key≠0 then 1 else if e.made<1∨2147483647<e.made∨e.gone≠0∧(e.gone≤e.made∨2147483647<e.gone) then 9 else if 40<e.val.size then 2 else 0
theorem Ig (k:DKey):AN k=0∨AN k=1:=by unfold AN;split <;> simp
theorem vH (e:DElem):j7 e=some (vb e):=by
 unfold j7 vb
 simp only [yU,o6,P_,o7,Bool.and_eq_true,decide_eq_true_eq,bne_iff_ne,ne_eq]
 rcases Ig e.key with h | h
 · simp only [h,not_true_eq_false,if_false]
   by_cases h1:e.made<1∨2147483647<e.made∨¬e.gone=0∧(e.gone≤e.made∨2147483647<e.gone)
   · rw [if_pos h1,if_pos h1]
   · rw [if_neg h1,if_neg h1]
     by_cases h2:40<e.val.size
     · rw [if_pos h2,if_pos (by omega)]
     · rw [if_neg h2,if_neg (by omega)]
 · simp [h]
theorem wK {e:DElem}(h:vb e=0):AN e.key=0∧1≤e.made∧e.made≤2147483647∧(e.gone=0∨e.made<e.gone∧e.gone≤2147483647)∧e.val.size≤40:=by
 unfold vb at h
 split at h
 · cases h
 · split at h
   · cases h
   · split at h
     · cases h
     · rename_i h1 h2 h3
       refine⟨by simpa using h1,?_⟩
       omega
theorem wrap_i64 {x:Int}(h1 : -9223372036854775808≤x)(h2:x<9223372036854775808):IntKind.i64.wrap x=x:=by
 rw [IntKind.wrap_i64]
 omega
end
section
theorem Ki {a b:Int}:ord a b<0↔a<b:=by unfold ord;(repeat' split) <;> omega
theorem Cmp.refl {α:Type}{f:α→α→Int}(h:Cmp f)(a:α):f a a=0:=(h.zero a a).2 rfl
theorem Cmp.lt_trans {α:Type}{f:α→α→Int}(h:Cmp f){a b c:α}(h1:f a b<0)(h2:f b c<0):f a c<0:=by
 have h3:=h.trans a b c (by omega) (by omega)
 rcases o5 h3 with h4 | h4
 · exact h4
 · have:=(h.zero _ _).1 h4
   subst this
   have:=h.neg a b
   omega
theorem Cmp.lt_le {α:Type}{f:α→α→Int}(h:Cmp f){a b c:α}(h1:f a b<0)(h2:f b c≤0):f a c<0:=by
 rcases o5 h2 with h3 | h3
 · exact h.lt_trans h1 h3
 · have:=(h.zero _ _).1 h3;subst this;exact h1
theorem Cmp.pos {α:Type}{f:α→α→Int}(h:Cmp f){a b:α}:0<f a b↔f b a<0:=by
 have:=h.neg a b;omega
theorem Cmp.tri {α:Type}{f:α→α→Int}(h:Cmp f)(a b:α):f a b<0∨a=b∨f b a<0:=by
 have h1:=h.neg a b
 rcases h.one a b with h2 | h2 | h2
 · left;omega
 · right;left;exact(h.zero _ _).1 h2
 · right;right;omega
def uU (e:DElem):DSpot:=⟨e.key,e.made⟩
theorem xJ {a b:DSpot}:cmpS a b<0↔cmpK a.key b.key<0∨(a.key=b.key∧a.made<b.made):=by
 rw [EU]
 by_cases h:cmpK a.key b.key=0
 · rw [if_neg (by simpa using h),Ki]
   have:=(vk.zero _ _).1 h
   simp [this,vk.refl]
 · rw [if_pos h]
   have:a.key≠b.key:=fun e=>h ((vk.zero _ _).2 e)
   simp [this]
def Bef (p e:DElem):Prop:=cmpS (uU p) (uU e)<0∧(p.key=e.key→p.gone≠0∧p.gone≤e.made)
theorem Bef.key {p e:DElem}(h:Bef p e):cmpK p.key e.key<0∨p.key=e.key∧p.made<e.made∧p.gone≠0∧p.gone≤e.made:=by
 rcases xJ.1 h.1 with h1 | h1
 · exact .inl h1
 · exact .inr ⟨h1.1,h1.2,h.2 h1.1⟩
theorem B8 {p e:DElem}:Bef p e↔cmpK p.key e.key<0∨p.key=e.key∧p.made<e.made∧p.gone≠0∧p.gone≤e.made:=by
 refine⟨Bef.key,fun h=>⟨?_,?_⟩⟩
 · rw [xJ]
   rcases h with h | h
   · exact .inl h
   · exact .inr ⟨h.1,h.2.1⟩
 · intro hk
   rcases h with h | h
   · rw [hk,vk.refl] at h;omega
   · exact h.2.2
theorem Bef.trans {p q e:DElem}(hq:vb q=0)(h1:Bef p q)(h2:Bef q e):Bef p e:=by
 obtain⟨_,_,_,h3,_⟩:=wK hq
 rw [B8] at *
 rcases h1 with h1 | ⟨k1,h1⟩ <;> rcases h2 with h2 | ⟨k2,h2⟩
 · exact .inl (vk.lt_trans h1 h2)
 · rw [← k2];exact .inl h1
 · rw [k1];exact .inl h2
 · refine .inr ⟨k1.trans k2,?_⟩;omega
structure Run (l:List DElem):Prop where
 len:l.length≤400
 ok : ∀ e∈l,vb e=0
 ord:l.Pairwise Bef
theorem Run.nil:Run []:=⟨by simp,by simp,List.Pairwise.nil⟩
theorem Run.sub {l m:List DElem}(h:Run l)(hs:m.Sublist l):Run m :=
 ⟨Nat.le_trans hs.length_le h.len,fun e he=>h.ok e (hs.subset he),h.ord.sublist hs⟩
theorem Bef.irrefl {e:DElem}(h:Bef e e):False:=by
 have:=h.1;rw [vc.refl] at this;omega
theorem Bef.asymm {a b:DElem}(h:Bef a b)(k:Bef b a):False:=by
 have h1:=h.1;have h2:=k.1;have:=vc.neg (uU a) (uU b);omega
def hist (l:List DElem)(k:DKey):List DElem:=l.filter fun e=>e.key == k
theorem we {l:List DElem}{k:DKey}{e:DElem}:e∈hist l k↔e∈l∧e.key=k:=by simp [hist]
theorem Run.hist {l:List DElem}(hl:Run l)(k:DKey):Run (hist l k):=hl.sub U_
def lo (l:List DElem)(k:DKey):List DElem:=l.filter fun e=>decide (cmpK e.key k<0)
def hi (l:List DElem)(k:DKey):List DElem:=l.filter fun e=>decide (0<cmpK e.key k)
theorem Gj {l:List DElem}{k:DKey}{e:DElem}:e∈lo l k↔e∈l∧cmpK e.key k<0:=by simp [lo]
theorem Eb {l:List DElem}{k:DKey}{e:DElem}:e∈hi l k↔e∈l∧0<cmpK e.key k:=by simp [hi]
theorem Bef.le {a b:DElem}(h:Bef a b):cmpK a.key b.key≤0:=by
 rcases h.key with h | h
 · omega
 · rw [h.1,vk.refl];omega
theorem zI : ∀ {l:List DElem} (k:DKey),l.Pairwise Bef→l=lo l k++(hist l k++hi l k)
 | [],k,_=>rfl
 | a::l,k,h=>by
  rw [o8] at h
  have ih:=zI k h.2
  have low:0≤cmpK a.key k→lo l k=[]:=fun h0=>by
   unfold lo
   rw [v7]
   intro e he
   have h1:=(h.1 e he).le
   have h2:=vk.trans k a.key e.key (by have:=vk.neg k a.key;omega) h1
   have:=vk.neg k e.key
   simp;omega
  have mid:0<cmpK a.key k→hist l k=[]:=fun h0=>by
   unfold hist
   rw [v7]
   intro e he
   have h1:=(h.1 e he).le
   have h2:=vk.lt_le (a:=k) (b:=a.key) (c:=e.key) (by have:=vk.neg k a.key;omega) h1
   simp
   intro e'
   rw [e',vk.refl] at h2
   omega
  rcases vk.tri a.key k with h1 | h1 | h1
  · have e1:lo (a::l) k=a::lo l k:=by unfold lo;rw [p6 (by simpa using h1)]
    have e2:hist (a::l) k=hist l k:=by
     unfold hist;rw [E_];simp
     intro e;rw [e,vk.refl] at h1;omega
    have e3:hi (a::l) k=hi l k:=by unfold hi;rw [E_];simp;omega
    rw [e1,e2,e3,O_,← ih]
  · have e0:cmpK a.key k=0:=by rw [h1,vk.refl]
    have e1:lo (a::l) k=[]:=by
     have:=low (by omega);unfold lo at *;rw [E_ (by simp;omega)];exact this
    have e2:hist (a::l) k=a::hist l k:=by unfold hist;rw [p6 (by simpa using h1)]
    have e3:hi (a::l) k=hi l k:=by unfold hi;rw [E_];simp;omega
    rw [e1,e2,e3]
    rw [low (by omega),o_] at ih
    rw [o_,O_,← ih]
  · have e0:0<cmpK a.key k:=vk.pos.2 h1
    have e1:lo (a::l) k=[]:=by
     have:=low (by omega);unfold lo at *;rw [E_ (by simp;omega)];exact this
    have e2:hist (a::l) k=[]:=by
     have:=mid e0;unfold hist at *;rw [E_];exact this
     simp;intro e;rw [e,vk.refl] at h1;omega
    have e3:hi (a::l) k=a::hi l k:=by unfold hi;rw [p6 (by simpa using e0)]
    rw [e1,e2,e3]
    rw [low (by omega),mid e0,o_,o_] at ih
    rw [o_,o_,← ih]
def upd (l:List DElem)(k:DKey)(h:List DElem):List DElem:=lo l k++(h++hi l k)
theorem CT {l:List DElem}{k:DKey}{h:List DElem}(hl:l.Pairwise Bef):(upd l k h).length+(hist l k).length=l.length+h.length:=by
 have:=congrArg p7 (zI k hl)
 unfold upd
 simp only [l_] at *
 omega
theorem Jf {l:List DElem}(k:DKey)(hl:l.Pairwise Bef):upd l k (hist l k)=l:=(zI k hl).symm
theorem zR {l:List DElem}{k:DKey}{h:List DElem}{e:DElem}(hl:l.Pairwise Bef):e∈upd l k h↔e∈h∨e∈l∧e.key≠k:=by
 unfold upd
 rw [g_,g_,Gj,Eb]
 constructor
 · rintro(⟨h1,h2⟩ | h1 | ⟨h1,h2⟩)
   · exact .inr ⟨h1,fun e=>by rw [e,vk.refl] at h2;omega⟩
   · exact .inl h1
   · exact .inr ⟨h1,fun e=>by rw [e,vk.refl] at h2;omega⟩
 · rintro(h1 | ⟨h1,h2⟩)
   · exact .inr (.inl h1)
   · rcases vk.tri e.key k with h3 | h3 | h3
     · exact .inl ⟨h1,h3⟩
     · exact absurd h3 h2
     · exact .inr (.inr ⟨h1,vk.pos.2 h3⟩)
theorem Run.upd {l:List DElem}{k:DKey}{h:List DElem}(hl:Run l)(hk : ∀ e∈h,e.key=k)(ho : ∀ e∈h,vb e=0)(hp:h.Pairwise Bef)(hn:(upd l k h).length≤400):Run (upd l k h):=by
 refine⟨hn,fun e he=>?_,?_⟩
 · rcases (zR hl.ord).1 he with h1 | h1
   · exact ho e h1
   · exact hl.ok e h1.1
 · unfold Go.Proofs.YtaoocidchclpnaaGreat.upd
   rw [V_,V_]
   refine⟨hl.ord.sublist U_,⟨hp,hl.ord.sublist U_,fun a ha b hb=>?_⟩,fun a ha b hb=>?_⟩
   · rw [B8];left
     have:=(Eb.1 hb).2
     rw [hk a ha];exact vk.pos.1 this
   · rw [B8];left
     have h1:=(Gj.1 ha).2
     rcases g_.1 hb with hb | hb
     · rw [hk b hb];exact h1
     · exact vk.lt_trans h1 (vk.pos.1 (Eb.1 hb).2)
def wm (l:List DElem):Int:=l.foldl (fun t e=>if t<vQ e then vQ e else t) 0
theorem Ge (l:List DElem):∀ t0 t:Int,l.foldl (fun t e=>if t<vQ e then vQ e else t) t0≤t↔t0≤t∧∀ e∈l,vQ e≤t:=by
 induction l with
 | nil=>intro t0 t;simp
 | cons a l ih =>
  intro t0 t
  rw [x_,ih,List.forall_mem_cons]
  split <;> constructor <;> rintro ⟨h1,h2⟩
  · exact⟨by omega,by omega,h2⟩
  · exact⟨h2.1,h2.2⟩
  · exact⟨by omega,by omega,h2⟩
  · exact⟨h1,h2.2⟩
theorem yI {l:List DElem}{t:Int}:wm l≤t↔0≤t∧∀ e∈l,vQ e≤t:=Ge l 0 t
theorem AU (l:List DElem):0≤wm l:=((yI (l:=l) (t:=wm l)).1 (Int.le_refl _)).1
theorem yJ {l:List DElem}{e:DElem}(h:e∈l):vQ e≤wm l:=((yI (l:=l) (t:=wm l)).1 (Int.le_refl _)).2 e h
theorem zu {e:DElem}{t:Int}:vQ e≤t↔e.made≤t∧e.gone≤t:=by unfold vQ;split <;> omega
theorem Run.last_le {l:List DElem}(h:Run l):wm l≤2147483647:=by
 rw [yI]
 refine⟨by omega,fun e he=>?_⟩
 obtain⟨_,_,_,_,_⟩:=wK (h.ok e he)
 rw [zu];omega
theorem CG {α:Type}{R:α→α→Prop}:∀ {l:List α},l.Pairwise R→∀ {a b:α},a∈l→b∈l→a=b∨R a b∨R b a
 | [],_,_,_,h,_=>by simp at h
 | c::l,h,a,b,ha,hb=>by
  rw [o8] at h
  rcases F_.1 ha with ha | ha <;> rcases F_.1 hb with hb | hb
  · left;rw [ha,hb]
  · right;left;rw [ha];exact h.1 b hb
  · right;right;rw [hb];exact h.1 a ha
  · exact CG h.2 ha hb
theorem AW {e:DElem}{t:Int}:zi e t=true↔e.made≤t∧(e.gone=0∨t<e.gone):=by unfold zi;simp
theorem Run.live_one {l:List DElem}(h:l.Pairwise Bef){a b:DElem}(ha:a∈l)(hb:b∈l)(hk:a.key=b.key){t:Int}(la:zi a t=true)(lb:zi b t=true):a=b:=by
 rw [AW] at la lb
 have bad : ∀ {x y:DElem},Bef x y→x.key=y.key→(x.made≤t∧(x.gone=0∨t<x.gone))→(y.made≤t∧(y.gone=0∨t<y.gone))→False:=fun hb hk h1 h2=>by
  have:=hb.2 hk;omega
 rcases CG h ha hb with h1 | h1 | h1
 · exact h1
 · exact(bad h1 hk la lb).elim
 · exact(bad h1 hk.symm lb la).elim
def atR (l:List DElem)(k:DKey)(t:Int):Option DElem:=l.find? fun e=>e.key == k&&zi e t
theorem H7 (l:List DElem)(k:DKey)(t:Int):atR l k t=(hist l k).find? fun e=>zi e t:=by
 unfold atR hist;rw [List.find?_filter];congr 1;funext e;cases e.key == k <;> simp
theorem DF {e:DElem}{t:Int}(h:vQ e≤t):zi e t=(e.gone == 0):=by
 rw [zu] at h
 rw [Y_,AW];simp;omega
def cl (t:Int)(e:DElem):Option DElem:=if e.gone=0 then if e.made=t then none else some { e with gone:=t } else some e
def clo (h:List DElem)(t:Int):List DElem:=h.filterMap (cl t)
def wn (k:DKey)(v:ByteArray)(t:Int):DElem:=⟨k,t,0,v⟩
def cutR (l:List DElem)(k:DKey)(t:Int):List DElem:=upd l k (clo (hist l k) t)
def putR (l:List DElem)(k:DKey)(v:ByteArray)(t:Int):List DElem:=upd l k (clo (hist l k) t++[wn k v t])
theorem zL {t:Int}{e x:DElem}:cl t e=some x↔(e.gone≠0∧x=e)∨(e.gone=0∧e.made≠t∧x = { e with gone:=t }):=by
 unfold cl
 split
 · split
   · simp_all
   · rename_i h1 h2
     simp only [q_.injEq]
     constructor
     · rintro rfl;exact .inr ⟨h1,h2,rfl⟩
     · rintro(h | h)
       · exact absurd h1 h.1
       · exact h.2.2.symm
 · rename_i h1
   simp only [q_.injEq]
   constructor
   · rintro rfl;exact .inl ⟨h1,rfl⟩
   · rintro(h | h)
     · exact h.2.symm
     · exact absurd h.1 h1
theorem Cc {h:List DElem}{t:Int}{x:DElem}:x∈clo h t↔(x∈h∧x.gone≠0)∨∃ e∈h,e.gone=0∧e.made≠t∧x = { e with gone:=t }:=by
 unfold clo
 rw [List.mem_filterMap]
 constructor
 · rintro⟨e,he,h1⟩
   rcases zL.1 h1 with ⟨h2,rfl⟩ | h2
   · exact .inl ⟨he,h2⟩
   · exact .inr ⟨e,he,h2⟩
 · rintro(⟨h1,h2⟩ | ⟨e,he,h2⟩)
   · exact⟨x,h1,zL.2 (.inl ⟨h2,rfl⟩)⟩
   · exact⟨e,he,zL.2 (.inr h2)⟩
theorem FU (a b:List DElem)(t:Int):clo (a++b) t=clo a t++clo b t:=List.filterMap_append ..
theorem ET {h:List DElem}{t:Int}(hg : ∀ e∈h,e.gone≠0):clo h t=h:=by
 unfold clo
 induction h with
 | nil=>rfl
 | cons a h ih =>
  rw [v8 (b:=a) (zL.2 (.inl ⟨hg a (by simp),rfl⟩)),ih fun e he=>hg e (by simp [he])]
theorem Iv {h:List DElem}{t:Int}(ht:t≠0):∀ e∈clo h t,e.gone≠0:=fun e he=>by
 rcases Cc.1 he with h1 | ⟨e',_,_,_,rfl⟩
 · exact h1.2
 · exact ht
theorem FV (h:List DElem)(t:Int):(clo h t).length≤h.length:=List.length_filterMap_le ..
theorem zr {h:List DElem}{k:DKey}{t:Int}(hk : ∀ e∈h,e.key=k):∀ e∈clo h t,e.key=k:=fun e he=>by
 rcases Cc.1 he with h1 | ⟨e',he',_,_,rfl⟩
 · exact hk e h1.1
 · exact hk e' he'
theorem Dv {h:List DElem}{k:DKey}(hp:h.Pairwise Bef)(hk : ∀ e∈h,e.key=k){a b:List DElem}{e:DElem}(he:h=a++e::b)(hg:e.gone=0):b=[]:=by
 subst he
 cases b with
 | nil=>rfl
 | cons x b =>
  rw [V_,o8] at hp
  have:=(hp.2.1.1 x (by simp)).2 (by rw [hk e (by simp),hk x (by simp)])
  exact absurd hg this.1
theorem J4 {h:List DElem}{k:DKey}{t:Int}(hk : ∀ e∈h,e.key=k)(ho : ∀ e∈h,vb e=0)(hp:h.Pairwise Bef)(ht : ∀ e∈h,vQ e≤t)(h0:1≤t)(h1:t≤2147483647) :
 (∀ e∈clo h t,vb e=0)∧(clo h t).Pairwise Bef∧(∀ e∈clo h t,e.gone≤t∧e.made<t):=by
 refine⟨fun e he=>?_,?_,fun e he=>?_⟩
 · rcases Cc.1 he with h2 | ⟨e',he',hg,hm,rfl⟩
   · exact ho e h2.1
   · have h3:=ho e' he'
     have h4:=zu.1 (ht e' he')
     obtain⟨c1,c2,c3,c4,c5⟩:=wK h3
     unfold vb
     dsimp only
     rw [if_neg (by simpa using c1),if_neg (by omega),if_neg (by omega)]
 · unfold clo
   rw [List.pairwise_filterMap]
   refine hp.imp_of_mem ?_
   intro a b ha hb hab x hx y hy
   have g:=hab.2 (by rw [hk a ha,hk b hb])
   rcases zL.1 (show cl t a=some x from hx) with ⟨_,rfl⟩ | ⟨h2,_⟩
   · rcases zL.1 (show cl t b=some y from hy) with ⟨_,rfl⟩ | ⟨_,_,rfl⟩
     · exact hab
     · exact hab
   · exact absurd h2 g.1
 · rcases Cc.1 he with ⟨h2,h3⟩ | ⟨e',he',hg,hm,rfl⟩
   · have h4:=zu.1 (ht e h2)
     obtain⟨_,c2,c3,c4,_⟩:=wK (ho e h2)
     omega
   · have h4:=zu.1 (ht e' he')
     dsimp only
     omega
theorem zS {k:DKey}{v:ByteArray}{t:Int}(hc:vb (wn k v t)=0):AN k=0∧1≤t∧t≤2147483647∧v.size≤40:=by
 obtain⟨h1,h2,h3,h4,h5⟩:=wK hc
 exact⟨h1,h2,h3,h5⟩
section
variable {l:List DElem} {k:DKey} {t:Int} {v:ByteArray}
theorem wW (l:List DElem)(k:DKey):∀ e∈hist l k,e.key=k:=fun e he=>(we.1 he).2
theorem Run.clo (h:Run l)(ht:wm l≤t)(h0:1≤t)(h1:t≤2147483647)(k:DKey) :
 (∀ e∈clo (Go.Proofs.YtaoocidchclpnaaGreat.hist l k) t,vb e=0)∧(Go.Proofs.YtaoocidchclpnaaGreat.clo (Go.Proofs.YtaoocidchclpnaaGreat.hist l k) t).Pairwise Bef∧(∀ e∈Go.Proofs.YtaoocidchclpnaaGreat.clo (Go.Proofs.YtaoocidchclpnaaGreat.hist l k) t,e.gone≤t∧e.made<t) :=
 J4 (wW l k) (h.hist k).ok (h.hist k).ord (fun e he=>by have:=yJ (we.1 he).1;omega) h0 h1
theorem Run.cutR (h:Run l)(ht:wm l≤t)(h0:1≤t)(h1:t≤2147483647)(k:DKey):Run (cutR l k t):=by
 obtain⟨c1,c2,c3⟩:=h.clo ht h0 h1 k
 refine h.upd (zr (wW l k)) c1 c2 ?_
 have h2:=CT (k:=k) (h:=Go.Proofs.YtaoocidchclpnaaGreat.clo (Go.Proofs.YtaoocidchclpnaaGreat.hist l k) t) h.ord
 have h3:=FV (Go.Proofs.YtaoocidchclpnaaGreat.hist l k) t
 have:=h.len
 omega
theorem IX (h:Run l)(ht:wm l≤t)(hc:vb (wn k v t)=0) :
 (∀ e∈clo (hist l k) t++[wn k v t],e.key=k)∧(∀ e∈clo (hist l k) t++[wn k v t],vb e=0)∧(clo (hist l k) t++[wn k v t]).Pairwise Bef:=by
 obtain⟨_,h0,h1,_⟩:=zS hc
 obtain⟨c1,c2,c3⟩:=h.clo ht h0 h1 k
 refine⟨fun e he=>?_,fun e he=>?_,?_⟩
 · rcases g_.1 he with he | he
   · exact zr (wW l k) e he
   · simp at he;subst he;rfl
 · rcases g_.1 he with he | he
   · exact c1 e he
   · simp at he;subst he;exact hc
 · rw [V_]
   refine⟨c2,by simp,fun a ha b hb=>?_⟩
   simp at hb;subst hb
   have h2:=c3 a ha
   rw [B8]
   right
   refine⟨zr (wW l k) a ha,h2.2,Iv (by omega) a ha,h2.1⟩
theorem Run.putR (h:Run l)(ht:wm l≤t)(hc:vb (wn k v t)=0)(hn:(putR l k v t).length≤400):Run (putR l k v t):=by
 obtain⟨h1,h2,h3⟩:=IX h ht hc
 exact h.upd h1 h2 h3 hn
def wo (l:List DElem)(k:DKey):Option DElem:=(hist l k).find? fun e=>e.gone == 0
theorem JE (h:Run l){u:Int}(hu:wm l≤u)(k:DKey):atR l k u=wo l k:=by
 rw [H7]
 unfold wo
 have key : ∀ h:List DElem,(∀ e∈h,vQ e≤u)→h.find? (fun e=>zi e u)=h.find? fun e=>e.gone == 0:=by
  intro h
  induction h with
  | nil=>intro _;rfl
  | cons a h ih =>
   intro hh
   rw [List.find?_cons,List.find?_cons,DF (hh a (by simp)),ih fun e he=>hh e (by simp [he])]
 exact key _ fun e he=>by have:=yJ (we.1 he).1;omega
theorem xE (h:l.Pairwise Bef){e:DElem}:wo l k=some e↔e∈l∧e.key=k∧e.gone=0:=by
 unfold wo
 constructor
 · intro hf
   have h1:=w6 hf
   have h2:=List.find?_some hf
   rw [we] at h1
   exact⟨h1.1,h1.2,by simpa using h2⟩
 · rintro⟨h1,h2,h3⟩
   cases hf:(hist l k).find? (fun e=>e.gone == 0) with
   | none =>
    rw [List.find?_eq_none] at hf
    have:=hf e (we.2 ⟨h1,h2⟩)
    simp [h3] at this
   | some a =>
    have g1:=we.1 (w6 hf)
    have g2:=List.find?_some hf
    simp only [beq_iff_eq] at g2
    have la:zi a (max a.made e.made)=true:=by rw [AW];omega
    have le:zi e (max a.made e.made)=true:=by rw [AW];omega
    rw [Run.live_one h g1.1 h1 (g1.2.trans h2.symm) la le]
theorem DH:wo l k=none↔∀ e∈l,e.key=k→e.gone≠0:=by
 unfold wo
 rw [List.find?_eq_none]
 constructor
 · intro h e he hk;have:=h e (we.2 ⟨he,hk⟩);simpa using this
 · intro h e he;have:=h e (we.1 he).1 (we.1 he).2;simpa using this
theorem xK (h:wo l k=none):clo (hist l k) t=hist l k:=ET fun e he=>DH.1 h e (we.1 he).1 (we.1 he).2
theorem Ab (h:l.Pairwise Bef){e:DElem}(hn:wo l k=some e):∃ a,hist l k=a++[e]∧∀ x∈a,x.gone≠0:=by
 obtain⟨h1,h2,h3⟩:=(xE h).1 hn
 obtain⟨a,b,hab⟩:=List.append_of_mem (we.2 ⟨h1,h2⟩)
 have hp:=h.sublist (U_ (p:=fun e=>e.key == k))
 have hb:=Dv (show (hist l k).Pairwise Bef from hp) (wW l k) hab h3
 subst hb
 refine⟨a,hab,fun x hx hg=>?_⟩
 obtain⟨c,d,rfl⟩:=List.append_of_mem hx
 have hab' : hist l k=c++x::(d++[e]):=by rw [hab];simp
 have:=Dv (show (hist l k).Pairwise Bef from hp) (wW l k) hab' hg
 simp at this
theorem DZ (h:l.Pairwise Bef){e:DElem}(hn:wo l k=some e):∃ a,hist l k=a++[e]∧clo (hist l k) t=a++(if e.made=t then [] else [{ e with gone:=t }]):=by
 obtain⟨a,ha,hg⟩:=Ab h hn
 refine⟨a,ha,?_⟩
 have h3:=((xE h).1 hn).2.2
 rw [ha,FU,ET hg]
 congr 1
 unfold clo
 by_cases hm:e.made=t
 · rw [if_pos hm,List.filterMap_cons_none (by unfold cl;rw [if_pos h3,if_pos hm])];rfl
 · rw [if_neg hm,v8 (b:={ e with gone:=t }) (by unfold cl;rw [if_pos h3,if_neg hm])];rfl
theorem yY (h:Run l):(putR l k v t).length=match wo l k with
 | some e=>if e.made=t then l.length else l.length+1
 | none=>l.length+1:=by
 have h1:=CT (k:=k) (h:=clo (hist l k) t++[wn k v t]) h.ord
 unfold putR
 rw [l_,List.length_singleton] at h1
 generalize (upd l k (clo (hist l k) t++[wn k v t])).length=n at h1 ⊢
 cases hn:wo l k with
 | none=>rw [xK hn] at h1;show n=l.length+1;omega
 | some e =>
  obtain⟨a,ha,hc⟩:=DZ (t:=t) h.ord hn
  rw [hc,ha] at h1
  dsimp only
  by_cases hm:e.made=t
  · rw [if_pos hm] at *;simp at h1 ⊢;omega
  · rw [if_neg hm] at *;simp at h1 ⊢;omega
theorem Ij (h:Run l)(hn:wo l k=none):cutR l k t=l:=by
 unfold cutR
 rw [xK hn,Jf k h.ord]
end
end
section
variable {F:Nat} [Big F]
theorem vf (e:DElem):jf e=some (uU e):=rfl
def Ia (p e:DElem):Bool:=decide (cmpS (uU p) (uU e)<0)&&(p.key != e.key||(p.gone != 0&&decide (p.gone≤e.made)))
theorem EJ {p e:DElem}:Ia p e=true↔Bef p e:=by
 unfold Ia Bef
 simp only [Bool.and_eq_true,o7,decide_eq_true_eq,bne_iff_ne,ne_eq]
 constructor
 · rintro⟨h1,h2⟩;exact⟨h1,fun hk=>h2.resolve_left fun h=>h hk⟩
 · rintro⟨h1,h2⟩;exact⟨h1,(Decidable.em (p.key=e.key)).elim (fun h=>.inr (h2 h)) .inl⟩
def zj (l:List DElem)(k:Nat)(e:DElem):Option Int :=
 if vb e≠0 then some (vb e) else if k=0 then none else
  match l[k-1]? with
  | some p=>if Ia p e then none else some 3
  | none=>none
theorem Ck {l:List DElem}{e:DElem}(h:vb e=0):zj l 0 e=none:=by unfold zj;rw [if_neg (by simpa using h),if_pos rfl]
theorem Ah {l:List DElem}{j:Nat}{p e:DElem}(h:vb e=0)(hj:l[j]? = some p):zj l (j+1) e=if Ia p e then none else some 3:=by
 unfold zj;rw [if_neg (by simpa using h),if_neg (by omega),Nat.add_sub_cancel,hj]
theorem Dg {l:List DElem}{k:Nat}{e:DElem}(h:vb e≠0):zj l k e=some (vb e):=by unfold zj;rw [if_pos h]
def zZ (l:List DElem):Int:=if 400<l.length then 2 else ((l.zipIdx).findSome? fun p=>zj l p.2 p.1).getD 0
theorem wC {α β γ:Type}(g:β→γ)(w:α→Option β):∀ l:List α,(l.findSome? fun a=>(w a).map g)=(l.findSome? w).map g
 | []=>rfl
 | a::l=>by
  rw [y_,y_]
  cases w a with
  | some b=>rfl
  | none=>exact wC g w l
theorem Bj (l:List DElem):nI F l=some (zZ l):=by
 unfold nI zZ
 by_cases hl:400<l.length
 · rw [if_pos hl,decide_eq_true (by omega),cond_true]
 · rw [if_neg hl,decide_eq_false (by omega),cond_false]
   rw [w8 l (fun k e=>(zj l k e).map Sum.inr) (Sum.inl ()) (by omega) rfl (fun k e hk hb=>?_) (by simp)]
   · rw [wC]
     cases l.zipIdx.findSome? fun p=>zj l p.2 p.1 <;> rfl
   · have hkl:=(ggs.1 hk).1
     rw [decide_eq_true (by omega),cond_true,uX,hk,obs,vH,obs]
     by_cases hc:vb e=0
     · rw [vp hc,cond_false]
       cases k with
       | zero=>rw [Ck hc];simp [w64]
       | succ j =>
        obtain⟨p,hj⟩ : ∃ p,l[j]? = some p:=⟨_,gge (show j<l.length by omega)⟩
        rw [Ah hc hj,show (((j+1:Nat):Int) == 0)=false by rw [beq_eq_false_iff_ne];omega,cond_false,w64 (by omega) (by omega),show (((j+1:Nat):Int)-1)=(j:Int) by omega,uX,hj,w64 (by omega) (by omega)]
        simp only [obs,vf,vx]
        unfold Ia
        by_cases h1:cmpS (uU p) (uU e)<0
        · rw [decide_eq_false (by omega),cond_false,decide_eq_true h1,Bool.true_and]
          by_cases h2:p.key=e.key
          · rw [show (p.key == e.key)=true by simpa using h2,cond_true,show (p.key != e.key)=false by simpa using h2,Bool.false_or]
            by_cases h3:p.gone=0
            · rw [show (p.gone == 0)=true by simpa using h3,cond_true,show (p.gone != 0)=false by simpa using h3];rfl
            · rw [show (p.gone == 0)=false by simpa using h3,cond_false,show (p.gone != 0)=true by simpa using h3,Bool.true_and]
              by_cases h4:p.gone≤e.made
              · rw [decide_eq_false (by omega),decide_eq_true h4];rfl
              · rw [decide_eq_true (by omega),decide_eq_false h4];rfl
          · rw [show (p.key == e.key)=false by simpa using h2,cond_false,show (p.key != e.key)=true by simpa using h2];rfl
        · rw [decide_eq_true (by omega),cond_true,decide_eq_false h1];rfl
     · rw [vD hc,cond_true,Dg hc];rfl
theorem wV {l:List DElem}:zZ l=0↔Run l:=by
 unfold zZ
 by_cases hl:400<l.length
 · rw [if_pos hl]
   constructor
   · intro h;cases h
   · intro h;have:=h.len;omega
 · rw [if_neg hl]
   cases hf:l.zipIdx.findSome? fun p=>zj l p.2 p.1 with
   | some c =>
    obtain⟨k,e,hk,hb⟩:=yH hf
    rw [Option.getD_some]
    constructor
    · intro hc
      subst hc
      unfold zj at hb
      split at hb
      · rename_i h;exact absurd (q_.inj hb) h
      · split at hb
        · cases hb
        · split at hb
          · split at hb
            · cases hb
            · cases hb
          · cases hb
    · intro h
      have he:=h.ok e (List.mem_of_getElem? hk)
      cases k with
      | zero=>rw [Ck he] at hb;cases hb
      | succ j =>
       have hkl:=(ggs.1 hk).1
       have hj:l[j]? = some l[j]:=gge (by omega)
       have hp:=w7.1 h.ord j (j+1) (by omega) hkl (by omega)
       rw [(ggs.1 hk).2] at hp
       rw [Ah he hj,if_pos (EJ.2 hp)] at hb
       cases hb
   | none =>
    rw [xx] at hf
    refine⟨fun _=>?_,fun _=>rfl⟩
    have hok : ∀ e∈l,vb e=0:=fun e he=>by
     obtain⟨k,hk,rfl⟩:=m4 he
     have h1:=hf k _ (gge hk)
     by_cases hc:vb l[k]=0
     · exact hc
     · rw [Dg hc] at h1;cases h1
    refine⟨by omega,hok,?_⟩
    rw [w7]
    have step : ∀ j (hj:j+1<l.length),Bef l[j] l[j+1]:=fun j hj=>by
     have h1:=hf (j+1) _ (gge hj)
     rw [Ah (hok _ (i_ hj)) (gge (show j<l.length by omega))] at h1
     split at h1
     · rename_i h;exact EJ.1 h
     · cases h1
    have far : ∀ d i (hd:i+d+1<l.length),Bef (l[i]'(by omega)) l[i+d+1]:=by
     intro d
     induction d with
     | zero=>intro i hd;exact step i hd
     | succ d ih =>
      intro i hd
      have h1:=ih i (by omega)
      have h2:=step (i+d+1) (by omega)
      exact h1.trans (hok _ (i_ _)) h2
    intro i j hi hj hij
    have:=far (j-i-1) i (by omega)
    have e:i+(j-i-1)+1=j:=by omega
    simp only [e] at this
    exact this
theorem FB (l:List DElem)(hl:l.length≤9223372036854775807):qb F l=some (wm l):=by
 unfold qb wm
 rw [wr l (fun t e=>if t<vQ e then vQ e else t) 0 (r:=l.foldl (fun t e=>if t<vQ e then vQ e else t) 0) hl rfl (fun k e hk=>?_) (by simp),obs]
 have hkl:=(ggs.1 hk).1
 dsimp only
 rw [decide_eq_true (by omega),cond_true,uX,hk,obs,AO,obs,w64 (by omega) (by omega)]
def Jk:DElem:=⟨⟨0,0,0⟩,0,0,ByteArray.mk #[]⟩
section
variable {α:Type} {l a b:List α} {x:α}
theorem GK (h:l=a++x::b):l[a.length]? = some x:=by rw [h,X_ (v_ _)];simp
theorem Ep (h:l=a++x::b)(y:α):l.set a.length y=a++y::b:=by rw [h,v6 _ _ (v_ _)];simp
end
theorem Gx {i j:Nat}(hj:j≤4611686018427387903)(hi:i≤j):IntKind.i64.wrap (shr .u64 (IntKind.u64.wrap (IntKind.i64.wrap ((i:Int)+(j:Int)))) 1)=(((i+j) / 2:Nat):Int):=by
 have e0:IntKind.i64.wrap ((i:Int)+(j:Int))=(i:Int)+(j:Int):=w64 (by omega) (by omega)
 have e1:IntKind.u64.wrap ((i:Int)+(j:Int))=(i:Int)+(j:Int):=by
  simp [IntKind.wrap,IntKind.bits,IntKind.signed];omega
 have e2:shr .u64 ((i:Int)+(j:Int)) 1=(((i+j) / 2:Nat):Int):=by
  unfold shr
  have e3:min 1 (IntKind.bits .u64)=1:=by decide
  rw [e3,v5 _ (by decide)]
  omega
 rw [e0,e1,e2,w64 (by omega) (by omega)]
theorem Fk {f:Int × Int→Option ((Int × Int) ⊕ Int)}(p:Nat→Bool)(n c:Nat)(hn:n≤4611686018427387903)(hc:c≤n)(hlo : ∀ j,j<c→p j=false)(hhi : ∀ j,c≤j→j<n→p j=true)
 (hs : ∀ i j:Nat,i<j→j≤n→f ((i:Int),(j:Int))=some (.inl (bif p ((i+j) / 2) then ((i:Int),(((i+j) / 2:Nat):Int)) else ((((i+j) / 2:Nat):Int)+1,(j:Int))))) (he : ∀ i:Nat,f ((i:Int),(i:Int))=some (.inr (i:Int))) :
 iter f F (0,(n:Int))=some (c:Int):=by
 have key : ∀(d i j N:Nat),j-i≤d→i≤c→c≤j→j≤n→d<N→iter f N ((i:Int),(j:Int))=some (c:Int):=by
  intro d
  induction d with
  | zero =>
   intro i j N hd h1 h2 h3 hN
   obtain⟨N,rfl⟩ : ∃ M,N=M+1:=⟨N-1,by omega⟩
   obtain rfl:i=c:=by omega
   obtain rfl:j=i:=by omega
   rw [iter,he]
  | succ d ih =>
   intro i j N hd h1 h2 h3 hN
   obtain⟨N,rfl⟩ : ∃ M,N=M+1:=⟨N-1,by omega⟩
   rcases H_ i j with hij | hij
   · rw [iter,hs i j hij h3]
     dsimp only
     by_cases hp:p ((i+j) / 2)=true
     · rw [hp,cond_true]
       refine ih i ((i+j) / 2) N (by omega) h1 ?_ (by omega) (by omega)
       rcases H_ ((i+j) / 2) c with h4 | h4
       · rw [hlo _ h4] at hp;cases hp
       · exact h4
     · rw [show p ((i+j) / 2)=false by simpa using hp,cond_false]
       refine ih ((i+j) / 2+1) j N (by omega) ?_ h2 h3 (by omega)
       rcases H_ ((i+j) / 2) c with h4 | h4
       · exact h4
       · exact absurd (hhi _ h4 (by omega)) hp
   · obtain rfl:i=c:=by omega
     obtain rfl:j=i:=by omega
     rw [iter,he]
 exact key n 0 n F (by omega) (by omega) hc (v_ _) (yB (by omega))
theorem Bk (A B:List DElem)(s:DSpot)(hn:(A++B).length≤1000000)(hA : ∀ e∈A,cmpS (uU e) s<0)(hB : ∀ e∈B,0≤cmpS (uU e) s):nJ F (A++B) s=some (A.length:Int):=by
 unfold nJ
 have hlen:(A++B).length=A.length+B.length:=l_
 rw [Fk (fun j=>match (A++B)[j]? with | some e=>decide (0≤cmpS (uU e) s) | none=>false) (A++B).length A.length (by omega) (by omega) (fun j hj=>?_) (fun j h1 h2=>?_) (fun i j hij hj=>?_) (fun i=>by simp),obs,obs]
 · rw [R_ hj,gge hj]
   simpa using hA _ (i_ hj)
 · rw [X_ h1,gge (by omega)]
   simpa using hB _ (i_ _)
 · have hm:(i+j) / 2<(A++B).length:=by omega
   dsimp only
   rw [decide_eq_true (by omega),cond_true,Gx (by omega) (by omega),uX,gge hm,obs,vf,obs,vx,obs,obs]
   dsimp only
   by_cases hp:0≤cmpS (uU (A++B)[(i+j) / 2]) s
   · rw [decide_eq_true hp];rfl
   · rw [decide_eq_false hp,w64 (by omega) (by omega)];rfl
theorem Run.made {l:List DElem}(h:Run l){e:DElem}(he:e∈l):1≤e.made∧e.made≤2147483647:=by
 obtain⟨_,h1,h2,_⟩:=wK (h.ok e he);exact⟨h1,h2⟩
theorem D6 {l:List DElem}{k:DKey}{t:Int}:∀ e∈hi l k,0≤cmpS (uU e) ⟨k,t⟩:=fun e he=>by
 have h1:=(Eb.1 he).2
 have h2:cmpS ⟨k,t⟩ (uU e)<0:=xJ.2 (.inl (vk.pos.1 h1))
 have:=vc.neg (uU e) ⟨k,t⟩
 omega
theorem Ea {l:List DElem}{k:DKey}{t:Int}:∀ e∈lo l k,cmpS (uU e) ⟨k,t⟩<0:=fun e he=>xJ.2 (.inl (Gj.1 he).2)
theorem Ae {l:List DElem}(h:Run l)(k:DKey):nJ F l ⟨k,2147483648⟩=some ((lo l k++hist l k).length:Int):=by
 have hs:l=(lo l k++hist l k)++hi l k:=by rw [t_];exact zI k h.ord
 conv=>lhs;rw [hs]
 refine Bk _ _ _ (by rw [← hs];have:=h.len;omega) (fun e he=>?_) D6
 rcases g_.1 he with he | he
 · exact Ea e he
 · obtain⟨h1,h2⟩:=we.1 he
   have:=h.made h1
   exact xJ.2 (.inr ⟨h2,by show e.made<2147483648;omega⟩)
theorem Em {l:List DElem}(h:Run l){k:DKey}(hn:wo l k=none):qD F l k=some (-1):=by
 unfold qD
 rw [Ae h k,obs]
 have hs:l=(lo l k++hist l k)++hi l k:=by rw [t_];exact zI k h.ord
 have hlen:(lo l k++hist l k).length≤l.length:=by have:=congrArg p7 hs;rw [l_] at this;omega
 have hl:=h.len
 rw [w64 (by omega) (by omega)]
 by_cases h0:(lo l k++hist l k).length=0
 · rw [h0];rfl
 · obtain⟨n,hn'⟩ : ∃ n,(lo l k++hist l k).length=n+1:=⟨(lo l k++hist l k).length-1,by omega⟩
   rw [hn',decide_eq_false (by omega),cond_false,show (((n+1:Nat):Int)-1)=(n:Int) by omega,uX,gge (show n<l.length by omega)]
   have he:l[n]'(by omega)=(lo l k++hist l k)[n]'(by omega):=by
    have e1:l[n]? = ((lo l k++hist l k)++hi l k)[n]?:=by rw [← hs]
    rw [R_ (by omega),gge (show n<l.length by omega),gge (by omega)] at e1
    exact q_.inj e1
   simp only [obs]
   have hm:l[n]'(by omega)∈l:=i_ _
   by_cases hk:(l[n]'(by omega)).key=k
   · have hg:=DH.1 hn _ hm hk
     rw [beq_iff_eq.2 hk,Bool.not_true,cond_false,vD hg,obs,cond_true]
   · rw [beq_eq_false_iff_ne.2 hk,Bool.not_false,cond_true,obs,cond_true]
theorem En {l:List DElem}(h:Run l){k:DKey}{e:DElem}(hn:wo l k=some e):∃ a,hist l k=a++[e]∧l=(lo l k++a)++e::hi l k∧qD F l k=some ((lo l k++a).length:Int):=by
 obtain⟨a,ha,_⟩:=Ab h.ord hn
 obtain⟨_,hk,hg⟩:=(xE h.ord).1 hn
 have hs:l=(lo l k++a)++e::hi l k:=by
  conv=>lhs;rw [zI k h.ord,ha]
  simp
 refine⟨a,ha,hs,?_⟩
 unfold qD
 rw [Ae h k,obs,ha]
 have hl:=h.len
 have hlen:=congrArg p7 hs
 simp only [l_,u_,List.length_nil] at hlen ⊢
 rw [w64 (by omega) (by omega),show (((lo l k).length+(a.length+(0+1)):Nat):Int)-1=(((lo l k++a).length:Nat):Int) by simp;omega]
 rw [decide_eq_false (by omega),cond_false,uX]
 have he:l[(lo l k++a).length]? = some e:=GK hs
 rw [he]
 simp [hk,hg]
def yn (l:List DElem)(k:DKey)(v:ByteArray)(t:Int):Int :=
 if zZ l≠0 then zZ l else if vb (wn k v t)≠0 then vb (wn k v t) else if t<wm l then 9 else if 400<(putR l k v t).length then 8 else 0
theorem DK {l:List DElem}{k:DKey}{v:ByteArray}{t:Int}:yn l k v t=0↔Run l∧vb (wn k v t)=0∧wm l≤t∧(putR l k v t).length≤400:=by
 unfold yn
 rw [← wV]
 split
 · simp_all
 · split
   · simp_all
   · split
     · constructor
       · intro h;cases h
       · omega
     · split
       · constructor
         · intro h;cases h
         · omega
       · simp_all
theorem D9 {α:Type}(a b:List α)(x z:α):(over ((a++b)++[z]) (a.length+1) ((((a++b)++[z]).drop a.length).take (((a++b)++[z]).drop (a.length+1)).length)).set a.length x=a++x::b:=by
 have e1:((a++b)++[z]).drop a.length=b++[z]:=by rw [t_,List.drop_left]
 have e2:(((a++b)++[z]).drop (a.length+1)).length=b.length:=by simp
 rw [e1,e2,List.take_left]
 have e3 : ∃ y,over ((a++b)++[z]) (a.length+1) b=a++y::b:=by
  unfold over
  have e4:((a++b)++[z]).drop (a.length+1+b.length)=[]:=t6 (by simp;omega)
  rw [e4,f_]
  cases b with
  | nil=>exact ⟨z,by rw [f_,f_,B1 (by simp)]⟩
  | cons y b =>
   refine⟨y,?_⟩
   rw [t_,O_,List.take_append,B1 (by omega),show a.length+1-a.length=1 by omega]
   simp
 obtain⟨y,hy⟩:=e3
 rw [hy,Ep rfl]
theorem IY {F:Nat}[Big F](A B:List DElem)(s:DSpot)(x z:DElem)(hn:(A++B).length<400)(hA : ∀ e∈A,cmpS (uU e) s<0)(hB : ∀ e∈B,0≤cmpS (uU e) s) :
 ((nJ F (A++B) s).bind fun r6 =>
  (jT 56 (A++B) [z]).bind fun _ =>
  (ja ((A++B)++[z]) (IntKind.i64.wrap (r6+1)) (((A++B)++[z]).length:Int)).bind fun s1 =>
  (ja ((A++B)++[z]) r6 (((A++B)++[z]).length:Int)).bind fun s2 =>
  (idx (over ((A++B)++[z]) ((IntKind.i64.wrap (r6+1)).toNat) (s2.take s1.length)) r6).bind fun e4 =>
  some (((over ((A++B)++[z]) ((IntKind.i64.wrap (r6+1)).toNat) (s2.take s1.length)).set r6.toNat x),(0:Int)))=some (A++x::B,0):=by
 have hlen:(A++B).length=A.length+B.length:=l_
 have hlen2:((A++B)++[z]).length=A.length+B.length+1:=by simp;omega
 rw [Bk A B s (by omega) hA hB,obs,vn (by simp;omega) (by simp;omega),obs,w64 (by omega) (by omega),
  show ((A.length:Int)+1)=((A.length+1:Nat):Int) by omega,vF (by omega),obs,vF (by omega),obs,uX,d_,d_,D9]
 have hov:A.length<(over ((A++B)++[z]) (A.length+1) ((((A++B)++[z]).drop A.length).take (((A++B)++[z]).drop (A.length+1)).length)).length:=by
  rw [jR]
  · omega
  · simp;omega
 rw [gge hov,obs]
theorem Gw (l:List DElem)(k:DKey)(v:ByteArray)(t:Int):qC F l k v t=some (if yn l k v t=0 then putR l k v t else [],yn l k v t):=by
 unfold qC
 rw [Bj,obs,vH,obs]
 show (bif zZ l != 0 then some ([],zZ l) else bif vb (wn k v t) != 0 then some ([],vb (wn k v t)) else _)=_
 by_cases h1:zZ l=0
 · have hr:=wV.1 h1
   have hl:=hr.len
   rw [vp h1,cond_false]
   by_cases h2:vb (wn k v t)=0
   · obtain⟨_,t0,t1,_⟩:=zS h2
     rw [vp h2,cond_false,FB l (by omega),obs]
     by_cases h3:t<wm l
     · have hz:yn l k v t=9:=by unfold yn;rw [if_neg (by simpa using h1),if_neg (by simpa using h2),if_pos h3]
       rw [decide_eq_true h3,cond_true,hz];rfl
     · rw [decide_eq_false h3,cond_false,vn (by simp;omega) (by simp;omega),obs,o_]
       have ht:wm l≤t:=by omega
       obtain⟨c1,c2,c3⟩:=hr.clo ht t0 t1 k
       have hpl:=yY (k:=k) (v:=v) (t:=t) hr
       have hE:yn l k v t=if 400<(putR l k v t).length then 8 else 0:=by
        unfold yn;rw [if_neg (by simpa using h1),if_neg (by simpa using h2),if_neg h3]
       cases hn:wo l k with
       | none =>
        rw [hn] at hpl
        rw [Em hr hn,obs,decide_eq_false (by omega),cond_false]
        simp only [obs]
        by_cases h4:l.length=400
        · rw [show ((l.length:Int) == 400)=true by rw [beq_iff_eq];omega,cond_true]
          have hz:yn l k v t=8:=by rw [hE,if_pos (by rw [hpl];show 400<l.length+1;omega)]
          rw [hz];rfl
        · rw [show ((l.length:Int) == 400)=false by rw [beq_eq_false_iff_ne];omega,cond_false]
          have hz:yn l k v t=0:=by rw [hE,if_neg (by rw [hpl];show ¬ 400<l.length+1;omega)]
          have hs:l=(lo l k++hist l k)++hi l k:=by rw [t_];exact zI k hr.ord
          have hp:=IY (F:=F) (lo l k++hist l k) (hi l k) ⟨k,t⟩ (wn k v t) Jk (by rw [← hs];omega) (fun e he=>by
           rcases g_.1 he with he | he
           · exact Ea e he
           · rw [← xK (t:=t) hn] at he
             exact xJ.2 (.inr ⟨zr (wW l k) e he,(c3 e he).2⟩)) D6
          rw [← hs] at hp
          have:putR l k v t=(lo l k++hist l k)++wn k v t::hi l k:=by unfold putR upd;rw [xK hn];simp
          rw [hz,if_pos rfl,this]
          exact hp
       | some e =>
        rw [hn] at hpl
        obtain⟨a,ha,hs,hnow⟩:=En (F:=F) hr hn
        obtain⟨a',ha',hclo⟩:=DZ (t:=t) hr.ord hn
        obtain⟨hm,hk,hg⟩:=(xE hr.ord).1 hn
        obtain rfl:a=a':=by
         have:=ha.symm.trans ha'
         exact List.append_cancel_right this
        have hget:l[(lo l k++a).length]? = some e:=GK hs
        rw [hnow,obs,decide_eq_true (by omega),cond_true,uX,hget,obs,obs]
        by_cases hmt:e.made=t
        · have hz:yn l k v t=0:=by rw [hE,if_neg (by rw [hpl];show ¬ 400<(if e.made=t then _ else _);rw [if_pos hmt];omega)]
          rw [show (e.made == t)=true by simpa using hmt,cond_true]
          have hset:l.set (lo l k++a).length ⟨e.key,e.made,e.gone,v⟩=putR l k v t:=by
           rw [Ep hs]
           unfold putR upd wn
           rw [hclo,if_pos hmt,hk,hmt,hg]
           simp
          rw [hz,if_pos rfl,← hset,d_];rfl
        · rw [show (e.made == t)=false by simpa using hmt,cond_false]
          have hset:l.set (lo l k++a).length ⟨e.key,e.made,t,e.val⟩=(lo l k++clo (hist l k) t)++hi l k:=by
           rw [Ep hs,hclo,if_neg hmt]
           simp
          simp only [obs,d_]
          rw [hset]
          have hlen3:((lo l k++clo (hist l k) t)++hi l k).length=l.length:=by rw [← hset,List.length_set]
          by_cases h4:l.length=400
          · rw [show ((((lo l k++clo (hist l k) t)++hi l k).length:Int) == 400)=true by rw [beq_iff_eq];omega,cond_true]
            have hz:yn l k v t=8:=by rw [hE,if_pos (by rw [hpl];show 400<(if e.made=t then _ else _);rw [if_neg hmt];omega)]
            rw [hz];rfl
          · rw [show ((((lo l k++clo (hist l k) t)++hi l k).length:Int) == 400)=false by rw [beq_eq_false_iff_ne];omega,cond_false]
            have hz:yn l k v t=0:=by rw [hE,if_neg (by rw [hpl];show ¬ 400<(if e.made=t then _ else _);rw [if_neg hmt];omega)]
            have hp:=IY (F:=F) (lo l k++clo (hist l k) t) (hi l k) ⟨k,t⟩ (wn k v t) Jk (by omega) (fun e he=>by
             rcases g_.1 he with he | he
             · exact Ea e he
             · exact xJ.2 (.inr ⟨zr (wW l k) e he,(c3 e he).2⟩)) D6
            have:putR l k v t=(lo l k++clo (hist l k) t)++wn k v t::hi l k:=by unfold putR upd;simp
            rw [hz,if_pos rfl,this]
            exact hp
   · have hz:yn l k v t=vb (wn k v t):=by unfold yn;rw [if_neg (by simpa using h1),if_pos h2]
     rw [vD h2,cond_true,hz,if_neg h2]
 · have hz:yn l k v t=zZ l:=by unfold yn;rw [if_pos h1]
   rw [vD h1,cond_true,hz,if_neg h1]
def F0 (l:List DElem)(k:DKey)(t:Int):Int :=
 if zZ l≠0 then zZ l else if AN k≠0 then AN k else if t<1∨2147483647<t∨t<wm l then 9 else if (wo l k).isNone then 4 else 0
theorem Dj {l:List DElem}{k:DKey}{t:Int}:F0 l k t=0↔Run l∧AN k=0∧1≤t∧t≤2147483647∧wm l≤t∧(wo l k).isSome=true:=by
 unfold F0
 rw [← wV]
 split
 · simp_all
 · split
   · simp_all
   · split
     · constructor
       · intro h;cases h
       · omega
     · cases wo l k
       · simp
       · simp_all
end
end Go.Proofs.YtaoocidchclpnaaGreat
