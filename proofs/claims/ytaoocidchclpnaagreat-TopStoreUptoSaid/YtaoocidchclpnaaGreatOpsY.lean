/- What the lifted proofs use beside the rules: small run equations, and the pure operations that may fail. Its conditions: none. -/
import Derived.Test.YtaoocidchclpnaaGreatDataY
import Derived.OwnWalk
import Derived.Laws.StructEq
import Derived.Lib.Bytealg
import Derived.Laws.Externs
open List renaming getElem?_take→a_, getElem?_drop→d_, mem_cons→i_
open Option renaming some→f_
open Nat renaming add_mul→g_, mul_le_mul_right→o_
open Array renaming getElem?_eq_getElem→j_
open Bool renaming eq_iff_iff→l_
namespace Go.Proofs.YtaoocidchclpnaaGreat
open Go.RowKit
def qf (n:Int) : Option Int:=if n=0 then none else some n
theorem qg {n k:Int} (h:qf n=some k) : n≠0∧n=k:=by
 unfold qf at h
 split at h
 · cases h
 · exact⟨by assumption,f_.inj h⟩
def slt (x y:ByteArray) : Bool:=Op.bytesLess x.toList y.toList
def jT {α:Type} (bytes:Nat) (l m:List α) : Option (List α):=if (l.length + m.length) * bytes≤140737488355328∧l.length + m.length≤maxLen then some (l ++ m) else none
theorem ij {α:Type} {bytes:Nat} {l m r:List α} (h:jT bytes l m=some r) : od (l.length + m.length) bytes=true∧l.length + m.length≤maxLen∧l ++ m=r:=by
 unfold jT at h
 split at h
 · rename_i hc
   exact⟨decide_eq_true hc.1,hc.2,f_.inj h⟩
 · cases h
section
variable {P:Program} {M:List (Nat × Value)} {o:Oper} {w:World}
theorem qQ {t t' : TypeId} {x y:Operand} {k:IntKind} {a b d:Int} (ho:o.op = .binOp .quo t x y t') (hx:evM M x = .int k a) (hy:evM M y = .int k b) (hn:qf b=some d) :
 (execOp (evM M) o).run P w = .ok (.value (.int k (k.wrap (a.tdiv d)))) w:=by
 obtain⟨h0,rfl⟩:=qg hn
 simp [execOp,ho,hx,hy,eqGuard,binOp,Op.intDiv,h0]
theorem s9 {t t' : TypeId} {x y:Operand} {k:IntKind} {a b d:Int} (ho:o.op = .binOp .rem t x y t') (hx:evM M x = .int k a) (hy:evM M y = .int k b) (hn:qf b=some d) :
 (execOp (evM M) o).run P w = .ok (.value (.int k (a.tmod d))) w:=by
 obtain⟨h0,rfl⟩:=qg hn
 simp [execOp,ho,hx,hy,eqGuard,binOp,Op.intDiv,h0]
end
section
variable {P:Program} {M:List (Nat × Value)} {o:Oper} {w:World}
end
theorem tw {cs seg:List Value} {off n:Nat} {j:Nat} {u:Value} (h:(cs.drop off).take n=seg) (hj:seg[j]? = some u) : cs[off + j]? = some u:=by
 rw [← h,a_] at hj
 split at hj
 · rw [d_] at hj;exact hj
 · cases hj
theorem rZ {cs seg:List Value} {n:Nat} {j:Nat} {u:Value} (h:cs.take n=seg) (hj:seg[j]? = some u) : cs[j]? = some u:=by
 rw [← h,a_] at hj
 split at hj
 · exact hj
 · cases hj
section
variable {α:Type} {w0 w:World} {V:View} {H:List HObj} {E:Enc α} {A:Option Addr} {c:Nat} {l:List α}
theorem Hp.cellBox (h:Hp w0 V H w) {i b:Nat} {t:TypeId} {cs:List Value} (hi:nth H i=some (box b t cs)) (j:Nat) : w.cell? ⟨b,j,none⟩=cs[j]?:=h.cell_box (by rw [← ju];exact hi) j
theorem Hp.box_at (h:Hp w0 V H w) {i b:Nat} {t:TypeId} {cs:List Value} (hi:nth H i=some (box b t cs)) (off j:Nat) : w.cell? ((⟨b,off,none⟩ : Addr).add j)=cs[off + j]?:=by
 have hadd:(⟨b,off,none⟩ : Addr).add j=⟨b,off + j,none⟩:=by unfold Addr.add;split <;> simp_all
 rw [hadd,h.cellBox hi]
theorem hJ.cellF (h:hJ V E A c l) {k:Nat} {x:α} (hk:l[k]? = some x) (j:Nat) {f:α→List Value} {u:Value} (hE : ∀ V cs x,E.rep V cs x→cs=f x) (hu:(f x)[j]? = some u) :
 V.cell (((iy A).add (k * E.size)).add j)=some u:=h.cell hk fun cs hr=>by rw [hE _ _ _ hr];exact hu
theorem hJ.cellF0 (h:hJ V E A c l) {k:Nat} {x:α} (hk:l[k]? = some x) {f:α→List Value} {u:Value} (hE : ∀ V cs x,E.rep V cs x→cs=f x) (hu:(f x)[0]? = some u) :
 V.cell ((iy A).add (k * E.size))=some u:=by
 have:=h.cellF hk 0 hE hu
 rwa [iN] at this
theorem hJ.wcellF0 (h:hJ (vw w) E A c l) {k:Nat} {x:α} (hk:l[k]? = some x) {f:α→List Value} {u:Value} (hE : ∀ V cs x,E.rep V cs x→cs=f x) (hu:(f x)[0]? = some u) :
 w.cell? ((iy A).add (k * E.size))=some u:=h.cellF0 hk hE hu
theorem hJ.wcellF (h:hJ (vw w) E A c l) {k:Nat} {x:α} (hk:l[k]? = some x) (j:Nat) {f:α→List Value} {u:Value} (hE : ∀ V cs x,E.rep V cs x→cs=f x) (hu:(f x)[j]? = some u) :
 w.cell? (((iy A).add (k * E.size)).add j)=some u:=h.cellF hk j hE hu
theorem hJ.cellFG (h:hJ V E A c l) {k:Nat} {x:α} (hk:l[k]? = some x) (off j:Nat) {f:α→List Value} {u:Value} (hE : ∀ V cs x,E.rep V cs x→cs=f x) (hu:(f x)[off + j]? = some u) :
 V.cell ((((iy A).add (k * E.size)).add off).add j)=some u:=by
 rw [lU _ off j]
 exact h.cellF hk (off + j) hE hu
theorem hJ.src (h:hJ V E A c l) (hh:Hp w0 V H w) : ∃ news,iE V E news l∧mY (vw w) A news:=by
 obtain⟨_,_,xs,h1,h2⟩:=h
 exact⟨xs,h1,h2.mono hh.view⟩
theorem hJ.srcF {V' : View} (h:hJ V' E A c l) (hE : ∀ V V' cs x,E.rep V cs x→E.rep V' cs x) : ∃ news,iE V E news l∧mY V' A news:=by
 obtain⟨_,_,xs,h1,h2⟩:=h
 exact⟨xs,⟨h1.1,fun k x hk=>hE _ _ _ _ (h1.2 k x hk)⟩,h2⟩
theorem qU {b:Nat} {cs:List Value} (h : ∀ j,w.cell? ⟨b,j,none⟩=cs[j]?) : mY (vw w) (some ⟨b,0,none⟩) cs:=fun j u hu=>by
 refine⟨_,rfl,?_⟩
 have hadd:(⟨b,0,none⟩ : Addr).add j=⟨b,j,none⟩:=by unfold Addr.add;split <;> simp_all
 rw [hadd,oE,h j,hu]
theorem ri {cs:List Value} {x:α} (h:E.rep V cs x) : iE V E cs [x]:=by
 have hl:=E.len h
 refine⟨by simp [hl],fun k y hk=>?_⟩
 match k,hk with
 | 0,hk =>
  have:x=y:=by simpa using hk
  subst this
  rw [Nat.zero_mul,List.drop_zero,← hl,List.take_length]
  exact h
theorem jO {u:Value} (h:(vSc (kU E)).rep V u l) : ∃ A c,u = .slice A l.length c∧hJ V E A c l:=by
 obtain⟨A,c,h1,h2⟩:=h
 exact⟨A,c,by simpa using h1,h2⟩
theorem jz {u:Value} {x:α} (h:(vAg E).rep V u x) : ∃ cs:List Value,u = .agg cs.toArray∧E.rep V cs x:=h
theorem jc {α β:Type} {X:VEnc α} {Y:VEnc β} {u:Value} {r:α × β} (h:(vT2 X Y).rep V u r) : ∃ u1 u2,u = .tuple #[u1,u2]∧X.rep V u1 r.1∧Y.rep V u2 r.2:=h
end
theorem nk {α:Type} {E:Enc α} {V:View} {f:α→List Value} (hf : ∀ V x,E.rep V (f x) x) : ∀ l:List α,iE V E (l.flatMap f) l
 | []=>iE.nil
 | x::l=>by
  have:=iE.append (ri (hf V x)) (nk hf l)
  simpa using this
theorem iD {α:Type} {E:Enc α} {w:World} {b:Nat} {f:α→List Value} (l:List α) (hf : ∀ V x,E.rep V (f x) x) (hm:l.length≤maxLen) (h : ∀ j,w.cell? ⟨b,j,none⟩=(l.flatMap f)[j]?) :
 hJ (vw w) E (some ⟨b,0,none⟩) l.length l:=⟨Nat.le_refl _,hm,_,nk hf l,qU h⟩
def ja {α:Type} (l:List α) (lo hi:Int) : Option (List α):=if 0≤lo∧lo≤hi∧hi≤l.length then some ((l.take hi.toNat).drop lo.toNat) else none
theorem mr {α:Type} {l r:List α} {lo hi:Int} (h:ja l lo hi=some r) : 0≤lo∧lo≤hi∧hi≤l.length∧r=(l.take hi.toNat).drop lo.toNat∧r.length=hi.toNat - lo.toNat:=by
 unfold ja at h
 split at h
 · rename_i hc
   have:=f_.inj h
   refine⟨hc.1,hc.2.1,hc.2.2,this.symm,?_⟩
   rw [← this,List.length_drop,List.length_take]
   omega
 · cases h
section
variable {α:Type} {V:View} {E:Enc α} {A:Option Addr} {c:Nat} {l r:List α} {lo hi:Int}
theorem hJ.cut (h:hJ V E A c l) (hr:ja l lo hi=some r) : hJ V E (iW A c lo.toNat E.size) (c - lo.toNat) r:=by
 obtain⟨h0,h1,h2,hrl,hlen⟩:=mr hr
 obtain⟨hc,hm,xs,hrep,hlies⟩:=h
 have hxl:=hrep.1
 refine⟨by omega,by omega,((xs.take (hi.toNat * E.size)).drop (lo.toNat * E.size)),⟨?_,fun k x hk=>?_⟩,fun j u hu=>?_⟩
 · rw [List.length_drop,List.length_take,hlen,Nat.sub_mul,hxl]
   have:=o_ E.size (show hi.toNat≤l.length by omega)
   omega
 · subst hrl
   have hk' : l[lo.toNat + k]? = some x:=by
    rw [d_,a_] at hk
    split at hk
    · exact hk
    · cases hk
   have hkl:k < hi.toNat - lo.toNat:=by rw [← hlen];exact(List.getElem?_eq_some_iff.1 hk).1
   have h3:=hrep.2 _ x hk'
   refine(congrArg (fun q=>E.rep V q x) ?_).mp h3
   apply List.ext_getElem?
   intro j
   rw [a_,a_]
   split
   · rename_i hj
     rw [d_,d_,d_,a_,g_]
     have hle:(lo.toNat + k + 1) * E.size≤hi.toNat * E.size:=o_ E.size (by omega)
     rw [g_,g_,Nat.one_mul] at hle
     rw [if_pos (by omega)]
     congr 1
     omega
   · rfl
 · rw [d_,a_] at hu
   split at hu
   · rename_i hlt
     obtain⟨a,ha,hcell⟩:=hlies _ u hu
     have hne:c≠lo.toNat:=fun e=>by
      have:hi.toNat=lo.toNat:=by omega
      rw [this] at hlt
      omega
     refine⟨a.add (lo.toNat * E.size),by unfold iW;rw [if_neg hne,ha];rfl,?_⟩
     rw [lU]
     exact hcell
   · cases hu
end
section
variable {P:Program} {M:List (Nat × Value)} {o:Oper} {w:World}
theorem iP {α:Type} {t e:TypeId} {x:Operand} {lx hx:Option Operand} {A:Option Addr} {c s:Nat} {l r:List α} {lo hi:Int} {k k' : IntKind} (ho:o.op = .slice t x lx hx none)
 (hxv:evM M x = .slice A l.length c) (ht:P.underlying t=some (.slice e)) (hs:(sizeOf e).run P w = .ok s w) (hlc:l.length≤c)
 (hlo:match lx with | some y=>evM M y = .int k lo | none=>lo=0) (hhi:match hx with | some y=>evM M y = .int k' hi | none=>hi=l.length) (hr:ja l lo hi=some r) :
 (execOp (evM M) o).run P w = .ok (.value (.slice (iW A c lo.toNat s) r.length (c - lo.toNat))) w:=by
 obtain⟨h0,h1,h2,_,hlen⟩:=mr hr
 have e1:=@jv P w k' hi c .sliceAcap (by omega) (by omega)
 have e2:=@jv P w k lo hi.toNat .sliceB h0 (by omega)
 rw [hlen]
 cases lx with
 | none =>
  dsimp only at hlo
  subst hlo
  cases hx with
  | none =>
   dsimp only at hhi
   subst hhi
   simp [execOp,ho,hxv,Instr.sliceAt,run_underlying ht,Instr.slice,Instr.sliceBounds,hs,iW]
  | some y =>
   dsimp only at hhi
   simp [execOp,ho,hxv,hhi,Instr.sliceAt,run_underlying ht,Instr.slice,Instr.sliceBounds,hs,iW,e1]
 | some z =>
  dsimp only at hlo
  cases hx with
  | none =>
   dsimp only at hhi
   subst hhi
   rw [show ((l.length:Int)).toNat=l.length from Int.toNat_natCast _] at e2
   simp [execOp,ho,hxv,hlo,Instr.sliceAt,run_underlying ht,Instr.slice,Instr.sliceBounds,hs,iW,e2]
  | some y =>
   dsimp only at hhi
   simp [execOp,ho,hxv,hlo,hhi,Instr.sliceAt,run_underlying ht,Instr.slice,Instr.sliceBounds,hs,iW,e1,e2]
end
theorem kr (A:Option Addr) (c s:Nat) : iW A c 0 s=A:=by
 unfold iW
 split
 · rfl
 · cases A with
   | none=>rfl
   | some a=>simp [iN]
theorem kM {α:Type} {l r:List α} {hi:Int} (h:ja l 0 hi=some r) : r <+: l:=by
 obtain⟨_,_,_,rfl,_⟩:=mr h
 exact List.take_prefix _ _
theorem hJ.cut0 {α:Type} {V:View} {E:Enc α} {A:Option Addr} {c:Nat} {l r:List α} {hi:Int} (h:hJ V E A c l) (hr:ja l 0 hi=some r) : hJ V E A c r:=by
 have:=h.cut hr
 rwa [show (0:Int).toNat=0 from rfl,kr,Nat.sub_zero] at this
section
variable {P:Program} {M:List (Nat × Value)} {o:Oper} {w:World}
theorem ll {α:Type} {t e:TypeId} {x:Operand} {lx hx:Option Operand} {A:Option Addr} {c s:Nat} {l r:List α} {hi:Int} {k k' : IntKind} (ho:o.op = .slice t x lx hx none)
 (hxv:evM M x = .slice A l.length c) (ht:P.underlying t=some (.slice e)) (hs:(sizeOf e).run P w = .ok s w) (hlc:l.length≤c)
 (hlo:match lx with | some y=>evM M y = .int k 0 | none=>(0:Int)=0) (hhi:match hx with | some y=>evM M y = .int k' hi | none=>hi=l.length) (hr:ja l 0 hi=some r) :
 (execOp (evM M) o).run P w = .ok (.value (.slice A r.length c)) w:=by
 have:(execOp (evM M) o).run P w = .ok (.value (.slice (iW A c (0:Int).toNat s) r.length (c - (0:Int).toNat))) w:=by
  cases lx with
  | none=>cases hx with
   | none=>exact iP (k:=k) (k':=k') (lx:=none) (hx:=none) ho hxv ht hs hlc rfl hhi hr
   | some y=>exact iP (k:=k) (k':=k') (lx:=none) (hx:=some y) ho hxv ht hs hlc rfl hhi hr
  | some z=>cases hx with
   | none=>exact iP (k:=k) (k':=k') (lx:=some z) (hx:=none) ho hxv ht hs hlc hlo hhi hr
   | some y=>exact iP (k:=k) (k':=k') (lx:=some z) (hx:=some y) ho hxv ht hs hlc hlo hhi hr
 rwa [show (0:Int).toNat=0 from rfl,kr,Nat.sub_zero] at this
theorem lq {α:Type} {l r:List α} {lo hi:Int} (h:ja l lo hi=some r) : lo.toNat + r.length≤l.length:=by
 obtain⟨h0,h1,h2,_,h4⟩:=mr h
 omega
end
inductive OldAll:List HObj→Prop
 | nil:OldAll []
 | box {b:Nat} {t:TypeId} {cs:List Value} {H:List HObj} : OldAll H→OldAll (box b t cs::H)
 | row {α:Type} {p:Bool} {t:TypeId} {E:Enc α} {A:Option Addr} {c:Nat} {l:List α} {H:List HObj} : (∀ V V' cs x,E.rep V cs x→E.rep V' cs x)→OldAll H→OldAll (kj p t E A c l::H)
theorem OldAll.ok : ∀ {H:List HObj},OldAll H→∀ x∈H,∀ V V' w,x.ok V w→x.ok V' w
 | _,.nil=>fun _ hx=>by cases hx
 | _,.box h=>fun x hx V V' w hk=>by
  rcases i_.1 hx with rfl | hx
  · exact hk
  · exact h.ok x hx V V' w hk
 | _,.row hE h=>fun x hx V V' w hk=>by
  rcases i_.1 hx with rfl | hx
  · obtain⟨h1,h2,h3⟩:=hk
    exact⟨h1,h2,h3.imp id fun ⟨g,cur,fz,xs,h⟩=>⟨g,cur,fz,xs,{ h with rep:=⟨h.rep.1,fun k x hx=>hE V V' _ _ (h.rep.2 k x hx)⟩ }⟩⟩
  · exact h.ok x hx V V' w hk
theorem Hp.old {w0:World} {V V0:View} {H H0:List HObj} (hv:View.le V0 V) (hb:View.le (vw w0) V0) (hs:H0.Sublist H) (ho:OldAll H0) : ∀ w,Hp w0 V H w→Hp w0 V0 H0 w :=
 fun _ h=>Hp.older hv hb hs (fun x hx w hk=>ho.ok x hx V V0 w hk) h
theorem Hp.perm {w0 w:World} {V:View} {H H' : List HObj} (h:Hp w0 V H w) (hp:H.Perm H') : Hp w0 V H' w :=
 ⟨h.os,h.tape,h.output,h.size,h.view,h.base,fun x hx=>h.objs x (hp.mem_iff.2 hx),fun x hx=>h.apart x (hp.mem_iff.2 hx),
  (hp.pairwise_iff (fun hxy b hy hx=>hxy b hx hy)).1 h.sep⟩
section
variable {P:Program} {N:Sz} {w0:World} {V V0:View} {H H0:List HObj} {M:List (Nat × Value)} {ops:Array Oper} {Q:Exit→Act→World→Prop} {fuel:Nat} {listed:Array Bool}
def TB (P:Program) (Q:Exit→Act→World→Prop) (ops:Array Oper) (N:Sz) (w0:World) (V V0:View) (H H0:List HObj) (M:List (Nat × Value)) (fuel:Nat) (listed:Array Bool) (i:Nat) : Prop :=
 ∀ o,ops[i]? = some o→W1 P Q ops o N w0 V H M (fun a' w'=>Hp w0 V0 H0 w'∧wpAnyH P .any ops Q (Hp w0 V0 H0) fuel (listed.setIfInBounds i true) a' w')
def TBs (φ:Nat→Prop) : List Nat→Prop
 | []=>True
 | i::l=>φ i∧TBs φ l
theorem TBs.get {φ:Nat→Prop} : ∀ {l:List Nat},TBs φ l→∀ i∈l,φ i
 | _::_,h,i,hi=>by
  rcases i_.1 hi with rfl | hi
  · exact h.1
  · exact TBs.get h.2 i hi
theorem TA.pD (rs:List Nat) (hr:Region.ready .any ops listed=rs) (hne:rs.isEmpty=false) (h:TBs (TB P Q ops N w0 V V0 H H0 M fuel listed) rs) :
 T N w0 V H M (wpAnyH P .any ops Q (Hp w0 V0 H0) (fuel + 1) listed):=fun a w hf hh=>by
 refine wpAnyH_all hr (fun e=>by rw [e] at hne;cases hne) (fun i hi=>?_)
 have hlt:i < ops.size:=by
  rw [← hr] at hi
  have h1:=(List.mem_filter.1 hi).1
  simpa using h1
 obtain⟨h1,h2⟩:=h.get i hi ops[i] (j_ hlt) a w hf hh
 unfold wpOp
 simp only [j_ hlt]
 rw [if_pos h1]
 exact .inl h2
theorem TA.br {i:Nat} {o:Oper} (ho:ops[i]? = some o)
 (h:W1 P Q ops o N w0 V H M (fun a' w'=>Hp w0 V0 H0 w'∧wpAnyH P .any ops Q (Hp w0 V0 H0) fuel (listed.setIfInBounds i true) a' w')) : TB P Q ops N w0 V V0 H H0 M fuel listed i:=fun o' ho'=>by
 obtain rfl:=f_.inj (ho.symm.trans ho')
 exact h
theorem TA.on {V' : View} {H' : List HObj} {M' : List (Nat × Value)} {ψ:Act→World→Prop} (hS : ∀ w,Hp w0 V' H' w→Hp w0 V0 H0 w) (h:T N w0 V' H' M' ψ) : T N w0 V' H' M' (fun a w=>Hp w0 V0 H0 w∧ψ a w) :=
 fun a w hf hh=>⟨hS w hh,h a w hf hh⟩
end
theorem pT {β:Type _} : ∀(l:List β) (i:Nat) (x:β),l[i]? = some x→(x::l.eraseIdx i).Perm l
 | [],_,_,h=>by simp at h
 | y::l,0,x,h=>by
  obtain rfl:y=x:=by simpa using h
  exact List.Perm.refl _
 | y::l,i + 1,x,h=>by
  have:=pT l i x (by simpa using h)
  exact(List.Perm.swap y x _).trans (this.cons y)
section
variable {α:Type} {N:Sz} {w0:World} {V:View} {H H' : List HObj} {M:List (Nat × Value)} {φ:Act→World→Prop} {p:Bool} {e:TypeId} {E:Enc α} {A:Option Addr} {c:Nat} {l:List α}
theorem Hp.freeze {w:World} (h:Hp w0 V H w) (i:Nat) (hi:nth H i=some (kj p e E A c l)) (hH:H.eraseIdx i=H') :
 ∃ V',View.le V V'∧Hp w0 V' H' w∧hJ V' E A c l∧((∀ V V' cs x,E.rep V cs x→E.rep V' cs x)→hJ (made w0 V') E A c l):=by
 rw [ju] at hi
 have hp:(kj p e E A c l::H').Perm H:=by
  rw [← hH];exact pT _ _ _ hi
 have hh:=h.perm hp.symm
 have hsep:=List.pairwise_cons.1 hh.sep
 obtain⟨h1,h2,h3⟩:=hh.objs _ (List.mem_cons_self)
 have htail:Hp w0 V H' w:=hh.sub (List.sublist_cons_self _ _)
 by_cases hc:c=0
 · have hl:l=[]:=List.eq_nil_of_length_eq_zero (by omega)
   subst hl
   exact⟨V,View.le_refl _,htail,⟨h1,h2,[],iE.nil,fun j u hu=>by simp at hu⟩,fun _=>⟨h1,h2,[],iE.nil,fun j u hu=>by simp at hu⟩⟩
 · rcases h3 with h3 | ⟨g,cur,fz,xs,h3⟩
   · exact absurd h3 hc
   have hblk:(kj p e E A c l).own g:=by show i8 A c=some g;unfold i8;rw [if_neg hc,h3.adr];rfl
   have hVg:V g=none:=hh.apart _ (List.mem_cons_self) g hblk
   have hle:View.le V (fun b=>if b=g then w.heap[g]? else V b):=fun b o hb=>by
    have:b≠g:=fun e=>by rw [e,hVg] at hb;cases hb
    simp only [if_neg this];exact hb
   have hnew : ¬ g < w0.heap.size:=fun hlt=>by
    have hw:(vw w0) g=some w0.heap[g]:=j_ hlt
    rw [h.base g _ hw] at hVg
    cases hVg
   have hlies : ∀ V' : View,V' g=w.heap[g]?→mY V' A xs:=fun V' hV j u hu=>by
    obtain⟨a,ha,hcell⟩:=h3.cells j u hu
    refine⟨a,ha,?_⟩
    have hag:a=⟨g,0,none⟩:=f_.inj (ha.symm.trans h3.adr)
    subst hag
    have e1:((⟨g,0,none⟩ : Addr).add j).block=g:=lG _ _
    unfold View.cell
    rw [e1,hV]
    rw [oE,World.cell?,e1] at hcell
    exact hcell
   refine⟨fun b=>if b=g then w.heap[g]? else V b,hle,⟨htail.os,htail.tape,htail.output,htail.size,fun b o hb=>?_,View.le_trans h.base hle,fun x hx=>x.mono V _ w hle (htail.objs x hx),fun x hx b hxb=>?_,htail.sep⟩,⟨h1,h2,xs,h3.rep.mono hle,hlies _ (by simp)⟩,fun hflat=>⟨h1,h2,xs,⟨h3.rep.1,fun k x hk=>hflat _ _ _ _ (h3.rep.2 k x hk)⟩,hlies _ ?_⟩⟩
   · by_cases hbg:b=g
     · subst hbg
       simp only [if_pos] at hb
       exact hb
     · simp only [if_neg hbg] at hb
       exact htail.view b o hb
   · have hbg:b≠g:=fun e=>hsep.1 x hx g hblk (by rw [← e];exact hxb)
     simp only [if_neg hbg]
     exact htail.apart x hx b hxb
   · unfold made
     rw [if_neg hnew];simp
theorem T.jY (i:Nat) (hi:nth H i=some (kj p e E A c l)) (hH:H.eraseIdx i=H') (hflat : ∀ V V' cs x,E.rep V cs x→E.rep V' cs x) (h : ∀ V',View.le V V'→hJ (made w0 V') E A c l→T N w0 V' H' M φ) : T N w0 V H M φ:=fun a w hf hh=>by
 obtain⟨V',h1,h2,_,h4⟩:=hh.freeze i hi hH
 exact h V' h1 (h4 hflat) a w hf h2
end
section
variable {α:Type} {N:Sz} {w0:World} {V:View} {H H' : List HObj} {M:List (Nat × Value)} {φ:Act→World→Prop} {p:Bool} {e:TypeId} {E:Enc α} {A:Option Addr} {c:Nat} {l l0:List α}
theorem T.lS (i:Nat) (hi:nth H i=some (kj p e E A c l0)) (hp:l <+: l0) (h:T N w0 V (H.set i (kj p e E A c l)) M φ) : T N w0 V H M φ:=fun a w hf hh=>by
 refine h a w hf ?_
 rw [ju] at hi
 exact hh.turn (o:=none) hi ⟨rfl,rfl,rfl,Nat.le_refl _,fun _ _ _=>rfl⟩ (ph (hh.objs _ (List.mem_of_getElem? hi)) hp) (fun b hb=>.inl hb) (fun b e=>by cases e)
end
section
variable {P:Program} {N:Sz} {N' : Nat} {w0:World} {V:View} {H:List HObj} {M:List (Nat × Value)} {ops:Array Oper} {Q:Exit→Act→World→Prop} {o:Oper} {K:Act→World→Prop} {fn:Func} {c:Code}
theorem W1.iq (f:FuncId) (l:List Value) (I:Value→World→Prop) (hfn:P.funcs[f]? = some fn) (hb:fn.body=some c) (hN:fn.ntmps=N') (hc:okO N ops M o=true)
 (hv : ∀ w,(execOp (evM M) o).run P w = .ok (.enter f l.toArray) w) (hn:Nat.ble l.length N' = true)
 (h:T ⟨N',[]⟩ w0 V H (qN 0 l) (c.wpIn (RF none) 0 P (bodyPost P fn (fun e w'=>∃ v,e = .returned v∧I v w'))))
 (k : ∀ v w',I v w'→∃ V' H',Hp w0 V' H' w'∧T N w0 V' H' (jh o.dst v M) K) : W1 P Q ops o N w0 V H M K :=
 W1.si f l.toArray (qN 0 l) hfn hb hN hc hv (by simpa using Nat.le_of_ble_eq_true hn) (fun t v hv=>by simpa using (oz l 0 t v hv).2)
  (fun a w hf hh=>Code.wpIn_mono (fun e a w hq=>by
   have kk : ∀ e w,(∃ v,e=Ending.returned v∧I v w)→∃ v,e=Ending.returned v∧∀ a,Fr N (jh o.dst v M) a→K a w:=fun e w ⟨v,hv,hI⟩=>⟨v,hv,fun a hfr=>by obtain ⟨V',H',hh',ht⟩:=k v w hI;exact ht a w hfr hh'⟩
   cases e with
   | ret=>exact ⟨hq.1,hq.2.imp fun v hv=>⟨hv.1,kk _ _ hv.2⟩⟩
   | normal=>exact ⟨hq.1,hq.2.imp fun v hv=>⟨hv.1,kk _ _ hv.2⟩⟩
   | panic ch=>exact ⟨hq.1,kk _ _ hq.2⟩
   | outgrown=>exact kk _ _ hq
   | _=>exact hq) (h a w hf hh))
end
theorem tQ (x y:ByteArray) : seq x y=true↔x=y:=by
 unfold seq
 rw [beq_iff_eq,ByteArray.toList_eq,ByteArray.toList_eq]
 obtain⟨⟨x⟩⟩:=x
 obtain⟨⟨y⟩⟩:=y
 simp
theorem om (x y:DKey) : (x == y)=(x.pfs == y.pfs && (x.obj == y.obj && x.off == y.off)):=by
 obtain⟨a,b,c⟩:=x;obtain⟨a',b',c'⟩:=y
 rw [l_];simp [DKey.mk.injEq]
theorem sk (x y:DSpot) : (x == y)=(x.key == y.key && x.made == y.made):=by
 obtain⟨a,b⟩:=x;obtain⟨a',b'⟩:=y
 rw [l_];simp [DSpot.mk.injEq]
theorem sj (x y:DElem) : (x == y)=(x.key == y.key && (x.made == y.made && (x.gone == y.gone && seq x.val y.val))):=by
 obtain⟨a,b,c,d⟩:=x;obtain⟨a',b',c',d'⟩:=y
 rw [l_];simp [DElem.mk.injEq,tQ]
end Go.Proofs.YtaoocidchclpnaaGreat
