/- The data of the program as plain Lean structures, and how they lie in memory. Its conditions: none. -/
import Derived.Test.YtnofgfobljadbaaGreatRowO
import Derived.OwnWalk
import Derived.Laws.StructEq
import Derived.Lib.Bytealg
import Derived.Laws.Externs
import Derived.MapKept
open Option renaming some→a_
open List renaming getElem?_take→d_, getElem?_drop→g_, mem_of_getElem?→i_, length_replicate→j_, eq_nil_of_length_eq_zero→l_, replicate→p_, mem_cons→t_, mem_cons_self→v_, drop_zero→z_, take_of_length_le→C_, getElem?_eq_some_iff→E_, mem_cons_of_mem→G_
open Nat renaming le_refl→f_, zero_mul→q_, mul_one→y_, add_mul→B_, mul_le_mul_right→D_, le_of_ble_eq_true→F_
open Array renaming getElem?_eq_getElem→u_
open Bool renaming eq_iff_iff→x_
namespace Go.Proofs.YtnofgfobljadbaaGreat
set_option linter.unusedSimpArgs false
set_option linter.unusedVariables false
structure DKey where
 pfs:Int
 obj:Int
 off:Int
 deriving DecidableEq
structure DSpot where
 key:DKey
 made:Int
 deriving DecidableEq
structure DElem where
 key:DKey
 made:Int
 gone:Int
 val:ByteArray
 deriving DecidableEq
structure DFrame where
 kind:Int
 body:ByteArray
 deriving DecidableEq
structure DWrite where
 page:Int
 text:ByteArray
 deriving DecidableEq
structure DSnap where
 name:ByteArray
 tid:Int
 deriving DecidableEq
structure DChange where
 key:DKey
 had:Bool
 has:Bool
 was:ByteArray
 is_:ByteArray
 deriving DecidableEq
structure DNode where
 kind:Int
 elems:List DElem
 kids:List Int
 seps:List DSpot
 tids:List Int
 deriving DecidableEq
theorem jf {l:List Value} (h:l.all Value.oneCell'=true):∀u∈l,u.oneCell'=true:=List.all_eq_true.1 h
def DKey.cells (x:DKey):List Value:=[.int .i64 x.pfs,.int .i64 x.obj,.int .i64 x.off]
def wa:Enc DKey:=mq 3 DKey.cells (λ_=>rfl) (λ_=>jf rfl)
def DSpot.cells (x:DSpot):List Value:=[.int .i64 x.key.pfs,.int .i64 x.key.obj,.int .i64 x.key.off,.int .i64 x.made]
def eSpot:Enc DSpot:=mq 4 DSpot.cells (λ_=>rfl) (λ_=>jf rfl)
def DElem.cells (x:DElem):List Value:=[.int .i64 x.key.pfs,.int .i64 x.key.obj,.int .i64 x.key.off,.int .i64 x.made,.int .i64 x.gone,.string x.val]
def eElem:Enc DElem:=mq 6 DElem.cells (λ_=>rfl) (λ_=>jf rfl)
def DFrame.cells (x:DFrame):List Value:=[.int .i64 x.kind,.string x.body]
def qc:Enc DFrame:=mq 2 DFrame.cells (λ_=>rfl) (λ_=>jf rfl)
def DWrite.cells (x:DWrite):List Value:=[.int .i64 x.page,.string x.text]
def eWrite:Enc DWrite:=mq 2 DWrite.cells (λ_=>rfl) (λ_=>jf rfl)
def DSnap.cells (x:DSnap):List Value:=[.string x.name,.int .i64 x.tid]
def DChange.cells (x:DChange):List Value:=[.int .i64 x.key.pfs,.int .i64 x.key.obj,.int .i64 x.key.off,.bool x.had,.bool x.has,.string x.was,.string x.is_]
theorem jk:jS (vAg eSpot) (λx=>.agg (DSpot.cells x).toArray):=jS.flatN
theorem nB:jS (vAg eElem) (λx=>.agg (DElem.cells x).toArray):=jS.flatN
theorem pf:jS (vAg qc) (λx=>.agg (DFrame.cells x).toArray):=jS.flatN
def iy:Enc DNode where
 size:=5
 rep:=λV cs x=>∃(A1:Option Addr) (c1:Nat) (A2:Option Addr) (c2:Nat) (A3:Option Addr) (c3:Nat) (A4:Option Addr) (c4:Nat),
  cs=[.int .i64 x.kind,.slice A1 x.elems.length c1,.slice A2 x.kids.length c2,.slice A3 x.seps.length c3,.slice A4 x.tids.length c4] /\
   fI V eElem A1 c1 x.elems/\fI V gi A2 c2 x.kids/\fI V eSpot A3 c3 x.seps/\fI V gi A4 c4 x.tids
 mono:=λhv ⟨A1,c1,A2,c2,A3,c3,A4,c4,h,h1,h2,h3,h4⟩=>⟨A1,c1,A2,c2,A3,c3,A4,c4,h,h1.mono hv,h2.mono hv,h3.mono hv,h4.mono hv⟩
 len:=λ⟨_,_,_,_,_,_,_,_,h,_⟩=>by rw[h];rfl
 one:=λ⟨_,_,_,_,_,_,_,_,h,_⟩=>by rw[h];exact jf rfl
structure DTree where
 root:Int
 nodes:List DNode
 deriving DecidableEq
structure DDisk where
 pages:List ByteArray
 writes:List DWrite
 deriving DecidableEq
def nU:Enc DTree where
 size:=2
 rep:=λV cs x=>∃(A1:Option Addr) (c1:Nat),
  cs=[.int .i64 x.root,.slice A1 x.nodes.length c1]/\fI V iy A1 c1 x.nodes
 mono:=λhv ⟨A1,c1,h,h1⟩=>⟨A1,c1,h,h1.mono hv⟩
 len:=λ⟨_,_,h,_⟩=>by rw[h];rfl
 one:=λ⟨_,_,h,_⟩=>by rw[h];exact jf rfl
structure DA16 where
 x0:Int
 x1:Int
 x2:Int
 x3:Int
 x4:Int
 x5:Int
 x6:Int
 x7:Int
 x8:Int
 x9:Int
 x10:Int
 x11:Int
 x12:Int
 x13:Int
 x14:Int
 x15:Int
 deriving DecidableEq
def DA16.list (a:DA16):List Int:=[a.x0,a.x1,a.x2,a.x3,a.x4,a.x5,a.x6,a.x7,a.x8,a.x9,a.x10,a.x11,a.x12,a.x13,a.x14,a.x15]
def DA16.of (l:List Int):DA16:=⟨l.getD 0 0,l.getD 1 0,l.getD 2 0,l.getD 3 0,l.getD 4 0,l.getD 5 0,l.getD 6 0,l.getD 7 0,l.getD 8 0,l.getD 9 0,l.getD 10 0,l.getD 11 0,l.getD 12 0,l.getD 13 0,l.getD 14 0,l.getD 15 0⟩
def DA16.set (a:DA16) (k:Nat) (v:Int):DA16:=DA16.of (a.list.set k v)
def DA16.cells (a:DA16):List Value:=[.int .i64 a.x0,.int .i64 a.x1,.int .i64 a.x2,.int .i64 a.x3,.int .i64 a.x4,.int .i64 a.x5,.int .i64 a.x6,.int .i64 a.x7,.int .i64 a.x8,.int .i64 a.x9,.int .i64 a.x10,.int .i64 a.x11,.int .i64 a.x12,.int .i64 a.x13,.int .i64 a.x14,.int .i64 a.x15]
section
open Go.RowKit
def rK (n:Int):Option Int:=if n=0 then none else some n
theorem sK {n k:Int} (h:rK n=some k):n≠0/\n=k:=by
 unfold rK at h;split at h
 . cases h
 . exact⟨by assumption,a_.inj h⟩
def slt (x y:ByteArray):Bool:=Op.bytesLess x.toList y.toList
def grow {α:Type} (bytes:Nat) (l m:List α):Option (List α):=if (l.length + m.length) * bytes<=140737488355328/\l.length + m.length<=maxLen then some (l++m) else none
theorem hO {α:Type} {bytes:Nat} {l m r:List α} (h:grow bytes l m=some r):mY (l.length + m.length) bytes=true/\l.length + m.length<=maxLen/\l++m=r:=by
 unfold grow at h;split at h
 . rename_i hc;exact⟨decide_eq_true hc.1,hc.2,a_.inj h⟩
 . cases h
section
variable {P:Program} {M:List (Nat×Value)} {o:Oper} {w:World}
theorem rv {t t':TypeId} {x y:Operand} {k:IntKind} {a b d:Int} (ho:o.op=.binOp .quo t x y t') (hx:evM M x=.int k a) (hy:evM M y=.int k b) (hn:rK b=some d) :
 (execOp (evM M) o).run P w=.ok (.value (.int k (k.wrap (a.tdiv d)))) w:=by
 obtain⟨h0,rfl⟩:=sK hn;simp[execOp,ho,hx,hy,eqGuard,binOp,Op.intDiv,h0]
end
section
variable {P:Program} {M:List (Nat×Value)} {o:Oper} {w:World}
end
theorem um {cs seg:List Value} {off n:Nat} {j:Nat} {u:Value} (h:(cs.drop off).take n=seg) (hj:seg[j]? = some u):cs[off + j]? = some u:=by
 rw[<-h,d_] at hj;split at hj
 . rw[g_] at hj;exact hj
 . cases hj
theorem uM {cs seg:List Value} {n:Nat} {j:Nat} {u:Value} (h:cs.take n=seg) (hj:seg[j]? = some u):cs[j]? = some u:=by
 rw[<-h,d_] at hj;split at hj
 . exact hj
 . cases hj
section
variable {α:Type} {w0 w:World} {V:View} {H:List HObj} {E:Enc α} {A:Option Addr} {c:Nat} {l:List α}
theorem Hp.cellBox (h:Hp w0 V H w) {i b:Nat} {t:TypeId} {cs:List Value} (hi:nth H i=some (box b t cs)) (j:Nat):w.cell? ⟨b,j,none⟩=cs[j]?:=h.cell_box (by rw[<-i9];exact hi) j
theorem Hp.box_at (h:Hp w0 V H w) {i b:Nat} {t:TypeId} {cs:List Value} (hi:nth H i=some (box b t cs)) (off j:Nat):w.cell? ((⟨b,off,none⟩:Addr).add j)=cs[off + j]?:=by
 have hadd:(⟨b,off,none⟩:Addr).add j=⟨b,off + j,none⟩:=by unfold Addr.add;split <;> simp_all
 rw[hadd,h.cellBox hi]
theorem fI.cellF (h:fI V E A c l) {k:Nat} {x:α} (hk:l[k]? = some x) (j:Nat) {f:α->List Value} {u:Value} (hE:∀V cs x,E.rep V cs x->cs=f x) (hu:(f x)[j]? = some u) :
 V.cell (((ij A).add (k * E.size)).add j)=some u:=h.cell hk λcs hr=>by rw[hE _ _ _ hr];exact hu
theorem fI.cellF0 (h:fI V E A c l) {k:Nat} {x:α} (hk:l[k]? = some x) {f:α->List Value} {u:Value} (hE:∀V cs x,E.rep V cs x->cs=f x) (hu:(f x)[0]? = some u) :
 V.cell ((ij A).add (k * E.size))=some u:=by
 have:=h.cellF hk 0 hE hu;rwa[iI] at this
theorem fI.wcellF0 (h:fI (vw w) E A c l) {k:Nat} {x:α} (hk:l[k]? = some x) {f:α->List Value} {u:Value} (hE:∀V cs x,E.rep V cs x->cs=f x) (hu:(f x)[0]? = some u) :
 w.cell? ((ij A).add (k * E.size))=some u:=h.cellF0 hk hE hu
theorem fI.wcellF (h:fI (vw w) E A c l) {k:Nat} {x:α} (hk:l[k]? = some x) (j:Nat) {f:α->List Value} {u:Value} (hE:∀V cs x,E.rep V cs x->cs=f x) (hu:(f x)[j]? = some u) :
 w.cell? (((ij A).add (k * E.size)).add j)=some u:=h.cellF hk j hE hu
theorem fI.cellFG (h:fI V E A c l) {k:Nat} {x:α} (hk:l[k]? = some x) (off j:Nat) {f:α->List Value} {u:Value} (hE:∀V cs x,E.rep V cs x->cs=f x) (hu:(f x)[off + j]? = some u) :
 V.cell ((((ij A).add (k * E.size)).add off).add j)=some u:=by
 rw[lY _ off j];exact h.cellF hk (off + j) hE hu
theorem fI.src (h:fI V E A c l) (hh:Hp w0 V H w):∃news,io V E news l/\m5 (vw w) A news:=by obtain⟨_,_,xs,h1,h2⟩:=h;exact⟨xs,h1,h2.mono hh.view⟩
theorem fI.srcF {V':View} (h:fI V' E A c l) (hE:∀V V' cs x,E.rep V cs x->E.rep V' cs x):∃news,io V E news l/\m5 V' A news:=by obtain⟨_,_,xs,h1,h2⟩:=h;exact⟨xs,⟨h1.1,λk x hk=>hE _ _ _ _ (h1.2 k x hk)⟩,h2⟩
theorem rx {b:Nat} {cs:List Value} (h:∀j,w.cell? ⟨b,j,none⟩=cs[j]?):m5 (vw w) (some ⟨b,0,none⟩) cs:=λj u hu=>by
 refine⟨_,rfl,?_⟩;have hadd:(⟨b,0,none⟩:Addr).add j=⟨b,j,none⟩:=by unfold Addr.add;split <;> simp_all
 rw[hadd,oO,h j,hu]
theorem rI {cs:List Value} {x:α} (h:E.rep V cs x):io V E cs [x]:=by
 have hl:=E.len h;refine⟨by simp[hl],λk y hk=>?_⟩
 match k,hk with
 |0,hk =>
  have:x=y:=by simpa using hk
  subst this;rw[q_,z_,<-hl,List.take_length];exact h
theorem om {u:Value} (h:(vSc (qF E)).rep V u l):∃A c,u=.slice A l.length c/\fI V E A c l:=by obtain⟨A,c,h1,h2⟩:=h;exact⟨A,c,by simpa using h1,h2⟩
theorem lu {u:Value} {x:α} (h:(vAg E).rep V u x):∃cs:List Value,u=.agg cs.toArray/\E.rep V cs x:=h
theorem ml {α β:Type} {X:VEnc α} {Y:VEnc β} {u:Value} {r:α×β} (h:(vT2 X Y).rep V u r):∃u1 u2,u=.tuple #[u1,u2]/\X.rep V u1 r.1/\Y.rep V u2 r.2:=h
end
theorem nr {α:Type} {E:Enc α} {V:View} {f:α->List Value} (hf:∀V x,E.rep V (f x) x):∀l:List α,io V E (l.flatMap f) l
 |[]=>io.nil
 |x::l=>by have:=io.append (rI (hf V x)) (nr hf l);simpa using this
theorem iw {α:Type} {E:Enc α} {w:World} {b:Nat} {f:α->List Value} (l:List α) (hf:∀V x,E.rep V (f x) x) (hm:l.length<=maxLen) (h:∀j,w.cell? ⟨b,j,none⟩=(l.flatMap f)[j]?) :
 fI (vw w) E (some ⟨b,0,none⟩) l.length l:=⟨f_ _,hm,_,nr hf l,rx h⟩
def iT {α:Type} (l:List α) (lo hi:Int):Option (List α):=if 0<=lo/\lo<=hi/\hi<=l.length then some ((l.take hi.toNat).drop lo.toNat) else none
theorem mv {α:Type} {l r:List α} {lo hi:Int} (h:iT l lo hi=some r):0<=lo/\lo<=hi/\hi<=l.length/\r=(l.take hi.toNat).drop lo.toNat/\r.length=hi.toNat - lo.toNat:=by
 unfold iT at h;split at h
 . rename_i hc;have:=a_.inj h;refine⟨hc.1,hc.2.1,hc.2.2,this.symm,?_⟩;rw[<-this,List.length_drop,List.length_take];omega
 . cases h
section
variable {α:Type} {V:View} {E:Enc α} {A:Option Addr} {c:Nat} {l r:List α} {lo hi:Int}
theorem fI.cut (h:fI V E A c l) (hr:iT l lo hi=some r):fI V E (iN A c lo.toNat E.size) (c - lo.toNat) r:=by
 obtain⟨h0,h1,h2,hrl,hlen⟩:=mv hr;obtain⟨hc,hm,xs,hrep,hlies⟩:=h;have hxl:=hrep.1;refine⟨by omega,by omega,((xs.take (hi.toNat * E.size)).drop (lo.toNat * E.size)),⟨?_,λk x hk=>?_⟩,λj u hu=>?_⟩
 . rw[List.length_drop,List.length_take,hlen,Nat.sub_mul,hxl];have:=D_ E.size (show hi.toNat<=l.length by omega);omega
 . subst hrl
   have hk':l[lo.toNat + k]? = some x:=by
    rw[g_,d_] at hk;split at hk
    . exact hk
    . cases hk
   have hkl:k<hi.toNat - lo.toNat:=(by rw[<-hlen];exact(E_.1 hk).1);have h3:=hrep.2 _ x hk';refine(congrArg (λq=>E.rep V q x) ?_).mp h3;apply List.ext_getElem?;intro j;rw[d_,d_];split
   . rename_i hj;rw[g_,g_,g_,d_,B_];have hle:(lo.toNat + k + 1) * E.size<=hi.toNat * E.size:=D_ E.size o_;rw[B_,B_,Nat.one_mul] at hle;rw[if_pos o_];congr 1;omega
   . rfl
 . rw[g_,d_] at hu;split at hu
   . rename_i hlt;obtain⟨a,ha,hcell⟩:=hlies _ u hu;have hne:c≠lo.toNat:=λe=>by have:hi.toNat=lo.toNat:=o_;rw[this] at hlt;omega
     refine⟨a.add (lo.toNat * E.size),by unfold iN;rw[if_neg hne,ha];rfl,?_⟩;rw[lY];exact hcell
   . cases hu
end
section
variable {P:Program} {M:List (Nat×Value)} {o:Oper} {w:World}
theorem iX {α:Type} {t e:TypeId} {x:Operand} {lx hx:Option Operand} {A:Option Addr} {c s:Nat} {l r:List α} {lo hi:Int} {k k':IntKind} (ho:o.op=.slice t x lx hx none)
 (hxv:evM M x=.slice A l.length c) (ht:P.underlying t=some (.slice e)) (hs:(sizeOf e).run P w=.ok s w) (hlc:l.length<=c)
 (hlo:match lx with|some y=>evM M y=.int k lo|none=>lo=0) (hhi:match hx with|some y=>evM M y=.int k' hi|none=>hi=l.length) (hr:iT l lo hi=some r) :
 (execOp (evM M) o).run P w=.ok (.value (.slice (iN A c lo.toNat s) r.length (c - lo.toNat))) w:=by
 obtain⟨h0,h1,h2,_,hlen⟩:=mv hr;have e1:=@jj P w k' hi c .sliceAcap o_ o_;have e2:=@jj P w k lo hi.toNat .sliceB h0 o_;rw[hlen]
 cases lx with
 |none =>
  dsimp only at hlo;subst hlo
  cases hx with
  |none=>dsimp only at hhi;subst hhi;simp[execOp,ho,hxv,Instr.sliceAt,run_underlying ht,Instr.slice,Instr.sliceBounds,hs,iN]
  |some y=>dsimp only at hhi;simp[execOp,ho,hxv,hhi,Instr.sliceAt,run_underlying ht,Instr.slice,Instr.sliceBounds,hs,iN,e1]
 |some z =>
  dsimp only at hlo
  cases hx with
  |none=>dsimp only at hhi;subst hhi;rw[show ((l.length:Int)).toNat=l.length from Int.toNat_natCast _] at e2;simp[execOp,ho,hxv,hlo,Instr.sliceAt,run_underlying ht,Instr.slice,Instr.sliceBounds,hs,iN,e2]
  |some y=>dsimp only at hhi;simp[execOp,ho,hxv,hlo,hhi,Instr.sliceAt,run_underlying ht,Instr.slice,Instr.sliceBounds,hs,iN,e1,e2]
end
theorem jN (A:Option Addr) (c s:Nat):iN A c 0 s=A:=by
 unfold iN;split
 . rfl
 . cases A with
   |none=>rfl
   |some a=>simp[iI]
theorem kN {α:Type} {l r:List α} {hi:Int} (h:iT l 0 hi=some r):r <+: l:=by obtain⟨_,_,_,rfl,_⟩:=mv h;exact List.take_prefix _ _
theorem fI.cut0 {α:Type} {V:View} {E:Enc α} {A:Option Addr} {c:Nat} {l r:List α} {hi:Int} (h:fI V E A c l) (hr:iT l 0 hi=some r):fI V E A c r:=by have:=h.cut hr;rwa[show (0:Int).toNat=0 from rfl,jN,Nat.sub_zero] at this
section
variable {P:Program} {M:List (Nat×Value)} {o:Oper} {w:World}
theorem ll {α:Type} {t e:TypeId} {x:Operand} {lx hx:Option Operand} {A:Option Addr} {c s:Nat} {l r:List α} {hi:Int} {k k':IntKind} (ho:o.op=.slice t x lx hx none)
 (hxv:evM M x=.slice A l.length c) (ht:P.underlying t=some (.slice e)) (hs:(sizeOf e).run P w=.ok s w) (hlc:l.length<=c)
 (hlo:match lx with|some y=>evM M y=.int k 0|none=>(0:Int)=0) (hhi:match hx with|some y=>evM M y=.int k' hi|none=>hi=l.length) (hr:iT l 0 hi=some r) :
 (execOp (evM M) o).run P w=.ok (.value (.slice A r.length c)) w:=by
 have:(execOp (evM M) o).run P w=.ok (.value (.slice (iN A c (0:Int).toNat s) r.length (c - (0:Int).toNat))) w:=by
  cases lx with
  |none=>cases hx with
   |none=>exact iX (k:=k) (k':=k') (lx:=none) (hx:=none) ho hxv ht hs hlc rfl hhi hr
   |some y=>exact iX (k:=k) (k':=k') (lx:=none) (hx:=some y) ho hxv ht hs hlc rfl hhi hr
  |some z=>cases hx with
   |none=>exact iX (k:=k) (k':=k') (lx:=some z) (hx:=none) ho hxv ht hs hlc hlo hhi hr
   |some y=>exact iX (k:=k) (k':=k') (lx:=some z) (hx:=some y) ho hxv ht hs hlc hlo hhi hr
 rwa[show (0:Int).toNat=0 from rfl,jN,Nat.sub_zero] at this
theorem qj {α:Type} {l r:List α} {lo hi:Int} (h:iT l lo hi=some r):lo.toNat + r.length<=l.length:=by obtain⟨h0,h1,h2,_,h4⟩:=mv h;omega
end
inductive OldAll:List HObj->Prop
 |nil:OldAll []
 |box {b:Nat} {t:TypeId} {cs:List Value} {H:List HObj}:OldAll H->OldAll (box b t cs::H)
 |row {α:Type} {p:Bool} {t:TypeId} {E:Enc α} {A:Option Addr} {c:Nat} {l:List α} {H:List HObj}:(∀V V' cs x,E.rep V cs x->E.rep V' cs x)->OldAll H->OldAll (jQ p t E A c l::H)
theorem OldAll.ok:∀ {H:List HObj},OldAll H->∀x∈H,∀V V' w,x.ok V w->x.ok V' w
 |_,.nil=>λ_ hx=>by cases hx
 |_,.box h=>λx hx V V' w hk=>by
  rcases t_.1 hx with rfl|hx
  . exact hk
  . exact h.ok x hx V V' w hk
 |_,.row hE h=>λx hx V V' w hk=>by
  rcases t_.1 hx with rfl|hx
  . obtain⟨h1,h2,h3⟩:=hk;exact⟨h1,h2,h3.imp id λ⟨g,cur,fz,xs,h⟩=>⟨g,cur,fz,xs,{ h with rep:=⟨h.rep.1,λk x hx=>hE V V' _ _ (h.rep.2 k x hx)⟩ }⟩⟩
  . exact h.ok x hx V V' w hk
theorem Hp.old {w0:World} {V V0:View} {H H0:List HObj} (hv:View.le V0 V) (hb:View.le (vw w0) V0) (hs:H0.Sublist H) (ho:OldAll H0):∀w,Hp w0 V H w->Hp w0 V0 H0 w :=
 λ_ h=>Hp.older hv hb hs (λx hx w hk=>ho.ok x hx V V0 w hk) h
theorem Hp.perm {w0 w:World} {V:View} {H H':List HObj} (h:Hp w0 V H w) (hp:H.Perm H'):Hp w0 V H' w :=
 ⟨h.os,h.tape,h.output,h.size,h.view,h.base,λx hx=>h.objs x (hp.mem_iff.2 hx),λx hx=>h.apart x (hp.mem_iff.2 hx),
  (hp.pairwise_iff (λhxy b hy hx=>hxy b hx hy)).1 h.sep⟩
section
variable {P:Program} {N:Sz} {w0:World} {V V0:View} {H H0:List HObj} {M:List (Nat×Value)} {ops:Array Oper} {Q:Exit->Act->World->Prop} {fuel:Nat} {listed:Array Bool}
def TB (P:Program) (Q:Exit->Act->World->Prop) (ops:Array Oper) (N:Sz) (w0:World) (V V0:View) (H H0:List HObj) (M:List (Nat×Value)) (fuel:Nat) (listed:Array Bool) (i:Nat):Prop:=∀o,ops[i]? = some o->W1 P Q ops o N w0 V H M (λa' w'=>Hp w0 V0 H0 w'/\wpAnyH P .any ops Q (Hp w0 V0 H0) fuel (listed.setIfInBounds i true) a' w')
def TBs (φ:Nat->Prop):List Nat->Prop
 |[]=>True
 |i::l=>φ i/\TBs φ l
theorem TBs.get {φ:Nat->Prop}:∀ {l:List Nat},TBs φ l->∀i∈l,φ i
 |_::_,h,i,hi=>by
  rcases t_.1 hi with rfl|hi
  . exact h.1
  . exact TBs.get h.2 i hi
theorem TA.pM (rs:List Nat) (hr:Region.ready .any ops listed=rs) (hne:rs.isEmpty=false) (h:TBs (TB P Q ops N w0 V V0 H H0 M fuel listed) rs) :
 T N w0 V H M (wpAnyH P .any ops Q (Hp w0 V0 H0) (fuel + 1) listed):=λa w hf hh=>by
 refine wpAnyH_all hr (λe=>by rw[e] at hne;cases hne) (λi hi=>?_);have hlt:i<ops.size:=by rw[<-hr] at hi;have h1:=(List.mem_filter.1 hi).1;simpa using h1
 obtain⟨h1,h2⟩:=h.get i hi ops[i] (u_ hlt) a w hf hh;unfold wpOp;simp only[u_ hlt];rw[if_pos h1];exact .inl h2
theorem TA.br {i:Nat} {o:Oper} (ho:ops[i]? = some o)
 (h:W1 P Q ops o N w0 V H M (λa' w'=>Hp w0 V0 H0 w'/\wpAnyH P .any ops Q (Hp w0 V0 H0) fuel (listed.setIfInBounds i true) a' w')):TB P Q ops N w0 V V0 H H0 M fuel listed i:=λo' ho'=>by
 obtain rfl:=a_.inj (ho.symm.trans ho');exact h
theorem TA.on {V':View} {H':List HObj} {M':List (Nat×Value)} {ψ:Act->World->Prop} (hS:∀w,Hp w0 V' H' w->Hp w0 V0 H0 w) (h:T N w0 V' H' M' ψ):T N w0 V' H' M' (λa w=>Hp w0 V0 H0 w/\ψ a w) :=
 λa w hf hh=>⟨hS w hh,h a w hf hh⟩
end
theorem qd {β:Type _}:∀(l:List β) (i:Nat) (x:β),l[i]? = some x->(x::l.eraseIdx i).Perm l
 |[],_,_,h=>by simp at h
 |y::l,0,x,h=>by
  obtain rfl:y=x:=by simpa using h
  exact List.Perm.refl _
 |y::l,i + 1,x,h=>by have:=qd l i x (by simpa using h);exact(List.Perm.swap y x _).trans (this.cons y)
section
variable {α:Type} {N:Sz} {w0:World} {V:View} {H H':List HObj} {M:List (Nat×Value)} {φ:Act->World->Prop} {p:Bool} {e:TypeId} {E:Enc α} {A:Option Addr} {c:Nat} {l:List α}
theorem Hp.freeze {w:World} (h:Hp w0 V H w) (i:Nat) (hi:nth H i=some (jQ p e E A c l)) (hH:H.eraseIdx i=H') :
 ∃V',View.le V V'/\Hp w0 V' H' w/\fI V' E A c l/\((∀V V' cs x,E.rep V cs x->E.rep V' cs x)->fI (made w0 V') E A c l):=by
 rw[i9] at hi;have hp:(jQ p e E A c l::H').Perm H:=by rw[<-hH];exact qd _ _ _ hi
 have hh:=h.perm hp.symm;have hsep:=List.pairwise_cons.1 hh.sep;obtain⟨h1,h2,h3⟩:=hh.objs _ (v_);have htail:Hp w0 V H' w:=hh.sub (List.sublist_cons_self _ _);by_cases hc:c=0
 . have hl:l=[]:=l_ o_;subst hl;exact⟨V,View.le_refl _,htail,⟨h1,h2,[],io.nil,λj u hu=>by simp at hu⟩,λ_=>⟨h1,h2,[],io.nil,λj u hu=>by simp at hu⟩⟩
 . rcases h3 with h3|⟨g,cur,fz,xs,h3⟩
   . exact absurd h3 hc
   have hblk:(jQ p e E A c l).own g:=(by show iJ A c=some g;unfold iJ;rw[if_neg hc,h3.adr];rfl);have hVg:V g=none:=hh.apart _ (v_) g hblk
   have hle:View.le V (λb=>if b=g then w.heap[g]? else V b):=λb o hb=>by
    have:b≠g:=λe=>by rw[e,hVg] at hb;cases hb
    simp only[if_neg this];exact hb
   have hnew:¬ g<w0.heap.size:=λhlt=>by have hw:(vw w0) g=some w0.heap[g]:=u_ hlt;rw[h.base g _ hw] at hVg;cases hVg
   have hlies:∀V':View,V' g=w.heap[g]?->m5 V' A xs:=λV' hV j u hu=>by obtain⟨a,ha,hcell⟩:=h3.cells j u hu;refine⟨a,ha,?_⟩;have hag:a=⟨g,0,none⟩:=a_.inj (ha.symm.trans h3.adr);subst hag;have e1:((⟨g,0,none⟩:Addr).add j).block=g:=lL _ _;unfold View.cell;rw[e1,hV];rw[oO,World.cell?,e1] at hcell;exact hcell
   refine⟨λb=>if b=g then w.heap[g]? else V b,hle,⟨htail.os,htail.tape,htail.output,htail.size,λb o hb=>?_,View.le_trans h.base hle,λx hx=>x.mono V _ w hle (htail.objs x hx),λx hx b hxb=>?_,htail.sep⟩,⟨h1,h2,xs,h3.rep.mono hle,hlies _ s_⟩,λhflat=>⟨h1,h2,xs,⟨h3.rep.1,λk x hk=>hflat _ _ _ _ (h3.rep.2 k x hk)⟩,hlies _ ?_⟩⟩
   . by_cases hbg:b=g
     . subst hbg;simp only[if_pos] at hb;exact hb
     . simp only[if_neg hbg] at hb;exact htail.view b o hb
   . have hbg:b≠g:=λe=>hsep.1 x hx g hblk (by rw[<-e];exact hxb);simp only[if_neg hbg];exact htail.apart x hx b hxb
   . unfold made;rw[if_neg hnew];simp
theorem T.jw (i:Nat) (hi:nth H i=some (jQ p e E A c l)) (hH:H.eraseIdx i=H') (hflat:∀V V' cs x,E.rep V cs x->E.rep V' cs x) (h:∀V',View.le V V'->fI (made w0 V') E A c l->T N w0 V' H' M φ):T N w0 V H M φ:=λa w hf hh=>by obtain⟨V',h1,h2,_,h4⟩:=hh.freeze i hi hH;exact h V' h1 (h4 hflat) a w hf h2
end
section
variable {α:Type} {N:Sz} {w0:World} {V:View} {H H':List HObj} {M:List (Nat×Value)} {φ:Act->World->Prop} {p:Bool} {e:TypeId} {E:Enc α} {A:Option Addr} {c:Nat} {l l0:List α}
theorem T.kM (i:Nat) (hi:nth H i=some (jQ p e E A c l0)) (hp:l <+: l0) (h:T N w0 V (H.set i (jQ p e E A c l)) M φ):T N w0 V H M φ:=λa w hf hh=>by refine h a w hf ?_;rw[i9] at hi;exact hh.turn (o:=none) hi ⟨rfl,rfl,rfl,f_ _,λ_ _ _=>rfl⟩ (nq (hh.objs _ (i_ hi)) hp) (λb hb=>.inl hb) (λb e=>by cases e)
end
section
variable {P:Program} {N:Sz} {N':Nat} {w0:World} {V:View} {H:List HObj} {M:List (Nat×Value)} {ops:Array Oper} {Q:Exit->Act->World->Prop} {o:Oper} {K:Act->World->Prop} {fn:Func} {c:Code}
theorem W1.ii (f:FuncId) (l:List Value) (I:Value->World->Prop) (hfn:P.funcs[f]? = some fn) (hb:fn.body=some c) (hN:fn.ntmps=N') (hc:okO N ops M o=true)
 (hv:∀w,(execOp (evM M) o).run P w=.ok (.enter f l.toArray) w) (hn:Nat.ble l.length N'=true)
 (h:T ⟨N',[]⟩ w0 V H (ro 0 l) (c.wpIn (RF none) 0 P (bodyPost P fn (λe w'=>∃v,e=.returned v/\I v w'))))
 (k:∀v w',I v w'->∃V' H',Hp w0 V' H' w'/\T N w0 V' H' (ic o.dst v M) K):W1 P Q ops o N w0 V H M K :=
 W1.tm f l.toArray (ro 0 l) hfn hb hN hc hv (by simpa using F_ hn) (λt v hv=>by simpa using (oD l 0 t v hv).2)
  (λa w hf hh=>Code.wpIn_mono (λe a w hq=>by
   have kk:∀e w,(∃v,e=Ending.returned v/\I v w)->∃v,e=Ending.returned v/\∀a,Fr N (ic o.dst v M) a->K a w:=λe w ⟨v,hv,hI⟩=>⟨v,hv,λa hfr=>by obtain⟨V',H',hh',ht⟩:=k v w hI;exact ht a w hfr hh'⟩
   cases e with
   |ret=>exact⟨hq.1,hq.2.imp λv hv=>⟨hv.1,kk _ _ hv.2⟩⟩
   |normal=>exact⟨hq.1,hq.2.imp λv hv=>⟨hv.1,kk _ _ hv.2⟩⟩
   |panic ch=>exact⟨hq.1,kk _ _ hq.2⟩
   |outgrown=>exact kk _ _ hq
   |_=>exact hq) (h a w hf hh))
end
theorem sZ (x y:ByteArray):seq x y=true↔x=y:=by unfold seq;rw[beq_iff_eq,ByteArray.toList_eq,ByteArray.toList_eq];obtain⟨⟨x⟩⟩:=x;obtain⟨⟨y⟩⟩:=y;simp
theorem ov (x y:DKey):(x==y)=(x.pfs==y.pfs&&(x.obj==y.obj&&x.off==y.off)):=by obtain⟨a,b,c⟩:=x;obtain⟨a',b',c'⟩:=y;rw[x_];simp[DKey.mk.injEq]
theorem tu (x y:DSpot):(x==y)=(x.key==y.key&&x.made==y.made):=by obtain⟨a,b⟩:=x;obtain⟨a',b'⟩:=y;rw[x_];simp[DSpot.mk.injEq]
theorem tq (x y:DElem):(x==y)=(x.key==y.key&&(x.made==y.made&&(x.gone==y.gone&&seq x.val y.val))):=by obtain⟨a,b,c,d⟩:=x;obtain⟨a',b',c',d'⟩:=y;rw[x_];simp[DElem.mk.injEq,sZ]
theorem sc (x y:DWrite):(x==y)=(x.page==y.page&&seq x.text y.text):=by obtain⟨a,b⟩:=x;obtain⟨a',b'⟩:=y;rw[x_];simp[DWrite.mk.injEq,sZ]
end
section
open Go.RowKit
section
variable {P:Program} {N:Sz} {w0:World} {V:View} {H:List HObj} {M:List (Nat×Value)} {ops:Array Oper} {Q:Exit->Act->World->Prop} {o:Oper} {K:Act->World->Prop} {t kt et:TypeId} {b:Nat} {l:List (Int×ByteArray)}
end
end
section
open Go.RowKit
section
variable {P:Program} {M:List (Nat×Value)} {o:Oper} {N:Sz} {w0 w:World} {V:View} {H:List HObj}
end
section
variable {P:Program} {M:List (Nat×Value)} {o:Oper} {N:Sz} {w0 w:World} {V:View} {H:List HObj} {α:Type} {E:Enc α} {φ:Act->World->Prop}
theorem T.tP {b t n:Nat} {x:α} {v:Value} (hE:∀V,E.rep V [v] x) (hs:E.size=1) (h0:0<n) (hn:n<=maxLen)
 (h:T N w0 V (row t E (some ⟨b,0,none⟩) n (p_ n x)::H) M φ):T N w0 V (box b t (p_ n v)::H) M φ:=λa w hf hh=>by
 refine h a w hf ?_;have hbox:w.heap[b]? = some (.cells (p_ n v).toArray t (0,0)):=hh.objs _ (v_ ..);have hblk:iJ (some (⟨b,0,none⟩:Addr)) n=some b:=by unfold iJ;rw[if_neg o_];rfl
 refine { os:=hh.os,tape:=hh.tape,output:=hh.output,size:=hh.size,view:=hh.view,base:=hh.base,objs:=λy hy=>?_,apart:=λy hy b' hb'=>?_,sep:=?_ }
 . rcases t_.1 hy with rfl|hy
   . refine⟨by rw[j_];exact f_ _,hn,.inr ⟨b,_,_,_,⟨rfl,hbox,λ_=>rfl,λi _ h=>by simp at h,?_,rfl,?_⟩⟩⟩
     . rw[List.size_toArray,j_,hs,y_]
     . rw[j_,hs,y_];show io V E ((p_ n v).take n) (p_ n x);rw[C_ (by rw[j_];exact f_ _)];refine⟨by rw[j_,j_,hs,y_],λk y hk=>?_⟩;have hkn:k<n:=(by have:=(E_.1 hk).1;rwa[j_] at this);have hyx:y=x:=List.eq_of_mem_replicate (i_ hk);subst hyx;rw[hs,y_];have:((p_ n v).drop k).take 1=[v]:=(by rw[List.drop_replicate,List.take_replicate,Nat.min_eq_left o_];rfl);rw[this];exact hE V
   . exact hh.objs y (G_ _ hy)
 . rcases t_.1 hy with rfl|hy
   . have e:b=b':=a_.inj (hblk.symm.trans hb');subst e;exact hh.apart _ (v_ ..) b rfl
   . exact hh.apart y (G_ _ hy) b' hb'
 . have hs:=hh.sep;rw[List.pairwise_cons] at hs ⊢;refine⟨λy hy b' hb'=>?_,hs.2⟩;have e:b=b':=a_.inj (hblk.symm.trans hb');subst e;exact hs.1 y hy b rfl
theorem W1.qN {ops:Array Oper} {Q:Exit->Act->World->Prop} {K:Act->World->Prop} (h:T N w0 V H M (λa w=>Region.wanted o (yielded ops a.tmps)=true/\o.wp P a w K Q)):W1 P Q ops o N w0 V H M K:=h
theorem W1.qO {ops:Array Oper} {Q:Exit->Act->World->Prop} {K:Act->World->Prop} (h:W1 P Q ops o N w0 V H M K):T N w0 V H M (λa w=>Region.wanted o (yielded ops a.tmps)=true/\o.wp P a w K Q):=h
theorem Hp.row_len {p:Bool} {t:TypeId} {A:Option Addr} {c:Nat} {l:List α} (h:Hp w0 V H w) {i:Nat} (hi:nth H i=some (jQ p t E A c l)):l.length<=c:=by rw[i9] at hi;exact(h.objs _ (i_ hi)).1
theorem pn {t e:TypeId} {x i:Operand} {b s n:Nat} {k:IntKind} {iv:Int} {l:List α} (ho:o.op=.indexAddr t x i) (hx:evM M x=.pointer (some ⟨b,0,none⟩)) (hi:evM M i=.int k iv)
 (ht:P.underlying t=some (.array n e)) (hs:(sizeOf e).run P w=.ok s w) (h0:0<=iv) (h1:iv<(l.length:Int)) (hl:l.length<=n) :
 (execOp (evM M) o).run P w=.ok (.value (.pointer (some ((ij (some ⟨b,0,none⟩)).add (iv.toNat * s))))) w:=by
 have h2:iv<(n:Int):=o_;simp[execOp,ho,hx,hi,Instr.indexAt,asIntOf,run_underlying ht,hs,h0,h2,Instr.sureAddr,ij]
end
def eAt {α:Type} (w0:World) (E:Enc α):Enc α where
 size:=E.size
 rep:=λV cs x=>E.rep (made w0 V) cs x
 mono:=λhv h=>E.mono (jh hv) h
 len:=λh=>E.len h
 one:=λh=>E.one h
theorem fI.ofAt {α:Type} {E:Enc α} {w0:World} {V:View} {A:Option Addr} {c:Nat} {l:List α} (h:fI V (eAt w0 E) A c l):fI V E A c l:=by obtain⟨h1,h2,xs,⟨h3,h4⟩,h5⟩:=h;exact⟨h1,h2,xs,⟨h3,λk x hx=>E.mono (iq _ _) (h4 k x hx)⟩,h5⟩
section
variable {N:Sz} {M:List (Nat×Value)} {w0 w:World} {V:View} {H H':List HObj} {α:Type} {E:Enc α} {φ:Act->World->Prop} {p:Bool} {e:TypeId} {A:Option Addr} {c:Nat} {l:List α}
theorem lc {x:α} {b:Nat} {t:TypeId} {cs:List Value} (hh:Hp w0 V H w) {i:Nat} (hi:nth H i=some (box b t cs)) (hr:E.rep V cs x):∃news,io V E news [x]/\m5 (vw w) (some ⟨b,0,none⟩) news:=by
 refine⟨cs,⟨?_,λk y hk=>?_⟩,rx λj=>?_⟩
 . rw[E.len hr];simp
 . cases k with
   |zero=>obtain rfl:x=y:=(by simpa using hk);rw[q_,z_,C_ (by rw[E.len hr];exact f_ _)];exact hr
   |succ k=>simp at hk
 . rw[i9] at hi;exact hh.cell_box hi j
theorem Hp.row_elem {i k:Nat} {x:α} (h:Hp w0 V H w) (hi:nth H i=some (jQ p e (eAt w0 E) A c l)) (hk:l[k]? = some x) :
 ∃cs,E.rep (made w0 V) cs x/\∀j u,cs[j]? = some u->w.cell? (((ij A).add (k * E.size)).add j)=some u:=by
 rw[i9] at hi;obtain⟨h1,h2,h3⟩:=h.objs _ (i_ hi);rcases h3 with h3|⟨g,cur,fz,xs,h3⟩
 . have hl:l=[]:=l_ o_;subst hl;simp at hk
 . have hs:io V (eAt w0 E) xs l:=h3.rep;refine⟨_,hs.2 k x hk,λj u hu=>?_⟩;rw[d_] at hu;split at hu
   . rw[g_] at hu;obtain⟨a,rfl,hc⟩:=h3.cells _ u hu;rw[lY];exact hc
   . cases hu
theorem W1.pS {P:Program} {o:Oper} {ops:Array Oper} {Q:Exit->Act->World->Prop} {K:Act->World->Prop} (Ψ:Value->Prop) (hc:okO N ops M o=true)
 (hv:∀w,Hp w0 V H w->∃v,(execOp (evM M) o).run P w=.ok (.value v) w/\Ψ v) (h:∀v,Ψ v->T N w0 V H (ic o.dst v M) K):W1 P Q ops o N w0 V H M K:=λa w hf hh=>by
 obtain⟨h1,_,_,h4⟩:=iP hc;refine⟨iM hf h1,?_⟩;obtain⟨v,hrun,hp⟩:=hv w hh;unfold Oper.wp;rw[ja hc hf,hrun];exact h v hp _ _ (hf.put h4 v) hh
theorem T.s9 {b t:Nat} {x:α} {cs:List Value} (i:Nat) (H':List HObj) (hi:nth H i=some (box b t cs)) (hr:E.rep V cs x) (hs:0<1) (hH:H.set i (row t E (some ⟨b,0,none⟩) 1 [x])=H')
 (h:T N w0 V H' M φ):T N w0 V H M φ:=λa w hf hh=>by
 rw[i9] at hi;have hbox:w.heap[b]? = some (.cells cs.toArray t (0,0)):=hh.objs _ (i_ hi);have hlen:=E.len hr;refine h a w hf (hH▸hh.turn (o:=none) hi ⟨rfl,rfl,rfl,f_ _,λ_ _ _=>rfl⟩ ?_ (λb' hb'=>.inl ?_))
 . refine⟨f_ _,by decide,.inr ⟨b,_,_,cs,⟨rfl,hbox,λ_=>rfl,λi _ h=>by simp at h,by simp[hlen],by simp[<-hlen],?_⟩⟩⟩;refine⟨by rw[hlen];simp,λk y hk=>?_⟩
   cases k with
   |zero=>obtain rfl:x=y:=(by simpa using hk);rw[q_,z_,C_ (by rw[hlen];exact f_ _)];exact hr
   |succ k=>simp at hk
 . have e:iJ (some (⟨b,0,none⟩:Addr)) 1=some b:=rfl;exact e.symm.trans hb'
theorem Hp.freezeM (h:Hp w0 V H w) (i:Nat) (hi:nth H i=some (jQ p e (eAt w0 E) A c l)) (hH:H.eraseIdx i=H'):∃V',View.le V V'/\Hp w0 V' H' w/\fI (made w0 V') E A c l:=by
 obtain⟨V',h1,h2,h3,_⟩:=h.freeze i hi hH;refine⟨V',h1,h2,?_⟩;obtain⟨k1,k2,xs,hr,hl⟩:=h3;refine⟨k1,k2,xs,⟨hr.1,hr.2⟩,λj u hu=>?_⟩;obtain⟨a,ha,hc⟩:=hl j u hu;refine⟨a,ha,?_⟩;rw[i9] at hi;obtain⟨g1,g2,g3⟩:=h.objs _ (i_ hi);rcases g3 with g3|⟨g,cur,fz,ys,hrow⟩
 . exfalso;have hl0:l=[]:=l_ o_;subst hl0;have:=hr.1;rw[List.length_nil,q_] at this;rw[l_ this] at hu;simp at hu
 . have hag:a=⟨g,0,none⟩:=a_.inj (ha.symm.trans hrow.adr);subst hag
   have hnew:¬ g<w0.heap.size:=λhlt=>by
    have hw:(vw w0) g=some w0.heap[g]:=u_ hlt;have hc0:c≠0:=λhc0=>by have hl0:l=[]:=l_ o_;subst hl0;have:=hr.1;rw[List.length_nil,q_] at this;rw[l_ this] at hu;simp at hu
    have:=h.apart _ (i_ hi) g (by show iJ A c=some g;unfold iJ;rw[if_neg hc0,hrow.adr];rfl);rw[h.base g _ hw] at this;cases this
   have e1:((⟨g,0,none⟩:Addr).add j).block=g:=lL _ _;unfold View.cell at hc ⊢;rw[e1] at hc ⊢;unfold made;rw[if_neg hnew];exact hc
theorem T.nG (i:Nat) (hi:nth H i=some (jQ p e (eAt w0 E) A c l)) (hH:H.eraseIdx i=H') (h:∀V',View.le V V'->fI (made w0 V') E A c l->T N w0 V' H' M φ):T N w0 V H M φ:=λa w hf hh=>by obtain⟨V',h1,h2,h4⟩:=hh.freezeM i hi hH;exact h V' h1 h4 a w hf h2
end
theorem T.kx {P:Program} {fn:Func} {R:Ending->World->Prop} {N:Sz} {M:List (Nat×Value)} {w0:World} {V:View} {H:List HObj} (hr:fn.results = #[]) (h:∀w,Hp w0 V H w->R (.returned (.tuple #[])) w) (hN:N.ds=[]:=by rfl):T N w0 V H M (bodyPost P fn R .normal) :=
 λa w hf hh=>⟨by rw[hf.defers,hN];rfl,_,by simp[results,hr],h w hh⟩
end
structure Dbuild_low where
 i:Int
 s:DSpot
 deriving DecidableEq
def Dbuild_low.cells (x:Dbuild_low):List Value:=[.int .i64 x.i,.int .i64 x.s.key.pfs,.int .i64 x.s.key.obj,.int .i64 x.s.key.off,.int .i64 x.s.made]
def ebuild_low:Enc Dbuild_low:=mq 5 Dbuild_low.cells (λ_=>rfl) (λ_=>jf rfl)
section
open Go.RowKit
def qD {σ ρ:Type} (f:(σ->Option ρ)->σ->Option ρ):Nat->σ->Option ρ
 |0,_=>none
 |n + 1,s=>f (qD f n) s
theorem mr {σ ρ:Type} {f:(σ->Option ρ)->σ->Option ρ} (Q:σ->ρ->Prop):∀ {n:Nat} {s:σ} {r:ρ},qD f n s=some r ->
 (∀self:σ->Option ρ,(∀s r,self s=some r->Q s r)->∀s r,f self s=some r->Q s r)->Q s r
 |0,_,_,h,_=>by cases h
 |n + 1,s,r,h,step=>step (qD f n) (λs r h=>mr Q h step) s r h
section
variable {P:Program} {N:Sz} {w0:World} {V:View} {H:List HObj} {M:List (Nat×Value)} {ops:Array Oper} {Q:Exit->Act->World->Prop} {o:Oper} {K:Act->World->Prop} {fn:Func} {c:Code} {R:Ending->World->Prop}
theorem W1.pO (f:FuncId) (l:List Value) (I:Value->World->Prop) (hc:okO N ops M o=true) (hv:∀w,(execOp (evM M) o).run P w=.ok (.enter f l.toArray) w)
 (hf:∀w,Hp w0 V H w->Calls P f l.toArray w (λe w'=>∃v,e=.returned v/\I v w'))
 (k:∀v w',I v w'->∃V' H',Hp w0 V' H' w'/\T N w0 V' H' (ic o.dst v M) K):W1 P Q ops o N w0 V H M K:=λa w hfr hh=>by
 obtain⟨h1,_,_,h4⟩:=iP hc;refine⟨iM hfr h1,?_⟩;unfold Oper.wp;rw[ja hc hfr,hv w,Oper.upon_enter];refine(hf w hh).mono ?_;rintro e w' ⟨v,rfl,hi⟩;obtain⟨V',H',hh',ht⟩:=k v w' hi;exact ht _ _ (hfr.put h4 v) hh'
theorem T.iD {N:Nat} {w:World} {l:List Value} {f:FuncId} (hf:P.funcs[f]? = some fn) (hb:fn.body=some c) (hN:fn.ntmps=N) (hn:Nat.ble l.length N=true)
 (h:T ⟨N,[]⟩ w0 V H (ro 0 l) (c.wpIn (RF none) 0 P (bodyPost P fn R))) (hh:Hp w0 V H w):Calls P f l.toArray w R:=by
 subst hN;refine calls_of_wp hf hb (wpIn_wide.1 (h _ w (Fr.start l.toArray fn.ntmps (by simpa using F_ hn) _ λt v hv=>?_) hh));have:=(oD l 0 t v hv).2;simpa using this
end
end
end Go.Proofs.YtnofgfobljadbaaGreat
