/- Trees that a call has made and may still write: the row of the nodes' headers, and behind it, at the end of the list of objects, the rows of all nodes that are not taken out. Its conditions: none. -/
import Derived.Test.YtnofgfobljadbaaGreatRangeO
open List renaming mem_cons_self→a_, mem_cons_of_mem→d_, mem_cons→g_, getElem?_set_self→i_, getElem?_eq_some_iff→j_, mem_append_left→l_, perm_middle→p_, length_set→q_, getElem?_set→t_, append_assoc→u_, mem_append→v_, pairwise_append→x_, mem_append_right→y_, perm_append_comm→C_, set_set→D_, getElem?_eq_getElem→E_, mem_of_getElem?→F_, getElem?_append_left→G_
open Sum renaming inr→f_
open Array renaming getElem?_eq_getElem→z_
open Nat renaming lt_or_ge→B_
open Option renaming map_eq_some_iff→H_
namespace Go.Proofs.YtnofgfobljadbaaGreat
set_option linter.unusedSimpArgs false
set_option linter.unusedVariables false
section
open Go.RowKit
structure DHdr where
 kind:Int
 a1:Option Addr
 n1:Nat
 c1:Nat
 a2:Option Addr
 n2:Nat
 c2:Nat
 a3:Option Addr
 n3:Nat
 c3:Nat
 a4:Option Addr
 n4:Nat
 c4:Nat
abbrev DHdr.cells (h:DHdr):List Value:=[.int .i64 h.kind,.slice h.a1 h.n1 h.c1,.slice h.a2 h.n2 h.c2,.slice h.a3 h.n3 h.c3,.slice h.a4 h.n4 h.c4]
def eHdr:Enc DHdr:=mq 5 DHdr.cells (λ_=>rfl) (λ_=>jf rfl)
structure Fits (h:DHdr) (n:DNode):Prop where
 kind:h.kind=n.kind
 n1:h.n1=n.elems.length
 n2:h.n2=n.kids.length
 n3:h.n3=n.seps.length
 n4:h.n4=n.tids.length
def km (p:Prop):HObj where
 own:=λ_=>False
 ok:=λ_ _=>p
 loc:=λ_ _ _ _ h=>h
 mono:=λ_ _ _ _ h=>h
 lt:=λ_ _ _ _ h=>by cases h
structure TreeTy where
 te:TypeId
 ti:TypeId
 ts:TypeId
def iF (ty:TreeTy) (h:DHdr) (n:DNode):List HObj:=[row ty.te eElem h.a1 h.c1 n.elems,row ty.ti gi h.a2 h.c2 n.kids,row ty.ts eSpot h.a3 h.c3 n.seps,row ty.ti gi h.a4 h.c4 n.tids]
def jl (ty:TreeTy):List DHdr->List (Int⊕DNode)->List HObj
 |h::hs,.inr n::ns=>km (Fits h n)::(iF ty h n++jl ty hs ns)
 |_::hs,.inl _::ns=>jl ty hs ns
 |_,_=>[]
def uO (x y:HObj):Prop:=∀b,x.own b->¬ y.own b
structure LenK (hs:List DHdr) (ns:List (Int⊕DNode)):Prop where
 len:hs.length=ns.length
 kinds:∀(i:Nat) (k:Int),ns[i]? = some (.inl k)->∃h,hs[i]? = some h/\h.kind=k
theorem LenK.nil:LenK [] []:=⟨rfl,λi k h=>by simp at h⟩
theorem LenK.inl {hs:List DHdr} {ns:List (Int⊕DNode)} (h:LenK hs ns) {i:Nat} {x:DHdr} {k:Int} (hx:hs[i]? = some x) (hk:x.kind=k):LenK hs (ns.set i (.inl k)):=⟨by rw[q_];exact h.len,λj q hq=>by
 rw[t_] at hq;split at hq
 . rename_i e;subst e;split at hq
   . obtain rfl:k=q:=(by simpa using hq);exact⟨x,hx,hk⟩
   . cases hq
 . exact h.kinds j q hq⟩
theorem LenK.inr {hs:List DHdr} {ns:List (Int⊕DNode)} (h:LenK hs ns) (i:Nat) (n:DNode):LenK hs (ns.set i (.inr n)):=⟨by rw[q_];exact h.len,λj q hq=>by
 rw[t_] at hq;split at hq
 . split at hq
   . cases hq
   . cases hq
 . exact h.kinds j q hq⟩
theorem LenK.head {hs:List DHdr} {ns:List (Int⊕DNode)} (h:LenK hs ns) (i:Nat) (x:DHdr):LenK (hs.set i x) (ns.set i (.inl x.kind)):=⟨by rw[q_,q_];exact h.len,λj q hq=>by
 rw[t_] at hq ⊢;have hl:=h.len;split at hq
 . rename_i e;subst e;split at hq
   . rename_i hi;obtain rfl:x.kind=q:=(by simpa using hq);rw[if_pos rfl,if_pos o_];exact⟨x,rfl,rfl⟩
   . cases hq
 . rename_i e;rw[if_neg e]
   exact h.kinds j q hq⟩
theorem LenK.push {hs:List DHdr} {ns:List (Int⊕DNode)} (h:LenK hs ns) (x:DHdr) (n:DNode):LenK (hs++[x]) (ns++[.inr n]):=⟨by simp[h.len],λj q hq=>by
 rcases B_ j ns.length with hlt|hge
 . rw[G_ hlt] at hq;obtain⟨y,hy,hk⟩:=h.kinds j q hq;exact⟨y,by rw[G_ (by have:=h.len;omega)];exact hy,hk⟩
 . rw[List.getElem?_append_right hge] at hq
   cases hj:j - ns.length with
   |zero=>rw[hj] at hq;simp at hq
   |succ m=>rw[hj] at hq;simp at hq⟩
def ig (ty:TreeTy) (hs:List DHdr) (ns:List (Int⊕DNode)):HObj where
 own:=λb=>∃x∈jl ty hs ns,x.own b
 ok:=λV w=>LenK hs ns/\(∀x∈jl ty hs ns,x.ok V w)/\(jl ty hs ns).Pairwise uO
 loc:=λV w w' hb ⟨h1,h2,h3⟩=>⟨h1,λx hx=>x.loc V w w' (λb hxb=>hb b ⟨x,hx,hxb⟩) (h2 x hx),h3⟩
 mono:=λV V' w hv ⟨h1,h2,h3⟩=>⟨h1,λx hx=>x.mono V V' w hv (h2 x hx),h3⟩
 lt:=λV w b ⟨_,h2,_⟩ ⟨x,hx,hb⟩=>x.lt V w b (h2 x hx) hb
theorem kV (ty:TreeTy):∀(hs:List DHdr) (ns:List (Int⊕DNode)) (i:Nat) (h:DHdr) (n:DNode) (q:Int),hs[i]? = some h->ns[i]? = some (.inr n)->(jl ty hs ns).Perm (km (Fits h n)::(iF ty h n++jl ty hs (ns.set i (.inl q))))
 |[],_,i,h,n,_,h1,_=>by simp at h1
 |_,[],i,h,n,_,_,h2=>by simp at h2
 |a::hs,m::ns,0,h,n,q,h1,h2=>by
  obtain rfl:a=h:=by simpa using h1
  obtain rfl:m=.inr n:=by simpa using h2
  exact List.Perm.refl _
 |a::hs,m::ns,i + 1,h,n,q,h1,h2=>by
  have ih:=kV ty hs ns i h n q (by simpa using h1) (by simpa using h2)
  cases m with
  |inl _=>exact ih
  |inr m=>show (km (Fits a m)::(iF ty a m++jl ty hs ns)).Perm (km (Fits h n)::(iF ty h n++(km (Fits a m)::(iF ty a m++jl ty hs (ns.set i (.inl q))))));have h3:=(ih.append_left (km (Fits a m)::iF ty a m));refine h3.trans ?_;show ((km (Fits a m)::iF ty a m)++((km (Fits h n)::iF ty h n)++jl ty hs (ns.set i (.inl q)))).Perm ((km (Fits h n)::iF ty h n)++((km (Fits a m)::iF ty a m)++jl ty hs (ns.set i (.inl q))));rw[<-u_,<-u_];exact List.Perm.append_right _ C_
theorem tJ (ty:TreeTy) (hs:List DHdr) (ns:List (Int⊕DNode)) (i:Nat) (h:DHdr) (n:DNode) (q:Int) (h1:hs[i]? = some h) (h2:i<ns.length) (h3:ns[i]? = some (.inl q)) :
 (km (Fits h n)::(iF ty h n++jl ty hs ns)).Perm (jl ty hs (ns.set i (.inr n))):=by
 have:=kV ty hs (ns.set i (.inr n)) i h n q h1 (by rw[i_ h2])
 rw[D_,show ns.set i (.inl q)=ns from List.ext_getElem? λj=>by
  rw[t_];split
  . rename_i e;subst e;first|rw[if_pos h2,h3]|exact h3.symm
  . rfl] at this
 exact this.symm
theorem qr (ty:TreeTy):∀(hs:List DHdr) (ns:List (Int⊕DNode)) (i:Nat) (h:DHdr) (q r:Int),ns[i]? = some (.inl q)->jl ty (hs.set i h) (ns.set i (.inl r))=jl ty hs ns
 |[],_,i,h,_,_,_=>by simp[jl]
 |_::_,[],i,h,_,_,h2=>by simp at h2
 |a::hs,m::ns,0,h,q,r,h2=>by
  obtain rfl:m=.inl q:=by simpa using h2
  rfl
 |a::hs,m::ns,i + 1,h,q,r,h2=>by
  have ih:=qr ty hs ns i h q r (by simpa using h2)
  cases m with
  |inl _=>exact ih
  |inr m=>show km (Fits a m)::(iF ty a m++jl ty (hs.set i h) (ns.set i (.inl r)))=_;rw[ih];rfl
theorem qq (ty:TreeTy):∀(hs:List DHdr) (ns:List (Int⊕DNode)) (i:Nat) (q:Int),(jl ty hs (ns.set i (.inl q))).Sublist (jl ty hs ns)
 |[],ns,i,q=>by cases ns <;> simp[jl]
 |_::_,[],i,q=>by simp[jl]
 |a::hs,m::ns,0,q=>by
  cases m with
  |inl _=>exact List.Sublist.refl _
  |inr m=>exact(List.sublist_append_right (km (Fits a m)::iF ty a m) _)
 |a::hs,m::ns,i + 1,q=>by
  have ih:=qq ty hs ns i q
  cases m with
  |inl _=>exact ih
  |inr m=>exact(List.Sublist.refl (km (Fits a m)::iF ty a m)).append ih
theorem oJ (ty:TreeTy) (h:DHdr) (m:Int⊕DNode):∀(hs:List DHdr) (ns:List (Int⊕DNode)),hs.length=ns.length->jl ty (hs++[h]) (ns++[m])=jl ty hs ns++jl ty [h] [m]
 |[],[],_=>by simp[jl]
 |[],_::_,h=>by simp at h
 |_::_,[],h=>by simp at h
 |a::hs,x::ns,hl=>by
  have ih:=oJ ty h m hs ns (by simpa using hl)
  cases x with
  |inl _=>exact ih
  |inr x=>show km (Fits a x)::(iF ty a x++jl ty (hs++[h]) (ns++[m]))=_;rw[ih];simp[jl]
theorem Hp.put {w0:World} {V:View} {H:List HObj} {w:World} {p:Prop} (h:Hp w0 V H w) (hp:p):Hp w0 V (km p::H) w :=
 ⟨h.os,h.tape,h.output,h.size,h.view,h.base,λx hx=>by
  rcases g_.1 hx with rfl|hx
  . exact hp
  . exact h.objs x hx,λx hx b hb=>by
  rcases g_.1 hx with rfl|hx
  . cases hb
  . exact h.apart x hx b hb,List.Pairwise.cons (λy _ b hb=>by cases hb) h.sep⟩
def inN:Int⊕DNode->Option DNode
 |.inl _=>none
 |.inr n=>some n
def sX:Int⊕DNode->Int
 |.inl k=>k
 |.inr n=>n.kind
def j9 (ns:List (Int⊕DNode)) (i:Int):Option DNode:=if i<0 then none else (ns[i.toNat]?).bind inN
def su (ns:List (Int⊕DNode)) (i:Int):Option Int:=if i<0 then none else (ns[i.toNat]?).map sX
def iL (ns:List (Int⊕DNode)) (i:Int):List (Int⊕DNode):=ns.set i.toNat (.inl (((ns[i.toNat]?).map sX).getD 0))
def jb (ns:List (Int⊕DNode)) (i:Int) (n:DNode):List (Int⊕DNode):=ns.set i.toNat (.inr n)
theorem nj {ns:List (Int⊕DNode)} {i:Int} {n:DNode} (h:j9 ns i=some n):0<=i/\ns[i.toNat]? = some (.inr n):=by
 unfold j9 at h;split at h
 . cases h
 . refine⟨by omega,?_⟩
   cases hx:ns[i.toNat]? with
   |none=>rw[hx] at h;cases h
   |some m =>
    rw[hx] at h
    cases m with
    |inl k=>cases h
    |inr m=>obtain rfl:m=n:=(by simpa[inN] using h);rfl
structure TreeOk (hs:List DHdr) (ns:List (Int⊕DNode)):Prop where
 lenk:LenK hs ns
 fits:∀(i:Nat) (n:DNode),ns[i]? = some (.inr n)->∃h,hs[i]? = some h/\Fits h n
theorem TreeOk.len {hs:List DHdr} {ns:List (Int⊕DNode)} (h:TreeOk hs ns):hs.length=ns.length:=h.lenk.len
theorem sC {ty:TreeTy} {V:View} {w:World}:∀(hs:List DHdr) (ns:List (Int⊕DNode)),(∀x∈jl ty hs ns,x.ok V w)->hs.length=ns.length->∀(i:Nat) (n:DNode),ns[i]? = some (.inr n)->∃h,hs[i]? = some h/\Fits h n:=λhs ns hok hl i n hn=>by have hi:=(j_.1 hn).1;have hh:hs[i]? = some (hs[i]'o_):=E_ o_;exact⟨_,hh,hok _ ((kV ty hs ns i _ n 0 hh hn).mem_iff.2 a_)⟩
theorem TreeOk.of {ty:TreeTy} {V:View} {w:World} {hs:List DHdr} {ns:List (Int⊕DNode)} (h:(ig ty hs ns).ok V w):TreeOk hs ns:=⟨h.1,sC hs ns h.2.1 h.1.len⟩
theorem Hp.opened {w0:World} {V:View} {X:List HObj} {w:World} {ty:TreeTy} {hs:List DHdr} {ns:List (Int⊕DNode)} (h:Hp w0 V (ig ty hs ns::X) w):LenK hs ns/\Hp w0 V (jl ty hs ns++X) w:=by
 obtain⟨h1,h2,h3⟩:=h.objs _ a_;have hs':=List.pairwise_cons.1 h.sep;refine⟨h1,h.os,h.tape,h.output,h.size,h.view,h.base,λx hx=>?_,λx hx b hb=>?_,?_⟩
 . rcases v_.1 hx with hx|hx
   . exact h2 x hx
   . exact h.objs x (d_ _ hx)
 . rcases v_.1 hx with hx|hx
   . exact h.apart _ a_ b ⟨x,hx,hb⟩
   . exact h.apart x (d_ _ hx) b hb
 . exact x_.2 ⟨h3,hs'.2,λx hx y hy b hb=>hs'.1 y hy b ⟨x,hx,hb⟩⟩
theorem Hp.closed {w0:World} {V:View} {X:List HObj} {w:World} {ty:TreeTy} {hs:List DHdr} {ns:List (Int⊕DNode)} (hl:LenK hs ns) (h:Hp w0 V (jl ty hs ns++X) w):Hp w0 V (ig ty hs ns::X) w:=by
 obtain⟨p1,p2,p3⟩:=x_.1 h.sep;refine⟨h.os,h.tape,h.output,h.size,h.view,h.base,λx hx=>?_,λx hx b hb=>?_,?_⟩
 . rcases g_.1 hx with rfl|hx
   . exact⟨hl,λx hx=>h.objs x (l_ _ hx),p1⟩
   . exact h.objs x (y_ _ hx)
 . rcases g_.1 hx with rfl|hx
   . obtain⟨y,hy,hb⟩:=hb;exact h.apart y (l_ _ hy) b hb
   . exact h.apart x (y_ _ hx) b hb
 . refine List.Pairwise.cons (λy hy b hb=>?_) p2;obtain⟨x,hx,hb⟩:=hb;exact p3 x hx y hy b hb
theorem TreeOk.at_ {hs:List DHdr} {ns:List (Int⊕DNode)} (h:TreeOk hs ns) {i:Int} {n:DNode} (hn:j9 ns i=some n) :
 ∃a1 c1 a2 c2 a3 c3 a4 c4,0<=i/\i<(hs.length:Int)/\hs[i.toNat]? = some ⟨n.kind,a1,n.elems.length,c1,a2,n.kids.length,c2,a3,n.seps.length,c3,a4,n.tids.length,c4⟩:=by
 obtain⟨h0,h1⟩:=nj hn;obtain⟨⟨k,a1,n1,c1,a2,n2,c2,a3,n3,c3,a4,n4,c4⟩,h2,f1,f2,f3,f4,f5⟩:=h.fits _ _ h1;dsimp only at f1 f2 f3 f4 f5;subst f1 f2 f3 f4 f5;exact⟨a1,c1,a2,c2,a3,c3,a4,c4,h0,by have:=(j_.1 h2).1;omega,h2⟩
theorem TreeOk.kind_ {hs:List DHdr} {ns:List (Int⊕DNode)} (h:TreeOk hs ns) {i k:Int} (hn:su ns i=some k) :
 ∃a1 n1 c1 a2 n2 c2 a3 n3 c3 a4 n4 c4,0<=i/\i<(hs.length:Int)/\hs[i.toNat]? = some ⟨k,a1,n1,c1,a2,n2,c2,a3,n3,c3,a4,n4,c4⟩:=by
 unfold su at hn;split at hn
 . cases hn
 rename_i h0;obtain⟨x,hx,hk⟩:=H_.1 hn
 have hh:∃e,hs[i.toNat]? = some e/\e.kind=k:=by
  cases x with
  |inl q=>obtain rfl:q=k:=hk;exact h.lenk.kinds _ _ hx
  |inr n=>obtain rfl:n.kind=k:=hk;obtain⟨e,he,hf⟩:=h.fits _ _ hx;exact⟨e,he,hf.kind⟩
 obtain⟨⟨q,a1,n1,c1,a2,n2,c2,a3,n3,c3,a4,n4,c4⟩,h2,hk⟩:=hh;obtain rfl:q=k:=hk;exact⟨a1,n1,c1,a2,n2,c2,a3,n3,c3,a4,n4,c4,by omega,by have:=(j_.1 h2).1;omega,h2⟩
section
variable {N:Sz} {w0:World} {V:View} {H X H':List HObj} {M:List (Nat×Value)} {φ:Act->World->Prop} {ty:TreeTy} {hs:List DHdr} {ns:List (Int⊕DNode)} {k:Int} {n:DNode} {h:DHdr}
theorem rD {α:Type}:∀(l:List α) (i:Nat) (x:α),l[i]? = some x->l.Perm (x::l.eraseIdx i)
 |[],_,_,h=>by simp at h
 |a::l,0,x,h=>by
  obtain rfl:a=x:=by simpa using h
  exact List.Perm.refl _
 |a::l,i + 1,x,h=>((rD l i x (by simpa using h)).cons a).trans (List.Perm.swap _ _ _)
theorem oG {α:Type}:∀(l:List α) (i:Nat) (x y:α),l[i]? = some x->(l.set i y).Perm (y::l.eraseIdx i)
 |[],_,_,_,h=>by simp at h
 |a::l,0,x,y,h=>List.Perm.refl _
 |a::l,i + 1,x,y,h=>((oG l i x y (by simpa using h)).cons a).trans (List.Perm.swap _ _ _)
theorem nN {i:Nat} {x:HObj} (hi:nth H i=some x):H.Perm (x::H.eraseIdx i):=by rw[i9] at hi;exact rD H i x hi
theorem qn {i:Nat} {x y:HObj} (hi:nth H i=some x):(H.set i y).Perm (y::H.eraseIdx i):=by rw[i9] at hi;exact oG H i x y hi
theorem T.iY (i:Nat) (hi:nth H i=some (ig ty hs ns)) (q:TreeOk hs ns->T N w0 V H M φ):T N w0 V H M φ:=λa w hf hh=>q (TreeOk.of (hh.objs _ (by rw[i9] at hi;exact F_ hi))) a w hf hh
theorem T.nH (i:Nat) (hi:nth H i=some (ig ty hs ns)) (hn:j9 ns k=some n) (hh:hs[k.toNat]? = some h) (hH:H.set i (ig ty hs (iL ns k))=H')
 (q:T N w0 V (row ty.te eElem h.a1 h.c1 n.elems::row ty.ti gi h.a2 h.c2 n.kids::row ty.ts eSpot h.a3 h.c3 n.seps::row ty.ti gi h.a4 h.c4 n.tids::H') M φ):T N w0 V H M φ:=λa w hf hp=>by
 subst hH;obtain⟨h0,h1⟩:=nj hn;refine q a w hf ?_;obtain⟨hl,h2⟩:=(hp.perm (nN hi)).opened;have h3:=h2.perm (List.Perm.append_right _ (kV ty hs ns k.toNat h n (((ns[k.toNat]?).map sX).getD 0) hh h1));have hfit:Fits h n:=h3.objs _ a_;have h4:=(h3.sub (H':=iF ty h n++jl ty hs (iL ns k)++H.eraseIdx i) (.cons _ (List.Sublist.refl _)));have h5:Hp w0 V (jl ty hs (iL ns k)++(iF ty h n++H.eraseIdx i)) w:=h4.perm (by rw[<-u_];exact List.Perm.append_right _ C_);have h6:=Hp.closed (show LenK hs (iL ns k) from hl.inl hh (by rw[h1];exact hfit.kind)) h5;refine h6.perm ?_;have e1:(ig ty hs (iL ns k)::(iF ty h n++H.eraseIdx i)).Perm (iF ty h n++(ig ty hs (iL ns k)::H.eraseIdx i)):=p_.symm;exact e1.trans ((qn hi).symm.append_left (iF ty h n))
theorem T.vb (hX:H.Perm (row ty.te eElem h.a1 h.c1 n.elems::row ty.ti gi h.a2 h.c2 n.kids::row ty.ts eSpot h.a3 h.c3 n.seps::row ty.ti gi h.a4 h.c4 n.tids::ig ty hs ns::X))
 (h0:0<=k) {r:Int} (h1:ns[k.toNat]? = some (.inl r)) (hh:hs[k.toNat]? = some h) (hf:Fits h n) (q:T N w0 V (ig ty hs (jb ns k n)::X) M φ):T N w0 V H M φ:=λa w hfr hp=>by
 refine q a w hfr ?_;have h2:=hp.perm (hX.trans (show (iF ty h n++(ig ty hs ns::X)).Perm (ig ty hs ns::(iF ty h n++X)) from p_));obtain⟨hl,h3⟩:=h2.opened;have h4:Hp w0 V (km (Fits h n)::(iF ty h n++jl ty hs ns)++X) w:=(h3.perm (show (jl ty hs ns++(iF ty h n++X)).Perm ((iF ty h n++jl ty hs ns)++X) by rw[<-u_];exact List.Perm.append_right _ C_)).put hf;have hi:k.toNat<ns.length:=(j_.1 h1).1;have h5:=h4.perm (List.Perm.append_right X (tJ ty hs ns k.toNat h n r hh hi h1));exact Hp.closed (show LenK hs (jb ns k n) from hl.inr _ _) h5
theorem T.sR (hX:H.Perm (row ty.te eElem h.a1 h.c1 n.elems::row ty.ti gi h.a2 h.c2 n.kids::row ty.ts eSpot h.a3 h.c3 n.seps::row ty.ti gi h.a4 h.c4 n.tids::ig ty hs ns::X)) (hf:Fits h n)
 (q:T N w0 V (ig ty (hs++[h]) (ns++[.inr n])::X) M φ):T N w0 V H M φ:=λa w hfr hp=>by
 refine q a w hfr ?_;have h2:=hp.perm (hX.trans (show (iF ty h n++(ig ty hs ns::X)).Perm (ig ty hs ns::(iF ty h n++X)) from p_));obtain⟨hl,h3⟩:=h2.opened;have h4:=h3.put hf;refine Hp.closed (hl.push h n) ?_;rw[oJ ty h (.inr n) hs ns hl.len];refine h4.perm ?_;have e1:jl ty [h] [.inr n]=km (Fits h n)::iF ty h n:=by simp[jl]
 rw[e1];show (km (Fits h n)::(jl ty hs ns++(iF ty h n++X))).Perm (jl ty hs ns++(km (Fits h n)::iF ty h n)++X);rw[u_];exact p_.symm
theorem T.uv (i:Nat) (k:Int) (hi:nth H i=some (ig ty hs ns)) (hH:H.set i (ig ty hs (iL ns k))=H') (q:T N w0 V H' M φ):T N w0 V H M φ:=λa w hf hp=>by
 subst hH;refine q a w hf ?_;have ht:=TreeOk.of (hp.objs _ (by rw[i9] at hi;exact F_ hi));obtain⟨hl,h2⟩:=(hp.perm (nN hi)).opened;have h3:=h2.sub (H':=jl ty hs (iL ns k)++H.eraseIdx i) ((qq ty hs ns k.toNat _).append (List.Sublist.refl _));refine(Hp.closed ?_ h3).perm (qn hi).symm;unfold iL
 cases hx:ns[k.toNat]? with
 |none=>rw[List.set_eq_of_length_le (List.getElem?_eq_none_iff.1 hx)];exact hl
 |some x =>
  cases x with
  |inl q=>obtain⟨e,he,hk⟩:=hl.kinds _ _ hx;exact hl.inl he hk
  |inr n=>obtain⟨e,he,hf⟩:=ht.fits _ _ hx;exact hl.inl he hf.kind
theorem T.tS (i:Nat) (j:Nat) (h':DHdr) (hi:nth H i=some (ig ty hs ns)) {r:Int} (hj:ns[j]? = some (.inl r)) (hH:H.set i (ig ty (hs.set j h') (ns.set j (.inl h'.kind)))=H') (q:T N w0 V H' M φ):T N w0 V H M φ:=λa w hf hp=>by subst hH;refine q a w hf ?_;obtain⟨hl,h2⟩:=(hp.perm (nN hi)).opened;refine(Hp.closed (hl.head j h') ?_).perm (qn hi).symm;rw[qr ty hs ns j h' _ _ hj];exact h2
theorem T.tf (ty:TreeTy) (q:T N w0 V (ig ty [] []::H) M φ):T N w0 V H M φ:=λa w hf hp=>q a w hf (Hp.closed LenK.nil hp)
end
def rQ (x:HObj):Prop:=∀V V' w,x.ok V w->x.ok V' w
def rh:List HObj->Prop
 |[]=>True
 |x::l=>rQ x/\rh l
theorem rh.mem:∀ {l:List HObj},rh l->∀x∈l,rQ x
 |[],_,x,h=>by cases h
 |a::l,h,x,hx=>by
  rcases g_.1 hx with rfl|hx
  . exact h.1
  . exact rh.mem h.2 x hx
theorem iW {α:Type} {E:Enc α} {p:Bool} {e:TypeId} {A:Option Addr} {c:Nat} {l:List α} (hf:∀V V' cs x,E.rep V cs x->E.rep V' cs x):rQ (jQ p e E A c l):=λV V' w h=>by obtain⟨h1,h2,h3⟩:=h;exact⟨h1,h2,h3.imp id λ⟨g,cur,fz,xs,h⟩=>⟨g,cur,fz,xs,{ h with rep:=⟨h.rep.1,λk x hk=>hf _ _ _ _ (h.rep.2 k x hk)⟩ }⟩⟩
theorem nZ (ty:TreeTy):∀(hs:List DHdr) (ns:List (Int⊕DNode)),∀x∈jl ty hs ns,rQ x
 |[],ns,x,hx=>by cases ns <;> simp[jl] at hx
 |_::_,[],x,hx=>by simp[jl] at hx
 |a::hs,.inl _::ns,x,hx=>nZ ty hs ns x hx
 |a::hs,.inr m::ns,x,hx=>by
  rcases g_.1 hx with rfl|hx
  . exact λ_ _ _ h=>h
  rcases v_.1 hx with hx|hx
  . simp only[iF,g_,List.not_mem_nil,or_false] at hx;rcases hx with rfl|rfl|rfl|rfl <;> exact iW λ_ _ _ _ h=>h
  . exact nZ ty hs ns x hx
theorem tx (ty:TreeTy) (hs:List DHdr) (ns:List (Int⊕DNode)):rQ (ig ty hs ns):=λV V' w ⟨h1,h2,h3⟩=>⟨h1,λx hx=>nZ ty hs ns x hx V V' w (h2 x hx),h3⟩
def nR (w w':World) (X:List HObj):Prop:=∀ {w0:World} {V:View} {H:List HObj},Hp w0 V H w->Hp w0 V (X++H) w'
theorem jU {w w':World} {V1:View} {X:List HObj} (h:Hp w V1 X w') (hf:rh X):nR w w' X:=λ{w0 V H} hp=>by
 have hold:∀b,b<w.heap.size->w'.heap[b]? = w.heap[b]?:=λb hb=>by have h1:=h.view b w.heap[b] (h.base b _ (z_ hb));rw[z_ hb];exact h1
 have hnew:∀x∈X,∀b,x.own b->w.heap.size<=b:=λx hx b hb=>by
  rcases B_ b w.heap.size with hlt|hge
  . have h1:=h.apart x hx b hb;have h2:=h.base b w.heap[b] (z_ hlt);rw[h1] at h2;cases h2
  . exact hge
 refine⟨h.os.trans hp.os,h.tape.trans hp.tape,h.output.trans hp.output,Nat.le_trans hp.size h.size,λb o hv=>?_,hp.base,λx hx=>?_,λx hx b hb=>?_,?_⟩
 . have h1:=hp.view b o hv;show w'.heap[b]? = some o;rw[hold b (jr h1)];exact h1
 . rcases v_.1 hx with hx|hx
   . exact hf.mem x hx _ _ _ (h.objs x hx)
   . exact x.loc V w w' (λb hb=>hold b (x.lt V w b (hp.objs x hx) hb)) (hp.objs x hx)
 . rcases v_.1 hx with hx|hx
   . cases hv:V b with
     |none=>rfl
     |some o=>exact absurd (jr (hp.view _ _ hv)) (by have:=hnew x hx b hb;omega)
   . exact hp.apart x hx b hb
 . refine x_.2 ⟨h.sep,hp.sep,λx hx y hy b hb hyb=>?_⟩;have:=hnew x hx b hb;have:=y.lt V w b (hp.objs y hy) hyb;omega
section
variable {P:Program} {N:Sz} {w0:World} {V:View} {H:List HObj} {M:List (Nat×Value)} {ops:Array Oper} {Q:Exit->Act->World->Prop} {o:Oper} {K:Act->World->Prop}
theorem W1.jF {π:Type} (f:FuncId) (vs:Array Value) (v:π->Value) (X:π->List HObj) (R:π->Prop) (hc:okO N ops M o=true) (hv:∀w,(execOp (evM M) o).run P w=.ok (.enter f vs) w)
 (hf:∀w,Hp w0 V H w->Calls P f vs w λe w'=>∃p,e=.returned (v p)/\R p/\nR w w' (X p)) (h:∀p,R p->T N w0 V (X p++H) (ic o.dst (v p) M) K):W1 P Q ops o N w0 V H M K:=λa w hfr hh=>by
 obtain⟨h1,_,_,h4⟩:=iP hc;refine⟨iM hfr h1,?_⟩;unfold Oper.wp;rw[ja hc hfr,hv w,Oper.upon_enter];refine(hf w hh).mono ?_;rintro e w' ⟨p,rfl,hr,hg⟩;exact h p hr _ _ (hfr.put h4 _) (hg hh)
end
def ut (ty:TreeTy) (n:DNode) (w:World) (e:Ending) (w':World):Prop:=∃h:DHdr,e=.returned (.agg h.cells.toArray)/\Fits h n/\nR w w' (iF ty h n)
def uu (ty:TreeTy) (tn:TypeId) (t:DTree) (w:World) (e:Ending) (w':World):Prop:=∃p:Option Addr×Nat×List DHdr,e=.returned (.agg #[.int .i64 t.root,.slice p.1 p.2.2.length p.2.1])/\p.2.2.length=t.nodes.length/\nR w w' [row tn eHdr p.1 p.2.1 p.2.2,ig ty p.2.2 (t.nodes.map f_)]
theorem Hp.lent {w0:World} {V:View} {H:List HObj} {w:World} {ty:TreeTy} {hs:List DHdr} {ns:List (Int⊕DNode)} {k:Int} {n:DNode} {h:DHdr} (hp:Hp w0 V H w) {i:Nat} (hi:nth H i=some (ig ty hs ns)) (hn:j9 ns k=some n) (hh:hs[k.toNat]? = some h) :
 fI (vw w) eElem h.a1 h.c1 n.elems/\fI (vw w) gi h.a2 h.c2 n.kids/\fI (vw w) eSpot h.a3 h.c3 n.seps/\fI (vw w) gi h.a4 h.c4 n.tids:=by
 obtain⟨h0,h1⟩:=nj hn;obtain⟨hl,h2⟩:=(hp.perm (nN hi)).opened;have h3:=h2.perm (List.Perm.append_right _ (kV ty hs ns k.toNat h n 0 hh h1));exact⟨h3.row_slOk (i:=1) rfl,h3.row_slOk (i:=2) rfl,h3.row_slOk (i:=3) rfl,h3.row_slOk (i:=4) rfl⟩
def sY (bytes n:Nat):Option Unit:=if n * bytes<=140737488355328/\n<=maxLen then some () else none
theorem qp {bytes n:Nat} {u:Unit} (h:sY bytes n=some u):mY n bytes=true/\n<=maxLen:=by
 unfold sY at h;by_cases hc:n * bytes<=140737488355328/\n<=maxLen
 . exact⟨decide_eq_true hc.1,hc.2⟩
 . rw[if_neg hc] at h;cases h
def kJ (ns:List (Int⊕DNode)) (i:Int):Option Unit:=if 0<=i/\i<(ns.length:Int) then some () else none
theorem TreeOk.has {hs:List DHdr} {ns:List (Int⊕DNode)} (h:TreeOk hs ns) {i:Int} {u:Unit} (hn:kJ ns i=some u):0<=i/\i<(hs.length:Int)/\∃x,hs[i.toNat]? = some x:=by
 unfold kJ at hn;split at hn
 . rename_i hi;have:=h.len;exact⟨hi.1,by omega,_,E_ o_⟩
 . cases hn
theorem uG {ns:List (Int⊕DNode)} {i:Int} {u:Unit} (hn:kJ ns i=some u):(iL ns i)[i.toNat]? = some (.inl (((ns[i.toNat]?).map sX).getD 0)):=by
 unfold kJ at hn;split at hn
 . unfold iL;rw[i_ o_]
 . cases hn
def qP:List (Int⊕DNode)->Option (List DNode)
 |[]=>some []
 |.inl _::_=>none
 |.inr n::ns=>(qP ns).map (n::·)
theorem li:∀ {ns:List (Int⊕DNode)} {l:List DNode},qP ns=some l->ns=l.map f_
 |[],l,h=>by obtain rfl:[]=l:=Option.some.inj h;rfl
 |.inl _::ns,l,h=>by cases h
 |.inr n::ns,l,h=>by obtain⟨m,hm,rfl⟩:=H_.1 h;rw[li hm];rfl
theorem vv (l:List DNode):qP (l.map f_)=some l:=by
 induction l with
 |nil=>rfl
 |cons n l ih=>show (qP (l.map f_)).map _=_;rw[ih];rfl
theorem uj {α:Type} {E:Enc α} {p:Bool} {e:TypeId} {A:Option Addr} {c:Nat} {l:List α} {V U:View} {w:World} (hf:∀V V' cs x,E.rep V cs x->E.rep V' cs x) (h:(jQ p e E A c l).ok V w) (hU:∀b,iJ A c=some b->U b=w.heap[b]?):fI U E A c l:=by
 obtain⟨h1,h2,h3⟩:=h;refine⟨h1,h2,?_⟩;by_cases hc:c=0
 . have hl:l=[]:=List.eq_nil_of_length_eq_zero o_;subst hl;exact⟨[],io.nil,λj u hu=>by simp at hu⟩
 rcases h3 with h3|⟨g,cur,fz,xs,h3⟩
 . exact absurd h3 hc
 refine⟨xs,⟨h3.rep.1,λk x hk=>hf _ _ _ _ (h3.rep.2 k x hk)⟩,λj u hu=>?_⟩;obtain⟨a,ha,hcell⟩:=h3.cells j u hu;refine⟨a,ha,?_⟩;have hag:a=⟨g,0,none⟩:=Option.some.inj (ha.symm.trans h3.adr);subst hag;have hb:=hU g (by unfold iJ;rw[if_neg hc,h3.adr];rfl);have e1:((⟨g,0,none⟩:Addr).add j).block=g:=lL _ _;unfold View.cell;rw[e1,hb];rw[oO,World.cell?,e1] at hcell;exact hcell
open Classical in
theorem Hp.freezeAll {w0:World} {V:View} {X H:List HObj} {w:World} (h:Hp w0 V (X++H) w):∃V',View.le V V'/\Hp w0 V' H w/\∀x∈X,∀b,x.own b->V' b=w.heap[b]?/\w0.heap.size<=b:=by
 obtain⟨p1,p2,p3⟩:=x_.1 h.sep
 have hle:View.le V (λb=>if ∃x∈X,x.own b then w.heap[b]? else V b):=λb o hv=>by
  show (if ∃x∈X,x.own b then w.heap[b]? else V b)=some o;split
  . exact h.view b o hv
  . exact hv
 refine⟨λb=>if ∃x∈X,x.own b then w.heap[b]? else V b,hle,⟨h.os,h.tape,h.output,h.size,λb o hv=>?_,View.le_trans h.base hle,λy hy=>y.mono _ _ _ hle (h.objs y (y_ _ hy)),λy hy b hyb=>?_,p2⟩,λx hx b hb=>⟨?_,?_⟩⟩
 . have hv':(if ∃x∈X,x.own b then w.heap[b]? else V b)=some o:=hv;split at hv'
   . exact hv'
   . exact h.view b o hv'
 . show (if ∃x∈X,x.own b then w.heap[b]? else V b)=none;rw[if_neg (λ⟨x,hx,hb⟩=>p3 x hx y hy b hb hyb)];exact h.apart y (y_ _ hy) b hyb
 . show (if ∃x∈X,x.own b then w.heap[b]? else V b)=_;rw[if_pos ⟨x,hx,hb⟩]
 . rcases B_ b w0.heap.size with hlt|hge
   . have h1:=h.apart x (l_ _ hx) b hb;have h2:=h.base b w0.heap[b] (z_ hlt);rw[h1] at h2;cases h2
   . exact hge
theorem T.lH {N:Sz} {w0:World} {V:View} {H H':List HObj} {M:List (Nat×Value)} {φ:Act->World->Prop} {ty:TreeTy} {hs:List DHdr} {l:List DNode} {tn:TypeId} {A:Option Addr} {c:Nat}
 (hP:H.Perm (row tn eHdr A c hs::ig ty hs (l.map f_)::H')) (q:∀V',View.le V V'->fI (made w0 V') iy A c l->hs.length=l.length->T N w0 V' H' M φ):T N w0 V H M φ:=λa w hf hp=>by
 obtain⟨hl,h1⟩:=(hp.perm (hP.trans (List.Perm.swap _ _ _))).opened;replace hl:=hl.len;rw[List.length_map] at hl;have h2:Hp w0 V ((row tn eHdr A c hs::jl ty hs (l.map f_))++H') w:=h1.perm p_;obtain⟨V',hv,h3,h4⟩:=h2.freezeAll;refine q V' hv ?_ hl a w hf h3;have hU:∀x∈row tn eHdr A c hs::jl ty hs (l.map f_),∀b,x.own b->(made w0 V') b=w.heap[b]?:=λx hx b hb=>by obtain⟨e1,e2⟩:=h4 x hx b hb;unfold made;rw[if_neg o_];exact e1
 have hrow:=uj (U:=made w0 V') (λ_ _ _ _ h=>h) (h2.objs _ a_) (hU _ a_);obtain⟨k1,k2,xs,k3,k4⟩:=hrow;refine⟨by omega,k2,xs,⟨by rw[k3.1,hl];rfl,λk n hn=>?_⟩,k4⟩;have hkl:=(j_.1 hn).1;have hh:hs[k]? = some (hs[k]'o_):=E_ o_;have hc:=k3.2 k _ hh;have hmem:=kV ty hs (l.map f_) k _ n 0 hh (by rw[List.getElem?_map,hn];rfl);have hfit:Fits (hs[k]'o_) n:=h2.objs _ (l_ _ (d_ _ (hmem.mem_iff.2 a_)));have hin:∀x∈iF ty (hs[k]'o_) n,x∈row tn eHdr A c hs::jl ty hs (l.map f_):=λx hx=>d_ _ (hmem.mem_iff.2 (d_ _ (l_ _ hx)))
 have hsl:∀ {α:Type} {E:Enc α} {e:TypeId} {B:Option Addr} {d:Nat} {m:List α},(∀V V' cs x,E.rep V cs x->E.rep V' cs x)->row e E B d m∈iF ty (hs[k]'o_) n->fI (made w0 V') E B d m:=λhfl hx =>
  uj hfl (h2.objs _ (l_ _ (hin _ hx))) (hU _ (hin _ hx))
 generalize hs[k]'o_=hd at *
 obtain⟨kk,a1,n1,c1,a2,n2,c2,a3,n3,c3,a4,n4,c4⟩:=hd;obtain⟨f0,f1,f2,f3,f4⟩:=hfit;dsimp only at f0 f1 f2 f3 f4;subst f0 f1 f2 f3 f4;exact⟨a1,c1,a2,c2,a3,c3,a4,c4,hc,hsl (e:=ty.te) (λ_ _ _ _ h=>h) a_,hsl (e:=ty.ti) (λ_ _ _ _ h=>h) (d_ _ a_),hsl (e:=ty.ts) (λ_ _ _ _ h=>h) (d_ _ (d_ _ a_)),hsl (e:=ty.ti) (λ_ _ _ _ h=>h) (d_ _ (d_ _ (d_ _ a_)))⟩
theorem jX {ns:List (Int⊕DNode)} {i:Int} {n:DNode} {u:Unit} (h:kJ ns i=some u):j9 (jb ns i n) i=some n:=by
 unfold kJ at h;split at h
 . rename_i hi;unfold j9 jb;rw[if_neg o_,i_ o_];rfl
 . cases h
theorem tG (ns:List (Int⊕DNode)) (i:Int) (n:DNode):jb (iL ns i) i n=jb ns i n:=by unfold jb iL;rw[D_]
theorem tH {ns:List (Int⊕DNode)} {i:Int} {n:DNode} (x:Int⊕DNode):jb (ns.set i.toNat x) i n=jb ns i n:=by unfold jb;rw[D_]
theorem sV {ns:List (Int⊕DNode)} {i:Int} {u:Unit} (h:kJ ns i=some u):0<=i/\i.toNat<ns.length:=by
 unfold kJ at h;split at h
 . omega
 . cases h
theorem TreeOk.set_at {hs:List DHdr} {ns:List (Int⊕DNode)} (ht:TreeOk hs ns) {i:Int} {u:Unit} (h':DHdr) (h:kJ ns i=some u):(hs.set i.toNat h')[i.toNat]? = some h':=by have:=sV h;rw[i_ (by rw[ht.len];exact this.2)]
def uF (a b:DNode):Option Unit:=if a.elems.length=b.elems.length/\a.kids.length=b.kids.length/\a.seps.length=b.seps.length/\a.tids.length=b.tids.length then some () else none
theorem kU {a b:DNode} {u:Unit} (h:uF a b=some u):a.elems.length=b.elems.length/\a.kids.length=b.kids.length/\a.seps.length=b.seps.length/\a.tids.length=b.tids.length:=by
 unfold uF at h;split at h
 . assumption
 . cases h
section
variable {N:Sz} {w0:World} {V:View} {H X H':List HObj} {M:List (Nat×Value)} {φ:Act->World->Prop} {ty:TreeTy} {hs:List DHdr} {ns:List (Int⊕DNode)} {k:Int} {n:DNode} {h:DHdr}
theorem T.lV (X:List HObj) (h:DHdr) (n:DNode) (hP:H.Perm (row ty.te eElem h.a1 h.c1 n.elems::row ty.ti gi h.a2 h.c2 n.kids::row ty.ts eSpot h.a3 h.c3 n.seps::row ty.ti gi h.a4 h.c4 n.tids::ig ty hs ns::X)) (hf:Fits h n) {u:Unit} (hk:kJ ns k=some u)
 (q:T N w0 V (ig ty (hs.set k.toNat h) (jb ns k n)::X) M φ):T N w0 V H M φ:=λa w hfr hp=>by
 have h1:=hp.perm hP;have h0:=sV hk;obtain⟨hok,-⟩:=(h1.perm (p_ (l₁:=iF ty h n))).opened;have hlen:k.toNat<hs.length:=by have:=hok.len;omega
 have e1:(hs.set k.toNat h)[k.toNat]? = some h:=i_ hlen;rw[<-tG,<-tH (.inl h.kind)] at q;refine T.uv (H:=row ty.te eElem h.a1 h.c1 n.elems::row ty.ti gi h.a2 h.c2 n.kids::row ty.ts eSpot h.a3 h.c3 n.seps::row ty.ti gi h.a4 h.c4 n.tids::ig ty hs ns::X) 4 k rfl rfl ?_ a w hfr h1;refine T.tS 4 k.toNat h rfl (uG hk) rfl ?_;exact T.vb (h:=h) (n:=n) (r:=h.kind) (List.Perm.refl _) h0.1 (i_ (by unfold iL;rw[q_];exact h0.2)) e1 hf q
theorem T.rR (X:List HObj) (h:DHdr) (n:DNode) (hP:H.Perm (row ty.te eElem h.a1 h.c1 n.elems::row ty.ti gi h.a2 h.c2 n.kids::row ty.ts eSpot h.a3 h.c3 n.seps::row ty.ti gi h.a4 h.c4 n.tids::ig ty hs ns::X)) (hf:Fits h n) (ht:TreeOk hs ns) (h0:0<=k) (hh:hs[k.toNat]? = some h)
 (q:T N w0 V (ig ty hs (jb ns k n)::X) M φ):T N w0 V H M φ:=by
 have hlt:=(j_.1 hh).1;have hk:kJ ns k=some ():=by unfold kJ;rw[if_pos ⟨h0,by have:=ht.len;omega⟩]
 refine T.lV X h n hP hf hk ?_
 have e:hs.set k.toNat h=hs:=List.ext_getElem? λj=>by
  rw[t_];split
  . rename_i e;subst e;first|rw[if_pos hlt,hh]|exact hh.symm
  . rfl
 rw[e];exact q
theorem T.ou {α:Type} {E:Enc α} {f:α->List Value} {l:List α} {b t:Nat} (i:Nat) (H':List HObj) (hi:nth H i=some (box b t (l.flatMap f))) (hf:∀V x,E.rep V (f x) x) (hl:0<l.length) (hm:l.length<=maxLen) (hH:H.set i (row t E (some ⟨b,0,none⟩) l.length l)=H')
 (q:T N w0 V H' M φ):T N w0 V H M φ:=λa w hfr hh=>by
 rw[i9] at hi;have hbox:w.heap[b]? = some (.cells (l.flatMap f).toArray t (0,0)):=hh.objs _ (F_ hi);have hrep:io V E (l.flatMap f) l:=nr hf l;have hlen:=hrep.1;have hblk:iJ (some (⟨b,0,none⟩:Addr)) l.length=some b:=by unfold iJ;rw[if_neg o_];rfl
 refine q a w hfr (hH▸hh.turn (o:=none) hi ⟨rfl,rfl,rfl,Nat.le_refl _,λ_ _ _=>rfl⟩ ?_ (λb' hb'=>.inl ?_))
 . exact⟨Nat.le_refl _,hm,.inr ⟨b,_,_,(l.flatMap f),⟨rfl,hbox,λ_=>rfl,λi _ h=>by simp at h,by rw[List.size_toArray,hlen],by rw[<-hlen,List.take_length],hrep⟩⟩⟩
 . exact hblk.symm.trans hb'
end
end
end Go.Proofs.YtnofgfobljadbaaGreat
