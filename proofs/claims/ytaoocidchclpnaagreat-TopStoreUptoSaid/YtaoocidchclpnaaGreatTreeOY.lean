/- Trees that a call has made and may still write: the row of the nodes' headers, and behind it, at the end of the list of objects, the rows of all nodes that are not taken out. Its conditions: none. -/
import Derived.Test.YtaoocidchclpnaaGreatRecY
import Derived.Test.YtaoocidchclpnaaGreatRangeY
open List renaming mem_cons_self→a_, mem_cons_of_mem→d_, mem_cons→g_, getElem?_set_self→i_, getElem?_eq_some_iff→j_, mem_append_left→l_, perm_middle→o_, length_set→p_, getElem?_set→q_, append_assoc→t_, mem_append→u_, pairwise_append→v_, mem_append_right→x_, perm_append_comm→B_, set_set→C_, getElem?_eq_getElem→D_, mem_of_getElem?→E_, getElem?_append_left→F_
open Sum renaming inr→f_
open Array renaming getElem?_eq_getElem→y_
open Nat renaming lt_or_ge→z_
open Option renaming map_eq_some_iff→G_
namespace Go.Proofs.YtaoocidchclpnaaGreat
open Go.RowKit
set_option linter.unusedVariables false
structure DHdr where
 kind:Int
 a1:Option Addr
 n1:Nat
 c1:Nat
 a2:Option Addr
 n2:Nat
 c2:Nat
 a3:Option Addr
 n3:Nat
 c3:Nat
 a4:Option Addr
 n4:Nat
 c4:Nat
abbrev DHdr.cells (h:DHdr) : List Value:=[.int .i64 h.kind,.slice h.a1 h.n1 h.c1,.slice h.a2 h.n2 h.c2,.slice h.a3 h.n3 h.c3,.slice h.a4 h.n4 h.c4]
def eHdr:Enc DHdr:=mA 5 DHdr.cells (fun _=>rfl) (fun _=>jg rfl)
structure Fits (h:DHdr) (n:DNode) : Prop where
 kind:h.kind=n.kind
 n1:h.n1=n.elems.length
 n2:h.n2=n.kids.length
 n3:h.n3=n.seps.length
 n4:h.n4=n.tids.length
def kW (p:Prop) : HObj where
 own:=fun _=>False
 ok:=fun _ _=>p
 loc:=fun _ _ _ _ h=>h
 mono:=fun _ _ _ _ h=>h
 lt:=fun _ _ _ _ h=>by cases h
structure TreeTy where
 te:TypeId
 ti:TypeId
 ts:TypeId
def iO (ty:TreeTy) (h:DHdr) (n:DNode) : List HObj:=[row ty.te eElem h.a1 h.c1 n.elems,row ty.ti hO h.a2 h.c2 n.kids,row ty.ts eSpot h.a3 h.c3 n.seps,row ty.ti hO h.a4 h.c4 n.tids]
def jw (ty:TreeTy) : List DHdr→List (Int ⊕ DNode)→List HObj
 | h::hs,.inr n::ns=>kW (Fits h n)::(iO ty h n ++ jw ty hs ns)
 | _::hs,.inl _::ns=>jw ty hs ns
 | _,_=>[]
def uo (x y:HObj) : Prop:=∀ b,x.own b→¬ y.own b
structure LenK (hs:List DHdr) (ns:List (Int ⊕ DNode)) : Prop where
 len:hs.length=ns.length
 kinds : ∀(i:Nat) (k:Int),ns[i]? = some (.inl k)→∃ h,hs[i]? = some h∧h.kind=k
theorem LenK.nil:LenK [] []:=⟨rfl,fun i k h=>by simp at h⟩
theorem LenK.inl {hs:List DHdr} {ns:List (Int ⊕ DNode)} (h:LenK hs ns) {i:Nat} {x:DHdr} {k:Int} (hx:hs[i]? = some x) (hk:x.kind=k) : LenK hs (ns.set i (.inl k)):=⟨by rw [p_];exact h.len,fun j q hq=>by
 rw [q_] at hq
 split at hq
 · rename_i e;subst e
   split at hq
   · obtain rfl:k=q:=by simpa using hq
     exact⟨x,hx,hk⟩
   · cases hq
 · exact h.kinds j q hq⟩
theorem LenK.inr {hs:List DHdr} {ns:List (Int ⊕ DNode)} (h:LenK hs ns) (i:Nat) (n:DNode) : LenK hs (ns.set i (.inr n)):=⟨by rw [p_];exact h.len,fun j q hq=>by
 rw [q_] at hq
 split at hq
 · split at hq
   · cases hq
   · cases hq
 · exact h.kinds j q hq⟩
theorem LenK.head {hs:List DHdr} {ns:List (Int ⊕ DNode)} (h:LenK hs ns) (i:Nat) (x:DHdr) : LenK (hs.set i x) (ns.set i (.inl x.kind)):=⟨by rw [p_,p_];exact h.len,fun j q hq=>by
 rw [q_] at hq ⊢
 have hl:=h.len
 split at hq
 · rename_i e;subst e
   split at hq
   · rename_i hi
     obtain rfl:x.kind=q:=by simpa using hq
     rw [if_pos rfl,if_pos (by omega)]
     exact⟨x,rfl,rfl⟩
   · cases hq
 · rename_i e
   rw [if_neg e]
   exact h.kinds j q hq⟩
theorem LenK.push {hs:List DHdr} {ns:List (Int ⊕ DNode)} (h:LenK hs ns) (x:DHdr) (n:DNode) : LenK (hs ++ [x]) (ns ++ [.inr n]):=⟨by simp [h.len],fun j q hq=>by
 rcases z_ j ns.length with hlt | hge
 · rw [F_ hlt] at hq
   obtain⟨y,hy,hk⟩:=h.kinds j q hq
   exact⟨y,by rw [F_ (by have:=h.len;omega)];exact hy,hk⟩
 · rw [List.getElem?_append_right hge] at hq
   cases hj:j - ns.length with
   | zero=>rw [hj] at hq;simp at hq
   | succ m=>rw [hj] at hq;simp at hq⟩
def iz (ty:TreeTy) (hs:List DHdr) (ns:List (Int ⊕ DNode)) : HObj where
 own:=fun b=>∃ x∈jw ty hs ns,x.own b
 ok:=fun V w=>LenK hs ns∧(∀ x∈jw ty hs ns,x.ok V w)∧(jw ty hs ns).Pairwise uo
 loc:=fun V w w' hb ⟨h1,h2,h3⟩=>⟨h1,fun x hx=>x.loc V w w' (fun b hxb=>hb b ⟨x,hx,hxb⟩) (h2 x hx),h3⟩
 mono:=fun V V' w hv ⟨h1,h2,h3⟩=>⟨h1,fun x hx=>x.mono V V' w hv (h2 x hx),h3⟩
 lt:=fun V w b ⟨_,h2,_⟩ ⟨x,hx,hb⟩=>x.lt V w b (h2 x hx) hb
theorem kX (ty:TreeTy) : ∀(hs:List DHdr) (ns:List (Int ⊕ DNode)) (i:Nat) (h:DHdr) (n:DNode) (q:Int),hs[i]? = some h→ns[i]? = some (.inr n)→(jw ty hs ns).Perm (kW (Fits h n)::(iO ty h n ++ jw ty hs (ns.set i (.inl q))))
 | [],_,i,h,n,_,h1,_=>by simp at h1
 | _,[],i,h,n,_,_,h2=>by simp at h2
 | a::hs,m::ns,0,h,n,q,h1,h2=>by
  obtain rfl:a=h:=by simpa using h1
  obtain rfl:m = .inr n:=by simpa using h2
  exact List.Perm.refl _
 | a::hs,m::ns,i + 1,h,n,q,h1,h2=>by
  have ih:=kX ty hs ns i h n q (by simpa using h1) (by simpa using h2)
  cases m with
  | inl _=>exact ih
  | inr m =>
   show (kW (Fits a m)::(iO ty a m ++ jw ty hs ns)).Perm (kW (Fits h n)::(iO ty h n ++ (kW (Fits a m)::(iO ty a m ++ jw ty hs (ns.set i (.inl q))))))
   have h3:=(ih.append_left (kW (Fits a m)::iO ty a m))
   refine h3.trans ?_
   show ((kW (Fits a m)::iO ty a m) ++ ((kW (Fits h n)::iO ty h n) ++ jw ty hs (ns.set i (.inl q)))).Perm ((kW (Fits h n)::iO ty h n) ++ ((kW (Fits a m)::iO ty a m) ++ jw ty hs (ns.set i (.inl q))))
   rw [← t_,← t_]
   exact List.Perm.append_right _ B_
theorem sG (ty:TreeTy) (hs:List DHdr) (ns:List (Int ⊕ DNode)) (i:Nat) (h:DHdr) (n:DNode) (q:Int) (h1:hs[i]? = some h) (h2:i < ns.length) (h3:ns[i]? = some (.inl q)) :
 (kW (Fits h n)::(iO ty h n ++ jw ty hs ns)).Perm (jw ty hs (ns.set i (.inr n))):=by
 have:=kX ty hs (ns.set i (.inr n)) i h n q h1 (by rw [i_ h2])
 rw [C_,show ns.set i (.inl q)=ns from List.ext_getElem? fun j=>by
  rw [q_]
  split
  · rename_i e;subst e;first | rw [if_pos h2,h3] | exact h3.symm
  · rfl] at this
 exact this.symm
theorem qa (ty:TreeTy) : ∀(hs:List DHdr) (ns:List (Int ⊕ DNode)) (i:Nat) (h:DHdr) (q r:Int),ns[i]? = some (.inl q)→jw ty (hs.set i h) (ns.set i (.inl r))=jw ty hs ns
 | [],_,i,h,_,_,_=>by simp [jw]
 | _::_,[],i,h,_,_,h2=>by simp at h2
 | a::hs,m::ns,0,h,q,r,h2=>by
  obtain rfl:m = .inl q:=by simpa using h2
  rfl
 | a::hs,m::ns,i + 1,h,q,r,h2=>by
  have ih:=qa ty hs ns i h q r (by simpa using h2)
  cases m with
  | inl _=>exact ih
  | inr m=>show kW (Fits a m)::(iO ty a m ++ jw ty (hs.set i h) (ns.set i (.inl r)))=_;rw [ih];rfl
theorem p9 (ty:TreeTy) : ∀(hs:List DHdr) (ns:List (Int ⊕ DNode)) (i:Nat) (q:Int),(jw ty hs (ns.set i (.inl q))).Sublist (jw ty hs ns)
 | [],ns,i,q=>by cases ns <;> simp [jw]
 | _::_,[],i,q=>by simp [jw]
 | a::hs,m::ns,0,q=>by
  cases m with
  | inl _=>exact List.Sublist.refl _
  | inr m=>exact (List.sublist_append_right (kW (Fits a m)::iO ty a m) _)
 | a::hs,m::ns,i + 1,q=>by
  have ih:=p9 ty hs ns i q
  cases m with
  | inl _=>exact ih
  | inr m=>exact (List.Sublist.refl (kW (Fits a m)::iO ty a m)).append ih
theorem oC (ty:TreeTy) (h:DHdr) (m:Int ⊕ DNode) : ∀(hs:List DHdr) (ns:List (Int ⊕ DNode)),hs.length=ns.length→jw ty (hs ++ [h]) (ns ++ [m])=jw ty hs ns ++ jw ty [h] [m]
 | [],[],_=>by simp [jw]
 | [],_::_,h=>by simp at h
 | _::_,[],h=>by simp at h
 | a::hs,x::ns,hl=>by
  have ih:=oC ty h m hs ns (by simpa using hl)
  cases x with
  | inl _=>exact ih
  | inr x=>show kW (Fits a x)::(iO ty a x ++ jw ty (hs ++ [h]) (ns ++ [m]))=_;rw [ih];simp [jw]
theorem Hp.put {w0:World} {V:View} {H:List HObj} {w:World} {p:Prop} (h:Hp w0 V H w) (hp:p) : Hp w0 V (kW p::H) w :=
 ⟨h.os,h.tape,h.output,h.size,h.view,h.base,fun x hx=>by
  rcases g_.1 hx with rfl | hx
  · exact hp
  · exact h.objs x hx,fun x hx b hb=>by
  rcases g_.1 hx with rfl | hx
  · cases hb
  · exact h.apart x hx b hb,List.Pairwise.cons (fun y _ b hb=>by cases hb) h.sep⟩
def inN:Int ⊕ DNode→Option DNode
 | .inl _=>none
 | .inr n=>some n
def rX:Int ⊕ DNode→Int
 | .inl k=>k
 | .inr n=>n.kind
def kh (ns:List (Int ⊕ DNode)) (i:Int) : Option DNode:=if i < 0 then none else (ns[i.toNat]?).bind inN
def rC (ns:List (Int ⊕ DNode)) (i:Int) : Option Int:=if i < 0 then none else (ns[i.toNat]?).map rX
def iT (ns:List (Int ⊕ DNode)) (i:Int) : List (Int ⊕ DNode):=ns.set i.toNat (.inl (((ns[i.toNat]?).map rX).getD 0))
def jo (ns:List (Int ⊕ DNode)) (i:Int) (n:DNode) : List (Int ⊕ DNode):=ns.set i.toNat (.inr n)
theorem nh {ns:List (Int ⊕ DNode)} {i:Int} {n:DNode} (h:kh ns i=some n) : 0≤i∧ns[i.toNat]? = some (.inr n):=by
 unfold kh at h
 split at h
 · cases h
 · refine⟨by omega,?_⟩
   cases hx:ns[i.toNat]? with
   | none=>rw [hx] at h;cases h
   | some m =>
    rw [hx] at h
    cases m with
    | inl k=>cases h
    | inr m =>
     obtain rfl:m=n:=by simpa [inN] using h
     rfl
structure TreeOk (hs:List DHdr) (ns:List (Int ⊕ DNode)) : Prop where
 lenk:LenK hs ns
 fits : ∀(i:Nat) (n:DNode),ns[i]? = some (.inr n)→∃ h,hs[i]? = some h∧Fits h n
theorem TreeOk.len {hs:List DHdr} {ns:List (Int ⊕ DNode)} (h:TreeOk hs ns) : hs.length=ns.length:=h.lenk.len
theorem rG {ty:TreeTy} {V:View} {w:World} : ∀(hs:List DHdr) (ns:List (Int ⊕ DNode)),(∀ x∈jw ty hs ns,x.ok V w)→hs.length=ns.length→∀(i:Nat) (n:DNode),ns[i]? = some (.inr n)→∃ h,hs[i]? = some h∧Fits h n:=fun hs ns hok hl i n hn=>by
 have hi:=(j_.1 hn).1
 have hh:hs[i]? = some (hs[i]'(by omega)):=D_ (by omega)
 exact⟨_,hh,hok _ ((kX ty hs ns i _ n 0 hh hn).mem_iff.2 a_)⟩
theorem TreeOk.of {ty:TreeTy} {V:View} {w:World} {hs:List DHdr} {ns:List (Int ⊕ DNode)} (h:(iz ty hs ns).ok V w) : TreeOk hs ns:=⟨h.1,rG hs ns h.2.1 h.1.len⟩
theorem Hp.opened {w0:World} {V:View} {X:List HObj} {w:World} {ty:TreeTy} {hs:List DHdr} {ns:List (Int ⊕ DNode)} (h:Hp w0 V (iz ty hs ns::X) w) : LenK hs ns∧Hp w0 V (jw ty hs ns ++ X) w:=by
 obtain⟨h1,h2,h3⟩:=h.objs _ a_
 have hs':=List.pairwise_cons.1 h.sep
 refine⟨h1,h.os,h.tape,h.output,h.size,h.view,h.base,fun x hx=>?_,fun x hx b hb=>?_,?_⟩
 · rcases u_.1 hx with hx | hx
   · exact h2 x hx
   · exact h.objs x (d_ _ hx)
 · rcases u_.1 hx with hx | hx
   · exact h.apart _ a_ b ⟨x,hx,hb⟩
   · exact h.apart x (d_ _ hx) b hb
 · exact v_.2 ⟨h3,hs'.2,fun x hx y hy b hb=>hs'.1 y hy b ⟨x,hx,hb⟩⟩
theorem Hp.closed {w0:World} {V:View} {X:List HObj} {w:World} {ty:TreeTy} {hs:List DHdr} {ns:List (Int ⊕ DNode)} (hl:LenK hs ns) (h:Hp w0 V (jw ty hs ns ++ X) w) : Hp w0 V (iz ty hs ns::X) w:=by
 obtain⟨p1,p2,p3⟩:=v_.1 h.sep
 refine⟨h.os,h.tape,h.output,h.size,h.view,h.base,fun x hx=>?_,fun x hx b hb=>?_,?_⟩
 · rcases g_.1 hx with rfl | hx
   · exact⟨hl,fun x hx=>h.objs x (l_ _ hx),p1⟩
   · exact h.objs x (x_ _ hx)
 · rcases g_.1 hx with rfl | hx
   · obtain⟨y,hy,hb⟩:=hb
     exact h.apart y (l_ _ hy) b hb
   · exact h.apart x (x_ _ hx) b hb
 · refine List.Pairwise.cons (fun y hy b hb=>?_) p2
   obtain⟨x,hx,hb⟩:=hb
   exact p3 x hx y hy b hb
theorem TreeOk.at_ {hs:List DHdr} {ns:List (Int ⊕ DNode)} (h:TreeOk hs ns) {i:Int} {n:DNode} (hn:kh ns i=some n) :
 ∃ a1 c1 a2 c2 a3 c3 a4 c4,0≤i∧i < (hs.length:Int)∧hs[i.toNat]? = some ⟨n.kind,a1,n.elems.length,c1,a2,n.kids.length,c2,a3,n.seps.length,c3,a4,n.tids.length,c4⟩:=by
 obtain⟨h0,h1⟩:=nh hn
 obtain⟨⟨k,a1,n1,c1,a2,n2,c2,a3,n3,c3,a4,n4,c4⟩,h2,f1,f2,f3,f4,f5⟩:=h.fits _ _ h1
 dsimp only at f1 f2 f3 f4 f5
 subst f1 f2 f3 f4 f5
 exact⟨a1,c1,a2,c2,a3,c3,a4,c4,h0,by have:=(j_.1 h2).1;omega,h2⟩
theorem TreeOk.kind_ {hs:List DHdr} {ns:List (Int ⊕ DNode)} (h:TreeOk hs ns) {i k:Int} (hn:rC ns i=some k) :
 ∃ a1 n1 c1 a2 n2 c2 a3 n3 c3 a4 n4 c4,0≤i∧i < (hs.length:Int)∧hs[i.toNat]? = some ⟨k,a1,n1,c1,a2,n2,c2,a3,n3,c3,a4,n4,c4⟩:=by
 unfold rC at hn
 split at hn
 · cases hn
 rename_i h0
 obtain⟨x,hx,hk⟩:=G_.1 hn
 have hh : ∃ e,hs[i.toNat]? = some e∧e.kind=k:=by
  cases x with
  | inl q =>
   obtain rfl:q=k:=hk
   exact h.lenk.kinds _ _ hx
  | inr n =>
   obtain rfl:n.kind=k:=hk
   obtain⟨e,he,hf⟩:=h.fits _ _ hx
   exact⟨e,he,hf.kind⟩
 obtain⟨⟨q,a1,n1,c1,a2,n2,c2,a3,n3,c3,a4,n4,c4⟩,h2,hk⟩:=hh
 obtain rfl:q=k:=hk
 exact⟨a1,n1,c1,a2,n2,c2,a3,n3,c3,a4,n4,c4,by omega,by have:=(j_.1 h2).1;omega,h2⟩
section
variable {N:Sz} {w0:World} {V:View} {H X H' : List HObj} {M:List (Nat × Value)} {φ:Act→World→Prop} {ty:TreeTy} {hs:List DHdr} {ns:List (Int ⊕ DNode)} {k:Int} {n:DNode} {h:DHdr}
theorem rd {α:Type} : ∀(l:List α) (i:Nat) (x:α),l[i]? = some x→l.Perm (x::l.eraseIdx i)
 | [],_,_,h=>by simp at h
 | a::l,0,x,h=>by
  obtain rfl:a=x:=by simpa using h
  exact List.Perm.refl _
 | a::l,i + 1,x,h=>((rd l i x (by simpa using h)).cons a).trans (List.Perm.swap _ _ _)
theorem oA {α:Type} : ∀(l:List α) (i:Nat) (x y:α),l[i]? = some x→(l.set i y).Perm (y::l.eraseIdx i)
 | [],_,_,_,h=>by simp at h
 | a::l,0,x,y,h=>List.Perm.refl _
 | a::l,i + 1,x,y,h=>((oA l i x y (by simpa using h)).cons a).trans (List.Perm.swap _ _ _)
theorem px {i:Nat} {x:HObj} (hi:nth H i=some x) : H.Perm (x::H.eraseIdx i):=by
 rw [ju] at hi;exact rd H i x hi
theorem pX {i:Nat} {x y:HObj} (hi:nth H i=some x) : (H.set i y).Perm (y::H.eraseIdx i):=by
 rw [ju] at hi;exact oA H i x y hi
theorem T.jd (i:Nat) (hi:nth H i=some (iz ty hs ns)) (q:TreeOk hs ns→T N w0 V H M φ) : T N w0 V H M φ:=fun a w hf hh=>q (TreeOk.of (hh.objs _ (by rw [ju] at hi;exact E_ hi))) a w hf hh
theorem T.nv (i:Nat) (hi:nth H i=some (iz ty hs ns)) (hn:kh ns k=some n) (hh:hs[k.toNat]? = some h) (hH:H.set i (iz ty hs (iT ns k))=H')
 (q:T N w0 V (row ty.te eElem h.a1 h.c1 n.elems::row ty.ti hO h.a2 h.c2 n.kids::row ty.ts eSpot h.a3 h.c3 n.seps::row ty.ti hO h.a4 h.c4 n.tids::H') M φ) : T N w0 V H M φ:=fun a w hf hp=>by
 subst hH
 obtain⟨h0,h1⟩:=nh hn
 refine q a w hf ?_
 obtain⟨hl,h2⟩:=(hp.perm (px hi)).opened
 have h3:=h2.perm (List.Perm.append_right _ (kX ty hs ns k.toNat h n (((ns[k.toNat]?).map rX).getD 0) hh h1))
 have hfit:Fits h n:=h3.objs _ a_
 have h4:=(h3.sub (H':=iO ty h n ++ jw ty hs (iT ns k) ++ H.eraseIdx i) (.cons _ (List.Sublist.refl _)))
 have h5:Hp w0 V (jw ty hs (iT ns k) ++ (iO ty h n ++ H.eraseIdx i)) w:=h4.perm (by rw [← t_];exact List.Perm.append_right _ B_)
 have h6:=Hp.closed (show LenK hs (iT ns k) from hl.inl hh (by rw [h1];exact hfit.kind)) h5
 refine h6.perm ?_
 have e1:(iz ty hs (iT ns k)::(iO ty h n ++ H.eraseIdx i)).Perm (iO ty h n ++ (iz ty hs (iT ns k)::H.eraseIdx i)):=o_.symm
 exact e1.trans ((pX hi).symm.append_left (iO ty h n))
theorem T.ug (hX:H.Perm (row ty.te eElem h.a1 h.c1 n.elems::row ty.ti hO h.a2 h.c2 n.kids::row ty.ts eSpot h.a3 h.c3 n.seps::row ty.ti hO h.a4 h.c4 n.tids::iz ty hs ns::X))
 (h0:0≤k) {r:Int} (h1:ns[k.toNat]? = some (.inl r)) (hh:hs[k.toNat]? = some h) (hf:Fits h n) (q:T N w0 V (iz ty hs (jo ns k n)::X) M φ) : T N w0 V H M φ:=fun a w hfr hp=>by
 refine q a w hfr ?_
 have h2:=hp.perm (hX.trans (show (iO ty h n ++ (iz ty hs ns::X)).Perm (iz ty hs ns::(iO ty h n ++ X)) from o_))
 obtain⟨hl,h3⟩:=h2.opened
 have h4:Hp w0 V (kW (Fits h n)::(iO ty h n ++ jw ty hs ns) ++ X) w:=(h3.perm (show (jw ty hs ns ++ (iO ty h n ++ X)).Perm ((iO ty h n ++ jw ty hs ns) ++ X) by rw [← t_];exact List.Perm.append_right _ B_)).put hf
 have hi:k.toNat < ns.length:=(j_.1 h1).1
 have h5:=h4.perm (List.Perm.append_right X (sG ty hs ns k.toNat h n r hh hi h1))
 exact Hp.closed (show LenK hs (jo ns k n) from hl.inr _ _) h5
theorem T.rP (hX:H.Perm (row ty.te eElem h.a1 h.c1 n.elems::row ty.ti hO h.a2 h.c2 n.kids::row ty.ts eSpot h.a3 h.c3 n.seps::row ty.ti hO h.a4 h.c4 n.tids::iz ty hs ns::X)) (hf:Fits h n)
 (q:T N w0 V (iz ty (hs ++ [h]) (ns ++ [.inr n])::X) M φ) : T N w0 V H M φ:=fun a w hfr hp=>by
 refine q a w hfr ?_
 have h2:=hp.perm (hX.trans (show (iO ty h n ++ (iz ty hs ns::X)).Perm (iz ty hs ns::(iO ty h n ++ X)) from o_))
 obtain⟨hl,h3⟩:=h2.opened
 have h4:=h3.put hf
 refine Hp.closed (hl.push h n) ?_
 rw [oC ty h (.inr n) hs ns hl.len]
 refine h4.perm ?_
 have e1:jw ty [h] [.inr n]=kW (Fits h n)::iO ty h n:=by simp [jw]
 rw [e1]
 show (kW (Fits h n)::(jw ty hs ns ++ (iO ty h n ++ X))).Perm (jw ty hs ns ++ (kW (Fits h n)::iO ty h n) ++ X)
 rw [t_]
 exact o_.symm
theorem T.tC (i:Nat) (k:Int) (hi:nth H i=some (iz ty hs ns)) (hH:H.set i (iz ty hs (iT ns k))=H') (q:T N w0 V H' M φ) : T N w0 V H M φ:=fun a w hf hp=>by
 subst hH
 refine q a w hf ?_
 have ht:=TreeOk.of (hp.objs _ (by rw [ju] at hi;exact E_ hi))
 obtain⟨hl,h2⟩:=(hp.perm (px hi)).opened
 have h3:=h2.sub (H':=jw ty hs (iT ns k) ++ H.eraseIdx i) ((p9 ty hs ns k.toNat _).append (List.Sublist.refl _))
 refine(Hp.closed ?_ h3).perm (pX hi).symm
 unfold iT
 cases hx:ns[k.toNat]? with
 | none =>
  rw [List.set_eq_of_length_le (List.getElem?_eq_none_iff.1 hx)];exact hl
 | some x =>
  cases x with
  | inl q =>
   obtain⟨e,he,hk⟩:=hl.kinds _ _ hx
   exact hl.inl he hk
  | inr n =>
   obtain⟨e,he,hf⟩:=ht.fits _ _ hx
   exact hl.inl he hf.kind
theorem T.sR (i:Nat) (j:Nat) (h' : DHdr) (hi:nth H i=some (iz ty hs ns)) {r:Int} (hj:ns[j]? = some (.inl r)) (hH:H.set i (iz ty (hs.set j h') (ns.set j (.inl h'.kind)))=H') (q:T N w0 V H' M φ) : T N w0 V H M φ:=fun a w hf hp=>by
 subst hH
 refine q a w hf ?_
 obtain⟨hl,h2⟩:=(hp.perm (px hi)).opened
 refine(Hp.closed (hl.head j h') ?_).perm (pX hi).symm
 rw [qa ty hs ns j h' _ _ hj];exact h2
theorem T.sd (ty:TreeTy) (q:T N w0 V (iz ty [] []::H) M φ) : T N w0 V H M φ:=fun a w hf hp=>q a w hf (Hp.closed LenK.nil hp)
end
def sM (x:HObj) : Prop:=∀ V V' w,x.ok V w→x.ok V' w
def qI:List HObj→Prop
 | []=>True
 | x::l=>sM x∧qI l
theorem qI.mem : ∀ {l:List HObj},qI l→∀ x∈l,sM x
 | [],_,x,h=>by cases h
 | a::l,h,x,hx=>by
  rcases g_.1 hx with rfl | hx
  · exact h.1
  · exact qI.mem h.2 x hx
theorem mB {α:Type} {E:Enc α} {p:Bool} {e:TypeId} {A:Option Addr} {c:Nat} {l:List α} (hf : ∀ V V' cs x,E.rep V cs x→E.rep V' cs x) : sM (kj p e E A c l):=fun V V' w h=>by
 obtain⟨h1,h2,h3⟩:=h
 exact⟨h1,h2,h3.imp id fun ⟨g,cur,fz,xs,h⟩=>⟨g,cur,fz,xs,{ h with rep:=⟨h.rep.1,fun k x hk=>hf _ _ _ _ (h.rep.2 k x hk)⟩ }⟩⟩
theorem nW (ty:TreeTy) : ∀(hs:List DHdr) (ns:List (Int ⊕ DNode)),∀ x∈jw ty hs ns,sM x
 | [],ns,x,hx=>by cases ns <;> simp [jw] at hx
 | _::_,[],x,hx=>by simp [jw] at hx
 | a::hs,.inl _::ns,x,hx=>nW ty hs ns x hx
 | a::hs,.inr m::ns,x,hx=>by
  rcases g_.1 hx with rfl | hx
  · exact fun _ _ _ h=>h
  rcases u_.1 hx with hx | hx
  · simp only [iO,g_,List.not_mem_nil,or_false] at hx
    rcases hx with rfl | rfl | rfl | rfl <;> exact mB fun _ _ _ _ h=>h
  · exact nW ty hs ns x hx
theorem sv (ty:TreeTy) (hs:List DHdr) (ns:List (Int ⊕ DNode)) : sM (iz ty hs ns):=fun V V' w ⟨h1,h2,h3⟩=>⟨h1,fun x hx=>nW ty hs ns x hx V V' w (h2 x hx),h3⟩
def rO (w w' : World) (X:List HObj) : Prop:=∀ {w0:World} {V:View} {H:List HObj},Hp w0 V H w→Hp w0 V (X ++ H) w'
theorem qR {w w' : World} {V1:View} {X:List HObj} (h:Hp w V1 X w') (hf:qI X) : rO w w' X:=fun {w0 V H} hp=>by
 have hold : ∀ b,b < w.heap.size→w'.heap[b]? = w.heap[b]?:=fun b hb=>by
  have h1:=h.view b w.heap[b] (h.base b _ (y_ hb))
  rw [y_ hb];exact h1
 have hnew : ∀ x∈X,∀ b,x.own b→w.heap.size≤b:=fun x hx b hb=>by
  rcases z_ b w.heap.size with hlt | hge
  · have h1:=h.apart x hx b hb
    have h2:=h.base b w.heap[b] (y_ hlt)
    rw [h1] at h2;cases h2
  · exact hge
 refine⟨h.os.trans hp.os,h.tape.trans hp.tape,h.output.trans hp.output,Nat.le_trans hp.size h.size,fun b o hv=>?_,hp.base,fun x hx=>?_,fun x hx b hb=>?_,?_⟩
 · have h1:=hp.view b o hv
   show w'.heap[b]? = some o
   rw [hold b (jJ h1)];exact h1
 · rcases u_.1 hx with hx | hx
   · exact hf.mem x hx _ _ _ (h.objs x hx)
   · exact x.loc V w w' (fun b hb=>hold b (x.lt V w b (hp.objs x hx) hb)) (hp.objs x hx)
 · rcases u_.1 hx with hx | hx
   · cases hv:V b with
     | none=>rfl
     | some o=>exact absurd (jJ (hp.view _ _ hv)) (by have:=hnew x hx b hb;omega)
   · exact hp.apart x hx b hb
 · refine v_.2 ⟨h.sep,hp.sep,fun x hx y hy b hb hyb=>?_⟩
   have:=hnew x hx b hb
   have:=y.lt V w b (hp.objs y hy) hyb
   omega
section
variable {P:Program} {N:Sz} {w0:World} {V:View} {H:List HObj} {M:List (Nat × Value)} {ops:Array Oper} {Q:Exit→Act→World→Prop} {o:Oper} {K:Act→World→Prop}
theorem W1.ol {π:Type} (f:FuncId) (vs:Array Value) (v:π→Value) (X:π→List HObj) (R:π→Prop) (hc:okO N ops M o=true) (hv : ∀ w,(execOp (evM M) o).run P w = .ok (.enter f vs) w)
 (hf : ∀ w,Hp w0 V H w→Calls P f vs w fun e w'=>∃ p,e = .returned (v p)∧R p∧rO w w' (X p)) (h : ∀ p,R p→T N w0 V (X p ++ H) (jh o.dst (v p) M) K) : W1 P Q ops o N w0 V H M K:=fun a w hfr hh=>by
 obtain⟨h1,_,_,h4⟩:=i9 hc
 refine⟨iY hfr h1,?_⟩
 unfold Oper.wp
 rw [jq hc hfr,hv w,Oper.upon_enter]
 refine(hf w hh).mono ?_
 rintro e w' ⟨p,rfl,hr,hg⟩
 exact h p hr _ _ (hfr.put h4 _) (hg hh)
end
def tx (ty:TreeTy) (n:DNode) (w:World) (e:Ending) (w' : World) : Prop :=
 ∃ h:DHdr,e = .returned (.agg h.cells.toArray)∧Fits h n∧rO w w' (iO ty h n)
def tz (ty:TreeTy) (tn:TypeId) (t:DTree) (w:World) (e:Ending) (w' : World) : Prop :=
 ∃ p:Option Addr × Nat × List DHdr,e = .returned (.agg #[.int .i64 t.root,.slice p.1 p.2.2.length p.2.1])∧p.2.2.length=t.nodes.length∧rO w w' [row tn eHdr p.1 p.2.1 p.2.2,iz ty p.2.2 (t.nodes.map f_)]
theorem Hp.lent {w0:World} {V:View} {H:List HObj} {w:World} {ty:TreeTy} {hs:List DHdr} {ns:List (Int ⊕ DNode)} {k:Int} {n:DNode} {h:DHdr} (hp:Hp w0 V H w) {i:Nat} (hi:nth H i=some (iz ty hs ns)) (hn:kh ns k=some n) (hh:hs[k.toNat]? = some h) :
 hJ (vw w) eElem h.a1 h.c1 n.elems∧hJ (vw w) hO h.a2 h.c2 n.kids∧hJ (vw w) eSpot h.a3 h.c3 n.seps∧hJ (vw w) hO h.a4 h.c4 n.tids:=by
 obtain⟨h0,h1⟩:=nh hn
 obtain⟨hl,h2⟩:=(hp.perm (px hi)).opened
 have h3:=h2.perm (List.Perm.append_right _ (kX ty hs ns k.toNat h n 0 hh h1))
 exact⟨h3.row_slOk (i:=1) rfl,h3.row_slOk (i:=2) rfl,h3.row_slOk (i:=3) rfl,h3.row_slOk (i:=4) rfl⟩
def rY (bytes n:Nat) : Option Unit:=if n * bytes≤140737488355328∧n≤maxLen then some () else none
theorem pZ {bytes n:Nat} {u:Unit} (h:rY bytes n=some u) : od n bytes=true∧n≤maxLen:=by
 unfold rY at h
 by_cases hc:n * bytes≤140737488355328∧n≤maxLen
 · exact⟨decide_eq_true hc.1,hc.2⟩
 · rw [if_neg hc] at h;cases h
def kH (ns:List (Int ⊕ DNode)) (i:Int) : Option Unit:=if 0≤i∧i < (ns.length:Int) then some () else none
theorem TreeOk.has {hs:List DHdr} {ns:List (Int ⊕ DNode)} (h:TreeOk hs ns) {i:Int} {u:Unit} (hn:kH ns i=some u) : 0≤i∧i < (hs.length:Int)∧∃ x,hs[i.toNat]? = some x:=by
 unfold kH at hn
 split at hn
 · rename_i hi
   have:=h.len
   exact⟨hi.1,by omega,_,D_ (by omega)⟩
 · cases hn
theorem tN {ns:List (Int ⊕ DNode)} {i:Int} {u:Unit} (hn:kH ns i=some u) : (iT ns i)[i.toNat]? = some (.inl (((ns[i.toNat]?).map rX).getD 0)):=by
 unfold kH at hn
 split at hn
 · unfold iT;rw [i_ (by omega)]
 · cases hn
def qt:List (Int ⊕ DNode)→Option (List DNode)
 | []=>some []
 | .inl _::_=>none
 | .inr n::ns=>(qt ns).map (n::·)
theorem lj : ∀ {ns:List (Int ⊕ DNode)} {l:List DNode},qt ns=some l→ns=l.map f_
 | [],l,h=>by
  obtain rfl : []=l:=Option.some.inj h
  rfl
 | .inl _::ns,l,h=>by cases h
 | .inr n::ns,l,h=>by
  obtain⟨m,hm,rfl⟩:=G_.1 h
  rw [lj hm];rfl
theorem ur (l:List DNode) : qt (l.map f_)=some l:=by
 induction l with
 | nil=>rfl
 | cons n l ih=>show (qt (l.map f_)).map _=_;rw [ih];rfl
theorem tq {α:Type} {E:Enc α} {p:Bool} {e:TypeId} {A:Option Addr} {c:Nat} {l:List α} {V U:View} {w:World} (hf : ∀ V V' cs x,E.rep V cs x→E.rep V' cs x) (h:(kj p e E A c l).ok V w) (hU : ∀ b,i8 A c=some b→U b=w.heap[b]?) : hJ U E A c l:=by
 obtain⟨h1,h2,h3⟩:=h
 refine⟨h1,h2,?_⟩
 by_cases hc:c=0
 · have hl:l=[]:=List.eq_nil_of_length_eq_zero (by omega)
   subst hl
   exact⟨[],iE.nil,fun j u hu=>by simp at hu⟩
 rcases h3 with h3 | ⟨g,cur,fz,xs,h3⟩
 · exact absurd h3 hc
 refine⟨xs,⟨h3.rep.1,fun k x hk=>hf _ _ _ _ (h3.rep.2 k x hk)⟩,fun j u hu=>?_⟩
 obtain⟨a,ha,hcell⟩:=h3.cells j u hu
 refine⟨a,ha,?_⟩
 have hag:a=⟨g,0,none⟩:=Option.some.inj (ha.symm.trans h3.adr)
 subst hag
 have hb:=hU g (by unfold i8;rw [if_neg hc,h3.adr];rfl)
 have e1:((⟨g,0,none⟩ : Addr).add j).block=g:=lG _ _
 unfold View.cell
 rw [e1,hb]
 rw [oE,World.cell?,e1] at hcell
 exact hcell
open Classical in
theorem Hp.freezeAll {w0:World} {V:View} {X H:List HObj} {w:World} (h:Hp w0 V (X ++ H) w) : ∃ V',View.le V V'∧Hp w0 V' H w∧∀ x∈X,∀ b,x.own b→V' b=w.heap[b]?∧w0.heap.size≤b:=by
 obtain⟨p1,p2,p3⟩:=v_.1 h.sep
 have hle:View.le V (fun b=>if ∃ x∈X,x.own b then w.heap[b]? else V b):=fun b o hv=>by
  show (if ∃ x∈X,x.own b then w.heap[b]? else V b)=some o
  split
  · exact h.view b o hv
  · exact hv
 refine⟨fun b=>if ∃ x∈X,x.own b then w.heap[b]? else V b,hle,⟨h.os,h.tape,h.output,h.size,fun b o hv=>?_,View.le_trans h.base hle,fun y hy=>y.mono _ _ _ hle (h.objs y (x_ _ hy)),fun y hy b hyb=>?_,p2⟩,fun x hx b hb=>⟨?_,?_⟩⟩
 · have hv' : (if ∃ x∈X,x.own b then w.heap[b]? else V b)=some o:=hv
   split at hv'
   · exact hv'
   · exact h.view b o hv'
 · show (if ∃ x∈X,x.own b then w.heap[b]? else V b)=none
   rw [if_neg (fun ⟨x,hx,hb⟩=>p3 x hx y hy b hb hyb)]
   exact h.apart y (x_ _ hy) b hyb
 · show (if ∃ x∈X,x.own b then w.heap[b]? else V b)=_
   rw [if_pos ⟨x,hx,hb⟩]
 · rcases z_ b w0.heap.size with hlt | hge
   · have h1:=h.apart x (l_ _ hx) b hb
     have h2:=h.base b w0.heap[b] (y_ hlt)
     rw [h1] at h2;cases h2
   · exact hge
theorem T.lD {N:Sz} {w0:World} {V:View} {H H' : List HObj} {M:List (Nat × Value)} {φ:Act→World→Prop} {ty:TreeTy} {hs:List DHdr} {l:List DNode} {tn:TypeId} {A:Option Addr} {c:Nat}
 (hP:H.Perm (row tn eHdr A c hs::iz ty hs (l.map f_)::H')) (q : ∀ V',View.le V V'→hJ (made w0 V') iH A c l→hs.length=l.length→T N w0 V' H' M φ) : T N w0 V H M φ:=fun a w hf hp=>by
 obtain⟨hl,h1⟩:=(hp.perm (hP.trans (List.Perm.swap _ _ _))).opened
 replace hl:=hl.len
 rw [List.length_map] at hl
 have h2:Hp w0 V ((row tn eHdr A c hs::jw ty hs (l.map f_)) ++ H') w:=h1.perm o_
 obtain⟨V',hv,h3,h4⟩:=h2.freezeAll
 refine q V' hv ?_ hl a w hf h3
 have hU : ∀ x∈row tn eHdr A c hs::jw ty hs (l.map f_),∀ b,x.own b→(made w0 V') b=w.heap[b]?:=fun x hx b hb=>by
  obtain⟨e1,e2⟩:=h4 x hx b hb
  unfold made
  rw [if_neg (by omega)];exact e1
 have hrow:=tq (U:=made w0 V') (fun _ _ _ _ h=>h) (h2.objs _ a_) (hU _ a_)
 obtain⟨k1,k2,xs,k3,k4⟩:=hrow
 refine⟨by omega,k2,xs,⟨by rw [k3.1,hl];rfl,fun k n hn=>?_⟩,k4⟩
 have hkl:=(j_.1 hn).1
 have hh:hs[k]? = some (hs[k]'(by omega)):=D_ (by omega)
 have hc:=k3.2 k _ hh
 have hmem:=kX ty hs (l.map f_) k _ n 0 hh (by rw [List.getElem?_map,hn];rfl)
 have hfit:Fits (hs[k]'(by omega)) n:=h2.objs _ (l_ _ (d_ _ (hmem.mem_iff.2 a_)))
 have hin : ∀ x∈iO ty (hs[k]'(by omega)) n,x∈row tn eHdr A c hs::jw ty hs (l.map f_):=fun x hx=>d_ _ (hmem.mem_iff.2 (d_ _ (l_ _ hx)))
 have hsl : ∀ {α:Type} {E:Enc α} {e:TypeId} {B:Option Addr} {d:Nat} {m:List α},(∀ V V' cs x,E.rep V cs x→E.rep V' cs x)→row e E B d m∈iO ty (hs[k]'(by omega)) n→hJ (made w0 V') E B d m:=fun hfl hx =>
  tq hfl (h2.objs _ (l_ _ (hin _ hx))) (hU _ (hin _ hx))
 generalize hs[k]'(by omega)=hd at *
 obtain⟨kk,a1,n1,c1,a2,n2,c2,a3,n3,c3,a4,n4,c4⟩:=hd
 obtain⟨f0,f1,f2,f3,f4⟩:=hfit
 dsimp only at f0 f1 f2 f3 f4
 subst f0 f1 f2 f3 f4
 exact⟨a1,c1,a2,c2,a3,c3,a4,c4,hc,hsl (e:=ty.te) (fun _ _ _ _ h=>h) a_,hsl (e:=ty.ti) (fun _ _ _ _ h=>h) (d_ _ a_),hsl (e:=ty.ts) (fun _ _ _ _ h=>h) (d_ _ (d_ _ a_)),hsl (e:=ty.ti) (fun _ _ _ _ h=>h) (d_ _ (d_ _ (d_ _ a_)))⟩
theorem j8 {ns:List (Int ⊕ DNode)} {i:Int} {n:DNode} {u:Unit} (h:kH ns i=some u) : kh (jo ns i n) i=some n:=by
 unfold kH at h
 split at h
 · rename_i hi
   unfold kh jo
   rw [if_neg (by omega),i_ (by omega)];rfl
 · cases h
theorem sD (ns:List (Int ⊕ DNode)) (i:Int) (n:DNode) : jo (iT ns i) i n=jo ns i n:=by unfold jo iT;rw [C_]
theorem sE {ns:List (Int ⊕ DNode)} {i:Int} {n:DNode} (x:Int ⊕ DNode) : jo (ns.set i.toNat x) i n=jo ns i n:=by unfold jo;rw [C_]
theorem rW {ns:List (Int ⊕ DNode)} {i:Int} {u:Unit} (h:kH ns i=some u) : 0≤i∧i.toNat < ns.length:=by
 unfold kH at h
 split at h
 · omega
 · cases h
theorem TreeOk.set_at {hs:List DHdr} {ns:List (Int ⊕ DNode)} (ht:TreeOk hs ns) {i:Int} {u:Unit} (h' : DHdr) (h:kH ns i=some u) : (hs.set i.toNat h')[i.toNat]? = some h':=by
 have:=rW h
 rw [i_ (by rw [ht.len];exact this.2)]
def tM (a b:DNode) : Option Unit:=if a.elems.length=b.elems.length∧a.kids.length=b.kids.length∧a.seps.length=b.seps.length∧a.tids.length=b.tids.length then some () else none
theorem kV {a b:DNode} {u:Unit} (h:tM a b=some u) : a.elems.length=b.elems.length∧a.kids.length=b.kids.length∧a.seps.length=b.seps.length∧a.tids.length=b.tids.length:=by
 unfold tM at h
 split at h
 · assumption
 · cases h
section
variable {N:Sz} {w0:World} {V:View} {H X H' : List HObj} {M:List (Nat × Value)} {φ:Act→World→Prop} {ty:TreeTy} {hs:List DHdr} {ns:List (Int ⊕ DNode)} {k:Int} {n:DNode} {h:DHdr}
theorem T.lR (X:List HObj) (h:DHdr) (n:DNode) (hP:H.Perm (row ty.te eElem h.a1 h.c1 n.elems::row ty.ti hO h.a2 h.c2 n.kids::row ty.ts eSpot h.a3 h.c3 n.seps::row ty.ti hO h.a4 h.c4 n.tids::iz ty hs ns::X)) (hf:Fits h n) {u:Unit} (hk:kH ns k=some u)
 (q:T N w0 V (iz ty (hs.set k.toNat h) (jo ns k n)::X) M φ) : T N w0 V H M φ:=fun a w hfr hp=>by
 have h1:=hp.perm hP
 have h0:=rW hk
 obtain⟨hok,-⟩:=(h1.perm (o_ (l₁:=iO ty h n))).opened
 have hlen:k.toNat < hs.length:=by have:=hok.len;omega
 have e1:(hs.set k.toNat h)[k.toNat]? = some h:=i_ hlen
 rw [← sD,← sE (.inl h.kind)] at q
 refine T.tC (H:=row ty.te eElem h.a1 h.c1 n.elems::row ty.ti hO h.a2 h.c2 n.kids::row ty.ts eSpot h.a3 h.c3 n.seps::row ty.ti hO h.a4 h.c4 n.tids::iz ty hs ns::X) 4 k rfl rfl ?_ a w hfr h1
 refine T.sR 4 k.toNat h rfl (tN hk) rfl ?_
 exact T.ug (h:=h) (n:=n) (r:=h.kind) (List.Perm.refl _) h0.1 (i_ (by unfold iT;rw [p_];exact h0.2)) e1 hf q
theorem T.ro (X:List HObj) (h:DHdr) (n:DNode) (hP:H.Perm (row ty.te eElem h.a1 h.c1 n.elems::row ty.ti hO h.a2 h.c2 n.kids::row ty.ts eSpot h.a3 h.c3 n.seps::row ty.ti hO h.a4 h.c4 n.tids::iz ty hs ns::X)) (hf:Fits h n) (ht:TreeOk hs ns) (h0:0≤k) (hh:hs[k.toNat]? = some h)
 (q:T N w0 V (iz ty hs (jo ns k n)::X) M φ) : T N w0 V H M φ:=by
 have hlt:=(j_.1 hh).1
 have hk:kH ns k=some ():=by unfold kH;rw [if_pos ⟨h0,by have:=ht.len;omega⟩]
 refine T.lR X h n hP hf hk ?_
 have e:hs.set k.toNat h=hs:=List.ext_getElem? fun j=>by
  rw [q_]
  split
  · rename_i e;subst e;first | rw [if_pos hlt,hh] | exact hh.symm
  · rfl
 rw [e];exact q
theorem T.py {α:Type} {E:Enc α} {f:α→List Value} {l:List α} {b t:Nat} (i:Nat) (H' : List HObj) (hi:nth H i=some (box b t (l.flatMap f))) (hf : ∀ V x,E.rep V (f x) x) (hl:0 < l.length) (hm:l.length≤maxLen) (hH:H.set i (row t E (some ⟨b,0,none⟩) l.length l)=H')
 (q:T N w0 V H' M φ) : T N w0 V H M φ:=fun a w hfr hh=>by
 rw [ju] at hi
 have hbox:w.heap[b]? = some (.cells (l.flatMap f).toArray t (0,0)):=hh.objs _ (E_ hi)
 have hrep:iE V E (l.flatMap f) l:=nk hf l
 have hlen:=hrep.1
 have hblk:i8 (some (⟨b,0,none⟩ : Addr)) l.length=some b:=by unfold i8;rw [if_neg (by omega)];rfl
 refine q a w hfr (hH ▸ hh.turn (o:=none) hi ⟨rfl,rfl,rfl,Nat.le_refl _,fun _ _ _=>rfl⟩ ?_ (fun b' hb'=>.inl ?_))
 · exact⟨Nat.le_refl _,hm,.inr ⟨b,_,_,(l.flatMap f),⟨rfl,hbox,fun _=>rfl,fun i _ h=>by simp at h,by rw [List.size_toArray,hlen],by rw [← hlen,List.take_length],hrep⟩⟩⟩
 · exact hblk.symm.trans hb'
end
end Go.Proofs.YtaoocidchclpnaaGreat
