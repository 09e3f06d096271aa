/- Trees that a call has made and may still write: the row of the nodes' headers, and behind it, at the end of the list of objects, the rows of all nodes that are not taken out. Its conditions: none. -/
import Derived.Test.YtfbpiogbhkgieaaGreatRecL
import Derived.Test.YtfbpiogbhkgieaaGreatRangeL
namespace Go.Proofs.YtfbpiogbhkgieaaGreat
open Go.RowKit
set_option linter.unusedVariables false
structure DHdr where
 kind:Int
 a1:Option Addr
 n1:Nat
 c1:Nat
 a2:Option Addr
 n2:Nat
 c2:Nat
 a3:Option Addr
 n3:Nat
 c3:Nat
 a4:Option Addr
 n4:Nat
 c4:Nat
abbrev DHdr.cells (h:DHdr) : List Value:=[.int .i64 h.kind,.slice h.a1 h.n1 h.c1,.slice h.a2 h.n2 h.c2,.slice h.a3 h.n3 h.c3,.slice h.a4 h.n4 h.c4]
def eHdr:Enc DHdr:=lP 5 DHdr.cells (fun _=>rfl) (fun _=>jJ rfl)
structure Fits (h:DHdr) (n:DNode) : Prop where
 kind:h.kind=n.kind
 n1:h.n1=n.elems.length
 n2:h.n2=n.kids.length
 n3:h.n3=n.seps.length
 n4:h.n4=n.tids.length
def ka (p:Prop) : HObj where
 own:=fun _=>False
 ok:=fun _ _=>p
 loc:=fun _ _ _ _ h=>h
 mono:=fun _ _ _ _ h=>h
 lt:=fun _ _ _ _ h=>by cases h
structure TreeTy where
 te:TypeId
 ti:TypeId
 ts:TypeId
def iK (ty:TreeTy) (h:DHdr) (n:DNode) : List HObj:=[row ty.te eElem h.a1 h.c1 n.elems,row ty.ti hO h.a2 h.c2 n.kids,row ty.ts eSpot h.a3 h.c3 n.seps,row ty.ti hO h.a4 h.c4 n.tids]
def jx (ty:TreeTy) : List DHdr→List (Int ⊕ DNode)→List HObj
 | h::hs,.inr n::ns=>ka (Fits h n)::(iK ty h n ++ jx ty hs ns)
 | _::hs,.inl _::ns=>jx ty hs ns
 | _,_=>[]
def sK (x y:HObj) : Prop:=∀ b,x.own b→¬ y.own b
structure LenK (hs:List DHdr) (ns:List (Int ⊕ DNode)) : Prop where
 len:hs.length=ns.length
 kinds : ∀(i:Nat) (k:Int),ns[i]? = some (.inl k)→∃ h,hs[i]? = some h∧h.kind=k
theorem LenK.of_eq {hs:List DHdr} {ns ns' : List (Int ⊕ DNode)} (h:LenK hs ns) (e:ns=ns') : LenK hs ns':=e ▸ h
theorem LenK.nil:LenK [] []:=⟨rfl,fun i k h=>by simp at h⟩
theorem LenK.inl {hs:List DHdr} {ns:List (Int ⊕ DNode)} (h:LenK hs ns) {i:Nat} {x:DHdr} {k:Int} (hx:hs[i]? = some x) (hk:x.kind=k) : LenK hs (ns.set i (.inl k)):=⟨by rw [List.length_set];exact h.len,fun j q hq=>by
 rw [List.getElem?_set] at hq
 split at hq
 · rename_i e;subst e
   split at hq
   · obtain rfl:k=q:=by simpa using hq
     exact⟨x,hx,hk⟩
   · cases hq
 · exact h.kinds j q hq⟩
theorem LenK.inr {hs:List DHdr} {ns:List (Int ⊕ DNode)} (h:LenK hs ns) (i:Nat) (n:DNode) : LenK hs (ns.set i (.inr n)):=⟨by rw [List.length_set];exact h.len,fun j q hq=>by
 rw [List.getElem?_set] at hq
 split at hq
 · split at hq
   · cases hq
   · cases hq
 · exact h.kinds j q hq⟩
theorem LenK.head {hs:List DHdr} {ns:List (Int ⊕ DNode)} (h:LenK hs ns) (i:Nat) (x:DHdr) : LenK (hs.set i x) (ns.set i (.inl x.kind)):=⟨by rw [List.length_set,List.length_set];exact h.len,fun j q hq=>by
 rw [List.getElem?_set] at hq ⊢
 have hl:=h.len
 split at hq
 · rename_i e;subst e
   split at hq
   · rename_i hi
     obtain rfl:x.kind=q:=by simpa using hq
     rw [if_pos rfl,if_pos (by omega)]
     exact⟨x,rfl,rfl⟩
   · cases hq
 · rename_i e
   rw [if_neg e]
   exact h.kinds j q hq⟩
theorem LenK.push {hs:List DHdr} {ns:List (Int ⊕ DNode)} (h:LenK hs ns) (x:DHdr) (n:DNode) : LenK (hs ++ [x]) (ns ++ [.inr n]):=⟨by simp [h.len],fun j q hq=>by
 rcases Nat.lt_or_ge j ns.length with hlt | hge
 · rw [List.getElem?_append_left hlt] at hq
   obtain⟨y,hy,hk⟩:=h.kinds j q hq
   exact⟨y,by rw [List.getElem?_append_left (by have:=h.len;omega)];exact hy,hk⟩
 · rw [List.getElem?_append_right hge] at hq
   cases hj:j - ns.length with
   | zero=>rw [hj] at hq;simp at hq
   | succ m=>rw [hj] at hq;simp at hq⟩
def il (ty:TreeTy) (hs:List DHdr) (ns:List (Int ⊕ DNode)) : HObj where
 own:=fun b=>∃ x∈jx ty hs ns,x.own b
 ok:=fun V w=>LenK hs ns∧(∀ x∈jx ty hs ns,x.ok V w)∧(jx ty hs ns).Pairwise sK
 loc:=fun V w w' hb ⟨h1,h2,h3⟩=>⟨h1,fun x hx=>x.loc V w w' (fun b hxb=>hb b ⟨x,hx,hxb⟩) (h2 x hx),h3⟩
 mono:=fun V V' w hv ⟨h1,h2,h3⟩=>⟨h1,fun x hx=>x.mono V V' w hv (h2 x hx),h3⟩
 lt:=fun V w b ⟨_,h2,_⟩ ⟨x,hx,hb⟩=>x.lt V w b (h2 x hx) hb
theorem lh (ty:TreeTy) : ∀(hs:List DHdr) (ns:List (Int ⊕ DNode)) (i:Nat) (h:DHdr) (n:DNode) (q:Int),hs[i]? = some h→ns[i]? = some (.inr n)→(jx ty hs ns).Perm (ka (Fits h n)::(iK ty h n ++ jx ty hs (ns.set i (.inl q))))
 | [],_,i,h,n,_,h1,_=>by simp at h1
 | _,[],i,h,n,_,_,h2=>by simp at h2
 | a::hs,m::ns,0,h,n,q,h1,h2=>by
  obtain rfl:a=h:=by simpa using h1
  obtain rfl:m = .inr n:=by simpa using h2
  exact List.Perm.refl _
 | a::hs,m::ns,i + 1,h,n,q,h1,h2=>by
  have ih:=lh ty hs ns i h n q (by simpa using h1) (by simpa using h2)
  cases m with
  | inl _=>exact ih
  | inr m =>
   show (ka (Fits a m)::(iK ty a m ++ jx ty hs ns)).Perm (ka (Fits h n)::(iK ty h n ++ (ka (Fits a m)::(iK ty a m ++ jx ty hs (ns.set i (.inl q))))))
   have h3:=(ih.append_left (ka (Fits a m)::iK ty a m))
   refine h3.trans ?_
   show ((ka (Fits a m)::iK ty a m) ++ ((ka (Fits h n)::iK ty h n) ++ jx ty hs (ns.set i (.inl q)))).Perm ((ka (Fits h n)::iK ty h n) ++ ((ka (Fits a m)::iK ty a m) ++ jx ty hs (ns.set i (.inl q))))
   rw [← List.append_assoc,← List.append_assoc]
   exact List.Perm.append_right _ List.perm_append_comm
theorem rv (ty:TreeTy) (hs:List DHdr) (ns:List (Int ⊕ DNode)) (i:Nat) (h:DHdr) (n:DNode) (q:Int) (h1:hs[i]? = some h) (h2:i < ns.length) (h3:ns[i]? = some (.inl q)) :
 (ka (Fits h n)::(iK ty h n ++ jx ty hs ns)).Perm (jx ty hs (ns.set i (.inr n))):=by
 have:=lh ty hs (ns.set i (.inr n)) i h n q h1 (by rw [List.getElem?_set_self h2])
 rw [List.set_set,show ns.set i (.inl q)=ns from List.ext_getElem? fun j=>by
  rw [List.getElem?_set]
  split
  · rename_i e;subst e;first | rw [if_pos h2,h3] | exact h3.symm
  · rfl] at this
 exact this.symm
theorem pm (ty:TreeTy) : ∀(hs:List DHdr) (ns:List (Int ⊕ DNode)) (i:Nat) (h:DHdr) (q r:Int),ns[i]? = some (.inl q)→jx ty (hs.set i h) (ns.set i (.inl r))=jx ty hs ns
 | [],_,i,h,_,_,_=>by simp [jx]
 | _::_,[],i,h,_,_,h2=>by simp at h2
 | a::hs,m::ns,0,h,q,r,h2=>by
  obtain rfl:m = .inl q:=by simpa using h2
  rfl
 | a::hs,m::ns,i + 1,h,q,r,h2=>by
  have ih:=pm ty hs ns i h q r (by simpa using h2)
  cases m with
  | inl _=>exact ih
  | inr m=>show ka (Fits a m)::(iK ty a m ++ jx ty (hs.set i h) (ns.set i (.inl r)))=_;rw [ih];rfl
theorem pl (ty:TreeTy) : ∀(hs:List DHdr) (ns:List (Int ⊕ DNode)) (i:Nat) (q:Int),(jx ty hs (ns.set i (.inl q))).Sublist (jx ty hs ns)
 | [],ns,i,q=>by cases ns <;> simp [jx]
 | _::_,[],i,q=>by simp [jx]
 | a::hs,m::ns,0,q=>by
  cases m with
  | inl _=>exact List.Sublist.refl _
  | inr m=>exact (List.sublist_append_right (ka (Fits a m)::iK ty a m) _)
 | a::hs,m::ns,i + 1,q=>by
  have ih:=pl ty hs ns i q
  cases m with
  | inl _=>exact ih
  | inr m=>exact (List.Sublist.refl (ka (Fits a m)::iK ty a m)).append ih
theorem nI (ty:TreeTy) (h:DHdr) (m:Int ⊕ DNode) : ∀(hs:List DHdr) (ns:List (Int ⊕ DNode)),hs.length=ns.length→jx ty (hs ++ [h]) (ns ++ [m])=jx ty hs ns ++ jx ty [h] [m]
 | [],[],_=>by simp [jx]
 | [],_::_,h=>by simp at h
 | _::_,[],h=>by simp at h
 | a::hs,x::ns,hl=>by
  have ih:=nI ty h m hs ns (by simpa using hl)
  cases x with
  | inl _=>exact ih
  | inr x=>show ka (Fits a x)::(iK ty a x ++ jx ty (hs ++ [h]) (ns ++ [m]))=_;rw [ih];simp [jx]
theorem Hp.put {w0:World} {V:View} {H:List HObj} {w:World} {p:Prop} (h:Hp w0 V H w) (hp:p) : Hp w0 V (ka p::H) w :=
 ⟨h.os,h.tape,h.output,h.size,h.view,h.base,fun x hx=>by
  rcases List.mem_cons.1 hx with rfl | hx
  · exact hp
  · exact h.objs x hx,fun x hx b hb=>by
  rcases List.mem_cons.1 hx with rfl | hx
  · cases hb
  · exact h.apart x hx b hb,List.Pairwise.cons (fun y _ b hb=>by cases hb) h.sep⟩
def inN:Int ⊕ DNode→Option DNode
 | .inl _=>none
 | .inr n=>some n
def qZ:Int ⊕ DNode→Int
 | .inl k=>k
 | .inr n=>n.kind
def j6 (ns:List (Int ⊕ DNode)) (i:Int) : Option DNode:=if i < 0 then none else (ns[i.toNat]?).bind inN
def qI (ns:List (Int ⊕ DNode)) (i:Int) : Option Int:=if i < 0 then none else (ns[i.toNat]?).map qZ
def iZ (ns:List (Int ⊕ DNode)) (i:Int) : List (Int ⊕ DNode):=ns.set i.toNat (.inl (((ns[i.toNat]?).map qZ).getD 0))
def jq (ns:List (Int ⊕ DNode)) (i:Int) (n:DNode) : List (Int ⊕ DNode):=ns.set i.toNat (.inr n)
theorem mF {ns:List (Int ⊕ DNode)} {i:Int} {n:DNode} (h:j6 ns i=some n) : 0≤i∧ns[i.toNat]? = some (.inr n):=by
 unfold j6 at h
 split at h
 · cases h
 · refine⟨by omega,?_⟩
   cases hx:ns[i.toNat]? with
   | none=>rw [hx] at h;cases h
   | some m =>
    rw [hx] at h
    cases m with
    | inl k=>cases h
    | inr m =>
     obtain rfl:m=n:=by simpa [inN] using h
     rfl
structure TreeOk (hs:List DHdr) (ns:List (Int ⊕ DNode)) : Prop where
 lenk:LenK hs ns
 fits : ∀(i:Nat) (n:DNode),ns[i]? = some (.inr n)→∃ h,hs[i]? = some h∧Fits h n
theorem TreeOk.len {hs:List DHdr} {ns:List (Int ⊕ DNode)} (h:TreeOk hs ns) : hs.length=ns.length:=h.lenk.len
theorem qO {ty:TreeTy} {V:View} {w:World} : ∀(hs:List DHdr) (ns:List (Int ⊕ DNode)),(∀ x∈jx ty hs ns,x.ok V w)→hs.length=ns.length→∀(i:Nat) (n:DNode),ns[i]? = some (.inr n)→∃ h,hs[i]? = some h∧Fits h n:=fun hs ns hok hl i n hn=>by
 have hi:=(List.getElem?_eq_some_iff.1 hn).1
 have hh:hs[i]? = some (hs[i]'(by omega)):=List.getElem?_eq_getElem (by omega)
 exact⟨_,hh,hok _ ((lh ty hs ns i _ n 0 hh hn).mem_iff.2 List.mem_cons_self)⟩
theorem TreeOk.of {ty:TreeTy} {V:View} {w:World} {hs:List DHdr} {ns:List (Int ⊕ DNode)} (h:(il ty hs ns).ok V w) : TreeOk hs ns:=⟨h.1,qO hs ns h.2.1 h.1.len⟩
theorem Hp.opened {w0:World} {V:View} {X:List HObj} {w:World} {ty:TreeTy} {hs:List DHdr} {ns:List (Int ⊕ DNode)} (h:Hp w0 V (il ty hs ns::X) w) : LenK hs ns∧Hp w0 V (jx ty hs ns ++ X) w:=by
 obtain⟨h1,h2,h3⟩:=h.objs _ List.mem_cons_self
 have hs':=List.pairwise_cons.1 h.sep
 refine⟨h1,h.os,h.tape,h.output,h.size,h.view,h.base,fun x hx=>?_,fun x hx b hb=>?_,?_⟩
 · rcases List.mem_append.1 hx with hx | hx
   · exact h2 x hx
   · exact h.objs x (List.mem_cons_of_mem _ hx)
 · rcases List.mem_append.1 hx with hx | hx
   · exact h.apart _ List.mem_cons_self b ⟨x,hx,hb⟩
   · exact h.apart x (List.mem_cons_of_mem _ hx) b hb
 · exact List.pairwise_append.2 ⟨h3,hs'.2,fun x hx y hy b hb=>hs'.1 y hy b ⟨x,hx,hb⟩⟩
theorem Hp.closed {w0:World} {V:View} {X:List HObj} {w:World} {ty:TreeTy} {hs:List DHdr} {ns:List (Int ⊕ DNode)} (hl:LenK hs ns) (h:Hp w0 V (jx ty hs ns ++ X) w) : Hp w0 V (il ty hs ns::X) w:=by
 obtain⟨p1,p2,p3⟩:=List.pairwise_append.1 h.sep
 refine⟨h.os,h.tape,h.output,h.size,h.view,h.base,fun x hx=>?_,fun x hx b hb=>?_,?_⟩
 · rcases List.mem_cons.1 hx with rfl | hx
   · exact⟨hl,fun x hx=>h.objs x (List.mem_append_left _ hx),p1⟩
   · exact h.objs x (List.mem_append_right _ hx)
 · rcases List.mem_cons.1 hx with rfl | hx
   · obtain⟨y,hy,hb⟩:=hb
     exact h.apart y (List.mem_append_left _ hy) b hb
   · exact h.apart x (List.mem_append_right _ hx) b hb
 · refine List.Pairwise.cons (fun y hy b hb=>?_) p2
   obtain⟨x,hx,hb⟩:=hb
   exact p3 x hx y hy b hb
theorem TreeOk.at_ {hs:List DHdr} {ns:List (Int ⊕ DNode)} (h:TreeOk hs ns) {i:Int} {n:DNode} (hn:j6 ns i=some n) :
 ∃ a1 c1 a2 c2 a3 c3 a4 c4,0≤i∧i < (hs.length:Int)∧hs[i.toNat]? = some ⟨n.kind,a1,n.elems.length,c1,a2,n.kids.length,c2,a3,n.seps.length,c3,a4,n.tids.length,c4⟩:=by
 obtain⟨h0,h1⟩:=mF hn
 obtain⟨⟨k,a1,n1,c1,a2,n2,c2,a3,n3,c3,a4,n4,c4⟩,h2,f1,f2,f3,f4,f5⟩:=h.fits _ _ h1
 dsimp only at f1 f2 f3 f4 f5
 subst f1 f2 f3 f4 f5
 exact⟨a1,c1,a2,c2,a3,c3,a4,c4,h0,by have:=(List.getElem?_eq_some_iff.1 h2).1;omega,h2⟩
theorem TreeOk.kind_ {hs:List DHdr} {ns:List (Int ⊕ DNode)} (h:TreeOk hs ns) {i k:Int} (hn:qI ns i=some k) :
 ∃ a1 n1 c1 a2 n2 c2 a3 n3 c3 a4 n4 c4,0≤i∧i < (hs.length:Int)∧hs[i.toNat]? = some ⟨k,a1,n1,c1,a2,n2,c2,a3,n3,c3,a4,n4,c4⟩:=by
 unfold qI at hn
 split at hn
 · cases hn
 rename_i h0
 obtain⟨x,hx,hk⟩:=Option.map_eq_some_iff.1 hn
 have hh : ∃ e,hs[i.toNat]? = some e∧e.kind=k:=by
  cases x with
  | inl q =>
   obtain rfl:q=k:=hk
   exact h.lenk.kinds _ _ hx
  | inr n =>
   obtain rfl:n.kind=k:=hk
   obtain⟨e,he,hf⟩:=h.fits _ _ hx
   exact⟨e,he,hf.kind⟩
 obtain⟨⟨q,a1,n1,c1,a2,n2,c2,a3,n3,c3,a4,n4,c4⟩,h2,hk⟩:=hh
 obtain rfl:q=k:=hk
 exact⟨a1,n1,c1,a2,n2,c2,a3,n3,c3,a4,n4,c4,by omega,by have:=(List.getElem?_eq_some_iff.1 h2).1;omega,h2⟩
section
variable {N:Sz} {w0:World} {V:View} {H X H' : List HObj} {M:List (Nat × Value)} {φ:Act→World→Prop} {ty:TreeTy} {hs:List DHdr} {ns:List (Int ⊕ DNode)} {k:Int} {n:DNode} {h:DHdr}
theorem qn {α:Type} : ∀(l:List α) (i:Nat) (x:α),l[i]? = some x→l.Perm (x::l.eraseIdx i)
 | [],_,_,h=>by simp at h
 | a::l,0,x,h=>by
  obtain rfl:a=x:=by simpa using h
  exact List.Perm.refl _
 | a::l,i + 1,x,h=>((qn l i x (by simpa using h)).cons a).trans (List.Perm.swap _ _ _)
theorem nG {α:Type} : ∀(l:List α) (i:Nat) (x y:α),l[i]? = some x→(l.set i y).Perm (y::l.eraseIdx i)
 | [],_,_,_,h=>by simp at h
 | a::l,0,x,y,h=>List.Perm.refl _
 | a::l,i + 1,x,y,h=>((nG l i x y (by simpa using h)).cons a).trans (List.Perm.swap _ _ _)
theorem mT {i:Nat} {x:HObj} (hi:nth H i=some x) : H.Perm (x::H.eraseIdx i):=by
 rw [jE] at hi;exact qn H i x hi
theorem pf {i:Nat} {x y:HObj} (hi:nth H i=some x) : (H.set i y).Perm (y::H.eraseIdx i):=by
 rw [jE] at hi;exact nG H i x y hi
theorem T.iL (i:Nat) (hi:nth H i=some (il ty hs ns)) (q:TreeOk hs ns→T N w0 V H M φ) : T N w0 V H M φ:=fun a w hf hh=>q (TreeOk.of (hh.objs _ (by rw [jE] at hi;exact List.mem_of_getElem? hi))) a w hf hh
theorem T.mP (i:Nat) (hi:nth H i=some (il ty hs ns)) (hn:j6 ns k=some n) (hh:hs[k.toNat]? = some h) (hH:H.set i (il ty hs (iZ ns k))=H')
 (q:T N w0 V (row ty.te eElem h.a1 h.c1 n.elems::row ty.ti hO h.a2 h.c2 n.kids::row ty.ts eSpot h.a3 h.c3 n.seps::row ty.ti hO h.a4 h.c4 n.tids::H') M φ) : T N w0 V H M φ:=fun a w hf hp=>by
 subst hH
 obtain⟨h0,h1⟩:=mF hn
 refine q a w hf ?_
 obtain⟨hl,h2⟩:=(hp.perm (mT hi)).opened
 have h3:=h2.perm (List.Perm.append_right _ (lh ty hs ns k.toNat h n (((ns[k.toNat]?).map qZ).getD 0) hh h1))
 have hfit:Fits h n:=h3.objs _ List.mem_cons_self
 have h4:=(h3.sub (H':=iK ty h n ++ jx ty hs (iZ ns k) ++ H.eraseIdx i) (.cons _ (List.Sublist.refl _)))
 have h5:Hp w0 V (jx ty hs (iZ ns k) ++ (iK ty h n ++ H.eraseIdx i)) w:=h4.perm (by rw [← List.append_assoc];exact List.Perm.append_right _ List.perm_append_comm)
 have h6:=Hp.closed (show LenK hs (iZ ns k) from hl.inl hh (by rw [h1];exact hfit.kind)) h5
 refine h6.perm ?_
 have e1:(il ty hs (iZ ns k)::(iK ty h n ++ H.eraseIdx i)).Perm (iK ty h n ++ (il ty hs (iZ ns k)::H.eraseIdx i)):=List.perm_middle.symm
 exact e1.trans ((pf hi).symm.append_left (iK ty h n))
theorem T.sS (hX:H.Perm (row ty.te eElem h.a1 h.c1 n.elems::row ty.ti hO h.a2 h.c2 n.kids::row ty.ts eSpot h.a3 h.c3 n.seps::row ty.ti hO h.a4 h.c4 n.tids::il ty hs ns::X))
 (h0:0≤k) {r:Int} (h1:ns[k.toNat]? = some (.inl r)) (hh:hs[k.toNat]? = some h) (hf:Fits h n) (q:T N w0 V (il ty hs (jq ns k n)::X) M φ) : T N w0 V H M φ:=fun a w hfr hp=>by
 refine q a w hfr ?_
 have h2:=hp.perm (hX.trans (show (iK ty h n ++ (il ty hs ns::X)).Perm (il ty hs ns::(iK ty h n ++ X)) from List.perm_middle))
 obtain⟨hl,h3⟩:=h2.opened
 have h4:Hp w0 V (ka (Fits h n)::(iK ty h n ++ jx ty hs ns) ++ X) w:=(h3.perm (show (jx ty hs ns ++ (iK ty h n ++ X)).Perm ((iK ty h n ++ jx ty hs ns) ++ X) by rw [← List.append_assoc];exact List.Perm.append_right _ List.perm_append_comm)).put hf
 have hi:k.toNat < ns.length:=(List.getElem?_eq_some_iff.1 h1).1
 have h5:=h4.perm (List.Perm.append_right X (rv ty hs ns k.toNat h n r hh hi h1))
 exact Hp.closed (show LenK hs (jq ns k n) from hl.inr _ _) h5
theorem T.oz (hX:H.Perm (row ty.te eElem h.a1 h.c1 n.elems::row ty.ti hO h.a2 h.c2 n.kids::row ty.ts eSpot h.a3 h.c3 n.seps::row ty.ti hO h.a4 h.c4 n.tids::il ty hs ns::X)) (hf:Fits h n)
 (q:T N w0 V (il ty (hs ++ [h]) (ns ++ [.inr n])::X) M φ) : T N w0 V H M φ:=fun a w hfr hp=>by
 refine q a w hfr ?_
 have h2:=hp.perm (hX.trans (show (iK ty h n ++ (il ty hs ns::X)).Perm (il ty hs ns::(iK ty h n ++ X)) from List.perm_middle))
 obtain⟨hl,h3⟩:=h2.opened
 have h4:=h3.put hf
 refine Hp.closed (hl.push h n) ?_
 rw [nI ty h (.inr n) hs ns hl.len]
 refine h4.perm ?_
 have e1:jx ty [h] [.inr n]=ka (Fits h n)::iK ty h n:=by simp [jx]
 rw [e1]
 show (ka (Fits h n)::(jx ty hs ns ++ (iK ty h n ++ X))).Perm (jx ty hs ns ++ (ka (Fits h n)::iK ty h n) ++ X)
 rw [List.append_assoc]
 exact List.perm_middle.symm
theorem T.rZ (i:Nat) (k:Int) (hi:nth H i=some (il ty hs ns)) (hH:H.set i (il ty hs (iZ ns k))=H') (q:T N w0 V H' M φ) : T N w0 V H M φ:=fun a w hf hp=>by
 subst hH
 refine q a w hf ?_
 have ht:=TreeOk.of (hp.objs _ (by rw [jE] at hi;exact List.mem_of_getElem? hi))
 obtain⟨hl,h2⟩:=(hp.perm (mT hi)).opened
 have h3:=h2.sub (H':=jx ty hs (iZ ns k) ++ H.eraseIdx i) ((pl ty hs ns k.toNat _).append (List.Sublist.refl _))
 refine(Hp.closed ?_ h3).perm (pf hi).symm
 unfold iZ
 cases hx:ns[k.toNat]? with
 | none =>
  rw [List.set_eq_of_length_le (List.getElem?_eq_none_iff.1 hx)];exact hl
 | some x =>
  cases x with
  | inl q =>
   obtain⟨e,he,hk⟩:=hl.kinds _ _ hx
   exact hl.inl he hk
  | inr n =>
   obtain⟨e,he,hf⟩:=ht.fits _ _ hx
   exact hl.inl he hf.kind
theorem T.rz (i:Nat) (j:Nat) (h' : DHdr) (hi:nth H i=some (il ty hs ns)) {r:Int} (hj:ns[j]? = some (.inl r)) (hH:H.set i (il ty (hs.set j h') (ns.set j (.inl h'.kind)))=H') (q:T N w0 V H' M φ) : T N w0 V H M φ:=fun a w hf hp=>by
 subst hH
 refine q a w hf ?_
 obtain⟨hl,h2⟩:=(hp.perm (mT hi)).opened
 refine(Hp.closed (hl.head j h') ?_).perm (pf hi).symm
 rw [pm ty hs ns j h' _ _ hj];exact h2
theorem T.jj (ty:TreeTy) (q:T N w0 V (il ty [] []::H) M φ) : T N w0 V H M φ:=fun a w hf hp=>q a w hf (Hp.closed LenK.nil hp)
end
def oF (x:HObj) : Prop:=∀ V V' w,x.ok V w→x.ok V' w
def pV:List HObj→Prop
 | []=>True
 | x::l=>oF x∧pV l
theorem pV.mem : ∀ {l:List HObj},pV l→∀ x∈l,oF x
 | [],_,x,h=>by cases h
 | a::l,h,x,hx=>by
  rcases List.mem_cons.1 hx with rfl | hx
  · exact h.1
  · exact pV.mem h.2 x hx
theorem iG {α:Type} {E:Enc α} {p:Bool} {e:TypeId} {A:Option Addr} {c:Nat} {l:List α} (hf : ∀ V V' cs x,E.rep V cs x→E.rep V' cs x) : oF (j8 p e E A c l):=fun V V' w h=>by
 obtain⟨h1,h2,h3⟩:=h
 exact⟨h1,h2,h3.imp id fun ⟨g,cur,fz,xs,h⟩=>⟨g,cur,fz,xs,{ h with rep:=⟨h.rep.1,fun k x hk=>hf _ _ _ _ (h.rep.2 k x hk)⟩ }⟩⟩
theorem nj (ty:TreeTy) : ∀(hs:List DHdr) (ns:List (Int ⊕ DNode)),∀ x∈jx ty hs ns,oF x
 | [],ns,x,hx=>by cases ns <;> simp [jx] at hx
 | _::_,[],x,hx=>by simp [jx] at hx
 | a::hs,.inl _::ns,x,hx=>nj ty hs ns x hx
 | a::hs,.inr m::ns,x,hx=>by
  rcases List.mem_cons.1 hx with rfl | hx
  · exact fun _ _ _ h=>h
  rcases List.mem_append.1 hx with hx | hx
  · simp only [iK,List.mem_cons,List.not_mem_nil,or_false] at hx
    rcases hx with rfl | rfl | rfl | rfl <;> exact iG fun _ _ _ _ h=>h
  · exact nj ty hs ns x hx
theorem iO (ty:TreeTy) (hs:List DHdr) (ns:List (Int ⊕ DNode)) : oF (il ty hs ns):=fun V V' w ⟨h1,h2,h3⟩=>⟨h1,fun x hx=>nj ty hs ns x hx V V' w (h2 x hx),h3⟩
def kZ (w w' : World) (X:List HObj) : Prop:=∀ {w0:World} {V:View} {H:List HObj},Hp w0 V H w→Hp w0 V (X ++ H) w'
theorem iP {w w' : World} {V1:View} {X:List HObj} (h:Hp w V1 X w') (hf:pV X) : kZ w w' X:=fun {w0 V H} hp=>by
 have hold : ∀ b,b < w.heap.size→w'.heap[b]? = w.heap[b]?:=fun b hb=>by
  have h1:=h.view b w.heap[b] (h.base b _ (Array.getElem?_eq_getElem hb))
  rw [Array.getElem?_eq_getElem hb];exact h1
 have hnew : ∀ x∈X,∀ b,x.own b→w.heap.size≤b:=fun x hx b hb=>by
  rcases Nat.lt_or_ge b w.heap.size with hlt | hge
  · have h1:=h.apart x hx b hb
    have h2:=h.base b w.heap[b] (Array.getElem?_eq_getElem hlt)
    rw [h1] at h2;cases h2
  · exact hge
 refine⟨h.os.trans hp.os,h.tape.trans hp.tape,h.output.trans hp.output,Nat.le_trans hp.size h.size,fun b o hv=>?_,hp.base,fun x hx=>?_,fun x hx b hb=>?_,?_⟩
 · have h1:=hp.view b o hv
   show w'.heap[b]? = some o
   rw [hold b (jI h1)];exact h1
 · rcases List.mem_append.1 hx with hx | hx
   · exact hf.mem x hx _ _ _ (h.objs x hx)
   · exact x.loc V w w' (fun b hb=>hold b (x.lt V w b (hp.objs x hx) hb)) (hp.objs x hx)
 · rcases List.mem_append.1 hx with hx | hx
   · cases hv:V b with
     | none=>rfl
     | some o=>exact absurd (jI (hp.view _ _ hv)) (by have:=hnew x hx b hb;omega)
   · exact hp.apart x hx b hb
 · refine List.pairwise_append.2 ⟨h.sep,hp.sep,fun x hx y hy b hb hyb=>?_⟩
   have:=hnew x hx b hb
   have:=y.lt V w b (hp.objs y hy) hyb
   omega
section
variable {P:Program} {N:Sz} {w0:World} {V:View} {H:List HObj} {M:List (Nat × Value)} {ops:Array Oper} {Q:Exit→Act→World→Prop} {o:Oper} {K:Act→World→Prop}
theorem W1.jO {π:Type} (f:FuncId) (vs:Array Value) (v:π→Value) (X:π→List HObj) (R:π→Prop) (hc:okO N ops M o=true) (hv : ∀ w,(execOp (evM M) o).run P w = .ok (.enter f vs) w)
 (hf : ∀ w,Hp w0 V H w→Calls P f vs w fun e w'=>∃ p,e = .returned (v p)∧R p∧kZ w w' (X p)) (h : ∀ p,R p→T N w0 V (X p ++ H) (io o.dst (v p) M) K) : W1 P Q ops o N w0 V H M K:=fun a w hfr hh=>by
 obtain⟨h1,_,_,h4⟩:=i8 hc
 refine⟨iW hfr h1,?_⟩
 unfold Oper.wp
 rw [jk hc hfr,hv w,Oper.upon_enter]
 refine(hf w hh).mono ?_
 rintro e w' ⟨p,rfl,hr,hg⟩
 exact h p hr _ _ (hfr.put h4 _) (hg hh)
end
def rY (ty:TreeTy) (n:DNode) (w:World) (e:Ending) (w' : World) : Prop :=
 ∃ h:DHdr,e = .returned (.agg h.cells.toArray)∧Fits h n∧kZ w w' (iK ty h n)
def qT (ty:TreeTy) (tn:TypeId) (t:DTree) (w:World) (e:Ending) (w' : World) : Prop :=
 ∃ p:Option Addr × Nat × List DHdr,e = .returned (.agg #[.int .i64 t.root,.slice p.1 p.2.2.length p.2.1])∧p.2.2.length=t.nodes.length∧kZ w w' [row tn eHdr p.1 p.2.1 p.2.2,il ty p.2.2 (t.nodes.map Sum.inr)]
theorem Hp.lent {w0:World} {V:View} {H:List HObj} {w:World} {ty:TreeTy} {hs:List DHdr} {ns:List (Int ⊕ DNode)} {k:Int} {n:DNode} {h:DHdr} (hp:Hp w0 V H w) {i:Nat} (hi:nth H i=some (il ty hs ns)) (hn:j6 ns k=some n) (hh:hs[k.toNat]? = some h) :
 ia (vw w) eElem h.a1 h.c1 n.elems∧ia (vw w) hO h.a2 h.c2 n.kids∧ia (vw w) eSpot h.a3 h.c3 n.seps∧ia (vw w) hO h.a4 h.c4 n.tids:=by
 obtain⟨h0,h1⟩:=mF hn
 obtain⟨hl,h2⟩:=(hp.perm (mT hi)).opened
 have h3:=h2.perm (List.Perm.append_right _ (lh ty hs ns k.toNat h n 0 hh h1))
 exact⟨h3.row_slOk (i:=1) rfl,h3.row_slOk (i:=2) rfl,h3.row_slOk (i:=3) rfl,h3.row_slOk (i:=4) rfl⟩
def pG (bytes n:Nat) : Option Unit:=if n * bytes≤140737488355328∧n≤maxLen then some () else none
theorem mo {bytes n:Nat} {u:Unit} (h:pG bytes n=some u) : mn n bytes=true∧n≤maxLen:=by
 unfold pG at h
 by_cases hc:n * bytes≤140737488355328∧n≤maxLen
 · exact⟨decide_eq_true hc.1,hc.2⟩
 · rw [if_neg hc] at h;cases h
def kH (ns:List (Int ⊕ DNode)) (i:Int) : Option Unit:=if 0≤i∧i < (ns.length:Int) then some () else none
theorem TreeOk.has {hs:List DHdr} {ns:List (Int ⊕ DNode)} (h:TreeOk hs ns) {i:Int} {u:Unit} (hn:kH ns i=some u) : 0≤i∧i < (hs.length:Int)∧∃ x,hs[i.toNat]? = some x:=by
 unfold kH at hn
 split at hn
 · rename_i hi
   have:=h.len
   exact⟨hi.1,by omega,_,List.getElem?_eq_getElem (by omega)⟩
 · cases hn
theorem sC {ns:List (Int ⊕ DNode)} {i:Int} {u:Unit} (hn:kH ns i=some u) : (iZ ns i)[i.toNat]? = some (.inl (((ns[i.toNat]?).map qZ).getD 0)):=by
 unfold kH at hn
 split at hn
 · unfold iZ;rw [List.getElem?_set_self (by omega)]
 · cases hn
def mW:List (Int ⊕ DNode)→Option (List DNode)
 | []=>some []
 | .inl _::_=>none
 | .inr n::ns=>(mW ns).map (n::·)
theorem jd : ∀ {ns:List (Int ⊕ DNode)} {l:List DNode},mW ns=some l→ns=l.map Sum.inr
 | [],l,h=>by
  obtain rfl : []=l:=Option.some.inj h
  rfl
 | .inl _::ns,l,h=>by cases h
 | .inr n::ns,l,h=>by
  obtain⟨m,hm,rfl⟩:=Option.map_eq_some_iff.1 h
  rw [jd hm];rfl
theorem tx (l:List DNode) : mW (l.map Sum.inr)=some l:=by
 induction l with
 | nil=>rfl
 | cons n l ih=>show (mW (l.map Sum.inr)).map _=_;rw [ih];rfl
open Classical in
theorem j7 {ns:List (Int ⊕ DNode)} {i:Int} {n:DNode} {u:Unit} (h:kH ns i=some u) : j6 (jq ns i n) i=some n:=by
 unfold kH at h
 split at h
 · rename_i hi
   unfold j6 jq
   rw [if_neg (by omega),List.getElem?_set_self (by omega)];rfl
 · cases h
theorem rt (ns:List (Int ⊕ DNode)) (i:Int) (n:DNode) : jq (iZ ns i) i n=jq ns i n:=by unfold jq iZ;rw [List.set_set]
theorem ru {ns:List (Int ⊕ DNode)} {i:Int} {n:DNode} (x:Int ⊕ DNode) : jq (ns.set i.toNat x) i n=jq ns i n:=by unfold jq;rw [List.set_set]
theorem qX {ns:List (Int ⊕ DNode)} {i:Int} {u:Unit} (h:kH ns i=some u) : 0≤i∧i.toNat < ns.length:=by
 unfold kH at h
 split at h
 · omega
 · cases h
theorem TreeOk.set_at {hs:List DHdr} {ns:List (Int ⊕ DNode)} (ht:TreeOk hs ns) {i:Int} {u:Unit} (h' : DHdr) (h:kH ns i=some u) : (hs.set i.toNat h')[i.toNat]? = some h':=by
 have:=qX h
 rw [List.getElem?_set_self (by rw [ht.len];exact this.2)]
def sA (a b:DNode) : Option Unit:=if a.elems.length=b.elems.length∧a.kids.length=b.kids.length∧a.seps.length=b.seps.length∧a.tids.length=b.tids.length then some () else none
theorem kO {a b:DNode} {u:Unit} (h:sA a b=some u) : a.elems.length=b.elems.length∧a.kids.length=b.kids.length∧a.seps.length=b.seps.length∧a.tids.length=b.tids.length:=by
 unfold sA at h
 split at h
 · assumption
 · cases h
section
variable {N:Sz} {w0:World} {V:View} {H X H' : List HObj} {M:List (Nat × Value)} {φ:Act→World→Prop} {ty:TreeTy} {hs:List DHdr} {ns:List (Int ⊕ DNode)} {k:Int} {n:DNode} {h:DHdr}
theorem T.lC (X:List HObj) (h:DHdr) (n:DNode) (hP:H.Perm (row ty.te eElem h.a1 h.c1 n.elems::row ty.ti hO h.a2 h.c2 n.kids::row ty.ts eSpot h.a3 h.c3 n.seps::row ty.ti hO h.a4 h.c4 n.tids::il ty hs ns::X)) (hf:Fits h n) {u:Unit} (hk:kH ns k=some u)
 (q:T N w0 V (il ty (hs.set k.toNat h) (jq ns k n)::X) M φ) : T N w0 V H M φ:=fun a w hfr hp=>by
 have h1:=hp.perm hP
 have h0:=qX hk
 obtain⟨hok,-⟩:=(h1.perm (List.perm_middle (l₁:=iK ty h n))).opened
 have hlen:k.toNat < hs.length:=by have:=hok.len;omega
 have e1:(hs.set k.toNat h)[k.toNat]? = some h:=List.getElem?_set_self hlen
 rw [← rt,← ru (.inl h.kind)] at q
 refine T.rZ (H:=row ty.te eElem h.a1 h.c1 n.elems::row ty.ti hO h.a2 h.c2 n.kids::row ty.ts eSpot h.a3 h.c3 n.seps::row ty.ti hO h.a4 h.c4 n.tids::il ty hs ns::X) 4 k rfl rfl ?_ a w hfr h1
 refine T.rz 4 k.toNat h rfl (sC hk) rfl ?_
 exact T.sS (h:=h) (n:=n) (r:=h.kind) (List.Perm.refl _) h0.1 (List.getElem?_set_self (by unfold iZ;rw [List.length_set];exact h0.2)) e1 hf q
theorem T.qA (X:List HObj) (h:DHdr) (n:DNode) (hP:H.Perm (row ty.te eElem h.a1 h.c1 n.elems::row ty.ti hO h.a2 h.c2 n.kids::row ty.ts eSpot h.a3 h.c3 n.seps::row ty.ti hO h.a4 h.c4 n.tids::il ty hs ns::X)) (hf:Fits h n) (ht:TreeOk hs ns) (h0:0≤k) (hh:hs[k.toNat]? = some h)
 (q:T N w0 V (il ty hs (jq ns k n)::X) M φ) : T N w0 V H M φ:=by
 have hlt:=(List.getElem?_eq_some_iff.1 hh).1
 have hk:kH ns k=some ():=by unfold kH;rw [if_pos ⟨h0,by have:=ht.len;omega⟩]
 refine T.lC X h n hP hf hk ?_
 have e:hs.set k.toNat h=hs:=List.ext_getElem? fun j=>by
  rw [List.getElem?_set]
  split
  · rename_i e;subst e;first | rw [if_pos hlt,hh] | exact hh.symm
  · rfl
 rw [e];exact q
theorem T.nv {α:Type} {E:Enc α} {f:α→List Value} {l:List α} {b t:Nat} (i:Nat) (H' : List HObj) (hi:nth H i=some (box b t (l.flatMap f))) (hf : ∀ V x,E.rep V (f x) x) (hl:0 < l.length) (hm:l.length≤maxLen) (hH:H.set i (row t E (some ⟨b,0,none⟩) l.length l)=H')
 (q:T N w0 V H' M φ) : T N w0 V H M φ:=fun a w hfr hh=>by
 rw [jE] at hi
 have hbox:w.heap[b]? = some (.cells (l.flatMap f).toArray t (0,0)):=hh.objs _ (List.mem_of_getElem? hi)
 have hrep:iJ V E (l.flatMap f) l:=mK hf l
 have hlen:=hrep.1
 have hblk:jc (some (⟨b,0,none⟩ : Addr)) l.length=some b:=by unfold jc;rw [if_neg (by omega)];rfl
 refine q a w hfr (hH ▸ hh.turn (o:=none) hi ⟨rfl,rfl,rfl,Nat.le_refl _,fun _ _ _=>rfl⟩ ?_ (fun b' hb'=>.inl ?_))
 · exact⟨Nat.le_refl _,hm,.inr ⟨b,_,_,(l.flatMap f),⟨rfl,hbox,fun _=>rfl,fun i _ h=>by simp at h,by rw [List.size_toArray,hlen],by rw [← hlen,List.take_length],hrep⟩⟩⟩
 · exact hblk.symm.trans hb'
end
end Go.Proofs.YtfbpiogbhkgieaaGreat
