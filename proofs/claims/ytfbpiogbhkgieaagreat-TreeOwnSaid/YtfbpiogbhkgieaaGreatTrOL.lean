/- Many rows al one object: of lists of nodes, of lists of trees. Its conditions: none. -/
import Derived.Test.YtfbpiogbhkgieaaGreatSpoilL
import Derived.Test.YtfbpiogbhkgieaaGreatTreeOL
namespace Go.Proofs.YtfbpiogbhkgieaaGreat
open Go.RowKit
set_option linter.unusedVariables false
set_option linter.unusedSimpArgs false
def re (R:List HObj) : HObj where
 own:=fun b=>∃ x∈R,x.own b
 ok:=fun V w=>(∀ x∈R,x.ok V w)∧R.Pairwise sK
 loc:=fun V w w' hb ⟨h2,h3⟩=>⟨fun x hx=>x.loc V w w' (fun b hxb=>hb b ⟨x,hx,hxb⟩) (h2 x hx),h3⟩
 mono:=fun V V' w hv ⟨h2,h3⟩=>⟨fun x hx=>x.mono V V' w hv (h2 x hx),h3⟩
 lt:=fun V w b ⟨h2,_⟩ ⟨x,hx,hb⟩=>x.lt V w b (h2 x hx) hb
theorem Hp.openP {w0:World} {V:View} {R X:List HObj} {w:World} (h:Hp w0 V (re R::X) w) : Hp w0 V (R ++ X) w:=by
 obtain⟨h2,h3⟩:=h.objs _ List.mem_cons_self
 have hs':=List.pairwise_cons.1 h.sep
 refine⟨h.os,h.tape,h.output,h.size,h.view,h.base,fun x hx=>?_,fun x hx b hb=>?_,?_⟩
 · rcases List.mem_append.1 hx with hx | hx
   · exact h2 x hx
   · exact h.objs x (List.mem_cons_of_mem _ hx)
 · rcases List.mem_append.1 hx with hx | hx
   · exact h.apart _ List.mem_cons_self b ⟨x,hx,hb⟩
   · exact h.apart x (List.mem_cons_of_mem _ hx) b hb
 · exact List.pairwise_append.2 ⟨h3,hs'.2,fun x hx y hy b hb=>hs'.1 y hy b ⟨x,hx,hb⟩⟩
theorem Hp.closeP {w0:World} {V:View} {R X:List HObj} {w:World} (h:Hp w0 V (R ++ X) w) : Hp w0 V (re R::X) w:=by
 obtain⟨p1,p2,p3⟩:=List.pairwise_append.1 h.sep
 refine⟨h.os,h.tape,h.output,h.size,h.view,h.base,fun x hx=>?_,fun x hx b hb=>?_,?_⟩
 · rcases List.mem_cons.1 hx with rfl | hx
   · exact⟨fun x hx=>h.objs x (List.mem_append_left _ hx),p1⟩
   · exact h.objs x (List.mem_append_right _ hx)
 · rcases List.mem_cons.1 hx with rfl | hx
   · obtain⟨y,hy,hb⟩:=hb
     exact h.apart y (List.mem_append_left _ hy) b hb
   · exact h.apart x (List.mem_append_right _ hx) b hb
 · refine List.Pairwise.cons (fun y hy b hb=>?_) p2
   obtain⟨x,hx,hb⟩:=hb
   exact p3 x hx y hy b hb
section
variable {α β γ:Type} {f:α→β→List HObj} {w0:World} {V:View} {X:List HObj} {w:World} {al:List α} {bl:List β} {a:α} {b:β}
def kR (f:α→β→List HObj) : List α→List β→List HObj
 | a::al,b::bl=>f a b ++ kR f al bl
 | _,_=>[]
def iY (f:α→β→List HObj) (al:List α) (bl:List β) : HObj:=re (ka (al.length=bl.length)::kR f al bl)
theorem Hp.zNil (f:α→β→List HObj) (h:Hp w0 V X w) : Hp w0 V (iY f [] []::X) w:=Hp.closeP (h.put rfl)
theorem Hp.zOpen (h:Hp w0 V (iY f al bl::X) w) : al.length=bl.length∧Hp w0 V (kR f al bl ++ X) w:=by
 have h1:=h.openP
 exact⟨h1.objs _ List.mem_cons_self,h1.sub (.cons _ (List.Sublist.refl _))⟩
theorem Hp.zClose (hl:al.length=bl.length) (h:Hp w0 V (kR f al bl ++ X) w) : Hp w0 V (iY f al bl::X) w:=Hp.closeP (h.put hl)
theorem Hp.zPop (h:Hp w0 V (iY f (a::al) (b::bl)::X) w) : Hp w0 V (f a b ++ iY f al bl::X) w:=by
 obtain⟨hl,h1⟩:=h.zOpen
 have h2:Hp w0 V (kR f al bl ++ (f a b ++ X)) w:=h1.perm (by
  show (f a b ++ kR f al bl ++ X).Perm _
  rw [← List.append_assoc];exact List.Perm.append_right _ List.perm_append_comm)
 exact(Hp.zClose (by simpa using hl) h2).perm List.perm_middle.symm
theorem Hp.zCons (h:Hp w0 V (f a b ++ iY f al bl::X) w) : Hp w0 V (iY f (a::al) (b::bl)::X) w:=by
 obtain⟨hl,h2⟩:=(h.perm List.perm_middle).zOpen
 refine Hp.zClose (by simp [hl]) (h2.perm ?_)
 show (kR f al bl ++ (f a b ++ X)).Perm (f a b ++ kR f al bl ++ X)
 rw [← List.append_assoc];exact List.Perm.append_right _ List.perm_append_comm
theorem nJ (f:α→β→List HObj) (a:α) (b:β) : ∀(al:List α) (bl:List β),al.length=bl.length→kR f (al ++ [a]) (bl ++ [b])=kR f al bl ++ f a b
 | [],[],_=>by simp [kR]
 | [],_::_,hl=>by simp at hl
 | _::_,[],hl=>by simp at hl
 | x::al,y::bl,hl=>by
  show f x y ++ kR f (al ++ [a]) (bl ++ [b])=_
  rw [nJ f a b al bl (by simpa using hl)]
  show _=f x y ++ kR f al bl ++ f a b
  rw [List.append_assoc]
theorem Hp.zPush (h:Hp w0 V (f a b ++ iY f al bl::X) w) : Hp w0 V (iY f (al ++ [a]) (bl ++ [b])::X) w:=by
 obtain⟨hl,h2⟩:=(h.perm List.perm_middle).zOpen
 refine Hp.zClose (by simp [hl]) ?_
 rw [nJ f a b al bl hl,List.append_assoc];exact h2
theorem Hp.zAt : ∀ {al:List α} {bl:List β} {k:Nat} {X:List HObj},Hp w0 V (iY f al bl::X) w→al[k]? = some a→bl[k]? = some b→Hp w0 V (f a b ++ X) w
 | [],_,_,_,_,h1,_=>by simp at h1
 | _::_,[],_,_,_,_,h2=>by simp at h2
 | x::al,y::bl,0,X,h,h1,h2=>by
  obtain rfl:x=a:=by simpa using h1
  obtain rfl:y=b:=by simpa using h2
  exact h.zPop.sub ((List.Sublist.refl _).append (.cons _ (List.Sublist.refl _)))
 | x::al,y::bl,k + 1,X,h,h1,h2=>Hp.zAt (h.zPop.sub (List.sublist_append_right _ _)) (by simpa using h1) (by simpa using h2)
theorem Hp.zLen {H:List HObj} (h:Hp w0 V H w) {i:Nat} (hi:nth H i=some (iY f al bl)) : al.length=bl.length:=(h.perm (mT hi)).zOpen.1
theorem Hp.zAtI {H:List HObj} (h:Hp w0 V H w) {i:Nat} (hi:nth H i=some (iY f al bl)) {k:Nat} (h1:al[k]? = some a) (h2:bl[k]? = some b) : Hp w0 V (f a b ++ H.eraseIdx i) w:=(h.perm (mT hi)).zAt h1 h2
theorem Hp.zMap {g:α→γ→List HObj} {φ:β→γ} (hf : ∀(a:α) (b:β) (X:List HObj),Hp w0 V (f a b ++ X) w→Hp w0 V (g a (φ b) ++ X) w) :
 ∀ {al:List α} {bl:List β} {X:List HObj},Hp w0 V (iY f al bl::X) w→Hp w0 V (iY g al (bl.map φ)::X) w
 | [],[],X,h=>Hp.zNil g (h.sub (.cons _ (List.Sublist.refl _)))
 | [],_::_,X,h=>by have:=h.zOpen.1;simp at this
 | _::_,[],X,h=>by have:=h.zOpen.1;simp at this
 | a::al,b::bl,X,h=>by
  have h1:=(hf a b _ h.zPop).perm List.perm_middle
  exact Hp.zCons ((Hp.zMap hf h1).perm List.perm_middle.symm)
theorem rk {R:List HObj} (h : ∀ x∈R,oF x) : oF (re R):=fun V V' w ⟨h2,h3⟩=>⟨fun x hx=>h x hx V V' w (h2 x hx),h3⟩
theorem rL (hf : ∀ a b,∀ x∈f a b,oF x) (al:List α) (bl:List β) : oF (iY f al bl):=rk (fun x hx=>by
 rcases List.mem_cons.1 hx with rfl | hx
 · exact fun _ _ _ h=>h
 · have key : ∀ (al : List α) (bl : List β), x ∈ kR f al bl → oF x := by
    intro al
    induction al with
    | nil=>intro bl hx;cases bl <;> simp [kR] at hx
    | cons a al ih =>
     intro bl hx
     cases bl with
     | nil=>simp [kR] at hx
     | cons b bl =>
      rcases List.mem_append.1 hx with hx | hx
      · exact hf a b x hx
      · exact ih bl hx
   exact key al bl hx)
end
abbrev tyL:TreeTy:=⟨28,3,36⟩
def lW:DElem:=DElem.mk (DKey.mk 0 0 0) 77 0 (ByteArray.mk #[109,97,114,107])
def nT:DSpot:=DSpot.mk (DKey.mk 0 0 0) 99
def fP (h:DHdr) (n:DNode) : List HObj:=ka (Fits h n)::iK tyL h n
structure FitM (h:DHdr) (n:DNode) : Prop where
 fit:Fits h n
 c1:h.c1=n.elems.length + 3
 c2:h.c2=n.kids.length + 3
 c3:h.c3=n.seps.length + 3
 c4:h.c4=n.tids.length + 3
def fM (h:DHdr) (n:DNode) : List HObj:=[ka (FitM h n),row tyL.te eElem h.a1 (n.elems.length + 3) (n.elems ++ [lW,lW,lW]),row tyL.ti hO h.a2 (n.kids.length + 3) (n.kids ++ [99,99,99]),row tyL.ts eSpot h.a3 (n.seps.length + 3) (n.seps ++ [nT,nT,nT]),row tyL.ti hO h.a4 (n.tids.length + 3) (n.tids ++ [98,98,98])]
def tq (h:DHdr) : Prop:=h.n1≤h.c1∧h.n2≤h.c2∧h.n3≤h.c3∧h.n4≤h.c4
def fS (h:DHdr) (n:DNode) : List HObj:=ka (tq h)::iK tyL h n
theorem tS {w0:World} {V:View} {w:World} (h:DHdr) (n:DNode) (X:List HObj) (hp:Hp w0 V (fP h n ++ X) w) : Hp w0 V (fS h (id n) ++ X) w:=by
 have hf:Fits h n:=hp.objs _ List.mem_cons_self
 have h1:Hp w0 V (iK tyL h n ++ X) w:=hp.sub (.cons _ (List.Sublist.refl _))
 refine h1.put ⟨?_,?_,?_,?_⟩
 · rw [hf.n1];exact h1.objs_at (i:=0) rfl
 · rw [hf.n2];exact h1.objs_at (i:=1) rfl
 · rw [hf.n3];exact h1.objs_at (i:=2) rfl
 · rw [hf.n4];exact h1.objs_at (i:=3) rfl
def tP (n:DNode) : DNode:=⟨n.kind,n.elems ++ [lW,lW,lW],n.kids ++ [99,99,99],n.seps ++ [nT,nT,nT],n.tids ++ [98,98,98]⟩
theorem tQ {w0:World} {V:View} {w:World} (h:DHdr) (n:DNode) (X:List HObj) (hp:Hp w0 V (fM h n ++ X) w) : Hp w0 V (fS h (tP n) ++ X) w:=by
 have hf:FitM h n:=hp.objs _ List.mem_cons_self
 obtain⟨k,a1,n1,c1,a2,n2,c2,a3,n3,c3,a4,n4,c4⟩:=h
 obtain⟨⟨f0,f1,f2,f3,f4⟩,e1,e2,e3,e4⟩:=hf
 dsimp only at f0 f1 f2 f3 f4 e1 e2 e3 e4
 subst f0 f1 f2 f3 f4 e1 e2 e3 e4
 refine Hp.put ?_ ⟨Nat.le_add_right _ _,Nat.le_add_right _ _,Nat.le_add_right _ _,Nat.le_add_right _ _⟩
 exact hp.sub (.cons _ (List.Sublist.refl _))
theorem pH : ∀(hs:List DHdr) (ns:List DNode),jx tyL hs (ns.map Sum.inr)=kR fP hs ns
 | [],ns=>by cases ns <;> simp [jx,kR]
 | _::_,[]=>by simp [jx,kR]
 | h::hs,n::ns=>by
  show ka (Fits h n)::(iK tyL h n ++ jx tyL hs (ns.map Sum.inr))=_
  rw [pH hs ns];rfl
theorem Hp.treeZ {w0:World} {V:View} {X:List HObj} {w:World} {hs:List DHdr} {ns:List DNode} (h:Hp w0 V (il tyL hs (ns.map Sum.inr)::X) w) : Hp w0 V (iY fP hs ns::X) w:=by
 obtain⟨h1,h2⟩:=h.opened
 have hl:=h1.len
 rw [List.length_map] at hl
 rw [pH] at h2
 exact Hp.zClose hl h2
theorem sB (h:DHdr) (n:DNode) : ∀ x∈fM h n,oF x:=fun x hx=>by
 simp only [fM,List.mem_cons,List.not_mem_nil,or_false] at hx
 rcases hx with rfl | rfl | rfl | rfl | rfl
 · exact fun _ _ _ h=>h
 all_goals exact iG fun _ _ _ _ h=>h
theorem ia.pre {α:Type} {V:View} {E:Enc α} {A:Option Addr} {c:Nat} {l m:List α} (h:ia V E A c (l ++ m)) : ia V E A c l:=by
 obtain⟨h1,h2,xs,h3,h4⟩:=h
 rw [List.length_append] at h1
 refine⟨by omega,h2,xs.take (l.length * E.size),?_,fun j u hj=>?_⟩
 · have:=h3.takeN l.length
   rwa [List.take_left] at this
 · rw [List.getElem?_take] at hj
   split at hj
   · exact h4 j u hj
   · cases hj
theorem tD {w0:World} {V:View} {w:World} (h:DHdr) (n:DNode) (X:List HObj) (hp:Hp w0 V (fP h n ++ X) w) : j9.rep (vw w) h.cells n:=by
 have hf:Fits h n:=hp.objs _ List.mem_cons_self
 have h1:Hp w0 V (iK tyL h n ++ X) w:=hp.sub (.cons _ (List.Sublist.refl _))
 have s1:=h1.row_slOk (i:=0) rfl
 have s2:=h1.row_slOk (i:=1) rfl
 have s3:=h1.row_slOk (i:=2) rfl
 have s4:=h1.row_slOk (i:=3) rfl
 obtain⟨k,a1,n1,c1,a2,n2,c2,a3,n3,c3,a4,n4,c4⟩:=h
 obtain⟨f0,f1,f2,f3,f4⟩:=hf
 dsimp only at f0 f1 f2 f3 f4
 subst f0 f1 f2 f3 f4
 exact⟨a1,c1,a2,c2,a3,c3,a4,c4,rfl,s1,s2,s3,s4⟩
theorem tC {w0:World} {V:View} {w:World} (h:DHdr) (n:DNode) (X:List HObj) (hp:Hp w0 V (fM h n ++ X) w) : j9.rep (vw w) h.cells n:=by
 have hf:FitM h n:=hp.objs _ List.mem_cons_self
 have s1:=(hp.row_slOk (i:=1) rfl).pre
 have s2:=(hp.row_slOk (i:=2) rfl).pre
 have s3:=(hp.row_slOk (i:=3) rfl).pre
 have s4:=(hp.row_slOk (i:=4) rfl).pre
 obtain⟨k,a1,n1,c1,a2,n2,c2,a3,n3,c3,a4,n4,c4⟩:=h
 obtain⟨⟨f0,f1,f2,f3,f4⟩,e1,e2,e3,e4⟩:=hf
 dsimp only at f0 f1 f2 f3 f4 e1 e2 e3 e4
 subst f0 f1 f2 f3 f4 e1 e2 e3 e4
 exact⟨a1,_,a2,_,a3,_,a4,_,rfl,s1,s2,s3,s4⟩
theorem Hp.nodesSl {w0:World} {V:View} {H:List HObj} {w:World} {f:DHdr→DNode→List HObj} {tn:TypeId} {A:Option Addr} {c:Nat} {hs:List DHdr} {ns:List DNode} (hp:Hp w0 V H w)
 (hf : ∀(h:DHdr) (n:DNode) (X:List HObj),Hp w0 V (f h n ++ X) w→j9.rep (vw w) h.cells n) {i j:Nat} (hi:nth H i=some (row tn eHdr A c hs)) (hj:nth H j=some (iY f hs ns)) : ia (vw w) j9 A c ns:=by
 have hl:=hp.zLen hj
 obtain⟨k1,k2,xs,k3,k4⟩:=hp.row_slOk hi
 refine⟨by omega,k2,xs,⟨by rw [k3.1,hl];rfl,fun k n hn=>?_⟩,k4⟩
 have hkl:=(List.getElem?_eq_some_iff.1 hn).1
 have hh:hs[k]? = some (hs[k]'(by omega)):=List.getElem?_eq_getElem (by omega)
 have hc:=k3.2 k _ hh
 have:=hf _ _ _ (hp.zAtI hj hh hn)
 have hc' : (xs.drop (k * eHdr.size)).take eHdr.size=(hs[k]'(by omega)).cells:=hc
 show j9.rep (vw w) ((xs.drop (k * eHdr.size)).take eHdr.size) n
 rw [hc'];exact this
end Go.Proofs.YtfbpiogbhkgieaaGreat
