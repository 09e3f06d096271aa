/- Plain Lean: trees, what a check of them finds. Its conditions: none. -/
import Derived.Test.YtcmkdoahkncakaaPNodeH
namespace Go.Proofs.Ytcmkdoahkncakaa
set_option linter.unusedVariables false
set_option linter.unusedSimpArgs false
structure Span where
 lo:DSpot
 hi:DSpot
 hasLo:Bool
 hasHi:Bool
def inS (s:Span)(x:DSpot):Bool:=(!s.hasLo||decide (cmpS s.lo x≤0))&&(!s.hasHi||decide (cmpS x s.hi<0))
def fl (e:Int):Int:=if e=0 then 3 else e
theorem Iq (e:Int):fl e≠0:=by unfold fl;split <;> omega
def nd (ns:List DNode)(i:Int):DNode:=(ns[i.toNat]?).getD ⟨0,[],[],[],[]⟩
def E9 (n:DNode)(s:Span):Nat→Span
 | 0=>s
 | j+1=>match n.seps[j]? with
  | some x=>{ s with lo:=x,hasLo:=true }
  | none=>s
def Hw (n:DNode)(s:Span)(k:Nat):Span:=match n.seps[k]? with
 | some x=>{ s with hi:=x,hasHi:=true }
 | none=>s
def DM (n:DNode)(s:Span)(k:Nat):Span:=Hw n (E9 n s k) k
def D5 (n:DNode)(s:Span):Nat→Bool
 | 0=>false
 | j+1=>match n.seps[j]? with
  | some x=>!inS s x
  | none=>false
def unseen (l:List Bool):Nat:=l.count false
theorem HZ {l:List Bool}{i:Nat}(h:l[i]? = some false):unseen (l.set i true)+1=unseen l:=by
 induction l generalizing i with
 | nil=>simp at h
 | cons a l ih =>
  cases i with
  | zero =>
   obtain rfl:a=false:=by simpa using h
   simp [unseen]
  | succ i =>
   have:=ih (i:=i) (by simpa using h)
   unfold unseen at *
   rw [List.set_cons_succ,List.count_cons,List.count_cons]
   omega
theorem Lj {l l' : List Bool}(hl:l'.length=l.length)(h : ∀ j:Nat,l[j]? = some true→l'[j]? = some true):unseen l'≤unseen l:=by
 induction l generalizing l' with
 | nil =>
  obtain rfl:l' = []:=List.eq_nil_of_length_eq_zero (by simpa using hl)
  exact Nat.le_refl _
 | cons a l ih =>
  cases l' with
  | nil=>simp at hl
  | cons b l' =>
   have h0:=h 0
   have:=ih (l':=l') (by simpa using hl) (fun j hj=>by simpa using h (j+1) (by simpa using hj))
   unfold unseen at *
   rw [List.count_cons,List.count_cons]
   cases a <;> cases b <;> simp at h0 ⊢ <;> omega
theorem Ig (l:List Bool):unseen l≤l.length:=List.count_le_length
def EV (l:List Bool)(is:List Nat):List Bool:=is.foldl (fun l i=>l.set i true) l
theorem G5 (l:List Bool)(a b:List Nat):EV l (a++b)=EV (EV l a) b:=List.foldl_append
theorem Gv (l:List Bool)(is:List Nat)(j:Nat):(EV l is)[j]? = if j∈is∧j<l.length then some true else l[j]?:=by
 induction is generalizing l with
 | nil=>simp [EV]
 | cons i is ih =>
  show (EV (l.set i true) is)[j]? = _
  rw [ih,List.length_set,List.getElem?_set]
  by_cases h1:j∈is
  · by_cases h2:j<l.length
    · rw [if_pos (show j∈is∧j<l.length from ⟨h1,h2⟩),if_pos (show j∈i::is∧j<l.length from ⟨List.mem_cons_of_mem _ h1,h2⟩)]
    · rw [if_neg (show ¬ (j∈is∧j<l.length) from fun h=>h2 h.2),if_neg (show ¬ (j∈i::is∧j<l.length) from fun h=>h2 h.2)]
      by_cases e:i=j
      · subst e;rw [if_pos rfl,if_neg h2,List.getElem?_eq_none (by omega)]
      · rw [if_neg e]
  · rw [if_neg (show ¬ (j∈is∧j<l.length) from fun h=>h1 h.1)]
    by_cases e:i=j
    · subst e
      rw [if_pos rfl]
      by_cases h2:i<l.length
      · rw [if_pos h2,if_pos (show i∈i::is∧i<l.length from ⟨List.mem_cons_self,h2⟩)]
      · rw [if_neg h2,if_neg (show ¬ (i∈i::is∧i<l.length) from fun h=>h2 h.2),List.getElem?_eq_none (by omega)]
    · rw [if_neg e,if_neg]
      rintro⟨h,_⟩
      rcases List.mem_cons.1 h with h | h
      · exact e h.symm
      · exact h1 h
abbrev VS:=List Bool × Int × Int
def EB (n:DNode)(v:VS→Int→Int→Span→VS × Int)(s:Span)(d:Int)(st:VS)(p:Int × Nat):VS :=
 let r:=v (st.1,st.2.1,if D5 n s p.2 then fl st.2.2 else st.2.2) p.1 (d+1) (DM n s p.2)
 if r.2≠(n.tids[p.2]?).getD 0 then (r.1.1,r.1.2.1,fl r.1.2.2) else r.1
def vis (ns:List DNode):Nat→VS→Int→Int→Span→VS × Int
 | 0,st,_,_,_=>((st.1,st.2.1,3),0)
 | m+1,st,i,d,s =>
  if st.2.2≠0 then (st,0)
  else if i<0∨(ns.length:Int)≤i∨(st.1[i.toNat]?).getD true=true∨(nd ns i).kind=0 then ((st.1,st.2.1,3),0)
  else if (nd ns i).kind=1 then
   ((st.1.set i.toNat true,if st.2.1<0 then d else st.2.1,
    (nd ns i).elems.foldl (fun e x=>if inS s (Dy x) then e else fl e)
     (if (if st.2.1<0 then d else st.2.1)≠d then fl (if 0<d∧(nd ns i).elems.length+(nd ns i).kids.length<4 then 3 else 0) else if 0<d∧(nd ns i).elems.length+(nd ns i).kids.length<4 then 3 else 0)),DE (nd ns i))
  else
   ((nd ns i).kids.zipIdx.foldl (EB (nd ns i) (vis ns m) s d) (st.1.set i.toNat true,st.2.1,if 0<d∧(nd ns i).elems.length+(nd ns i).kids.length<4 then 3 else 0),DE (nd ns i))
theorem Lm (ns:List DNode)(m:Nat){st:VS}(i d:Int)(s:Span)(h:st.2.2≠0):(vis ns m st i d s).1.2.2≠0:=by
 cases m with
 | zero=>simp [vis]
 | succ m=>rw [vis,if_pos h];exact h
theorem Kx {n:DNode}{v:VS→Int→Int→Span→VS × Int}(hv : ∀(st:VS) i d s,st.2.2≠0→(v st i d s).1.2.2≠0){s:Span}{d:Int}{st:VS}{p:Int × Nat}(h:(EB n v s d st p).2.2=0) :
 st.2.2=0∧D5 n s p.2=false∧(v (st.1,st.2.1,0) p.1 (d+1) (DM n s p.2)).2=(n.tids[p.2]?).getD 0∧(v (st.1,st.2.1,0) p.1 (d+1) (DM n s p.2)).1.2.2=0 ∧
  EB n v s d st p=(v (st.1,st.2.1,0) p.1 (d+1) (DM n s p.2)).1:=by
 have hsx:(if D5 n s p.2=true then fl st.2.2 else st.2.2)=0:=by
  by_cases hz:(if D5 n s p.2=true then fl st.2.2 else st.2.2)=0
  · exact hz
  · exfalso
    have hst:=hv (st.1,st.2.1,if D5 n s p.2=true then fl st.2.2 else st.2.2) p.1 (d+1) (DM n s p.2) hz
    unfold EB at h
    dsimp only at h
    by_cases hr:(v (st.1,st.2.1,if D5 n s p.2=true then fl st.2.2 else st.2.2) p.1 (d+1) (DM n s p.2)).2≠(n.tids[p.2]?).getD 0
    · rw [if_pos hr] at h;exact Iq _ h
    · rw [if_neg hr] at h;exact hst h
 have hb:D5 n s p.2=false:=by
  cases hb:D5 n s p.2 with
  | false=>rfl
  | true=>rw [hb,if_pos rfl] at hsx;exact absurd hsx (Iq _)
 have hst0:st.2.2=0:=by rw [hb] at hsx;simpa using hsx
 unfold EB at h ⊢
 dsimp only at h ⊢
 rw [hsx] at h ⊢
 by_cases hr:(v (st.1,st.2.1,0) p.1 (d+1) (DM n s p.2)).2≠(n.tids[p.2]?).getD 0
 · rw [if_pos hr] at h;exact absurd h (Iq _)
 · rw [if_neg hr] at h ⊢
   exact⟨hst0,hb,by simpa using hr,h,rfl⟩
def Ey (a b:List Bool):Prop:=b.length=a.length∧∀ j:Nat,a[j]? = some true→b[j]? = some true
theorem Ey.refl (a:List Bool):Ey a a:=⟨rfl,fun _ h=>h⟩
theorem Ey.trans {a b c:List Bool}(h:Ey a b)(k:Ey b c):Ey a c:=⟨k.1.trans h.1,fun j hj=>k.2 j (h.2 j hj)⟩
theorem Ey.set (a:List Bool)(i:Nat):Ey a (a.set i true):=⟨List.length_set,fun j hj=>by
 rw [List.getElem?_set]
 split
 · split
   · rfl
   · rename_i e h;subst e;rw [List.getElem?_eq_none (by omega)] at hj;exact hj
 · exact hj⟩
theorem Ey.unseen {a b:List Bool}(h:Ey a b):unseen b≤unseen a:=Lj h.1 h.2
theorem Hv {n:DNode}{v:VS→Int→Int→Span→VS × Int}(hv : ∀ st i d s,Ey st.1 (v st i d s).1.1)(s:Span)(d:Int)(st:VS)(p:Int × Nat):Ey st.1 (EB n v s d st p).1:=by
 have:=hv (st.1,st.2.1,if D5 n s p.2 then fl st.2.2 else st.2.2) p.1 (d+1) (DM n s p.2)
 unfold EB
 dsimp only
 by_cases hr:(v (st.1,st.2.1,if D5 n s p.2=true then fl st.2.2 else st.2.2) p.1 (d+1) (DM n s p.2)).2≠(n.tids[p.2]?).getD 0
 · rw [if_pos hr];exact this
 · rw [if_neg hr];exact this
theorem Hs {n:DNode}{v:VS→Int→Int→Span→VS × Int}(hv : ∀ st i d s,Ey st.1 (v st i d s).1.1)(s:Span)(d:Int)(ps:List (Int × Nat)):∀ st:VS,Ey st.1 (ps.foldl (EB n v s d) st).1:=by
 induction ps with
 | nil=>exact fun st=>Ey.refl _
 | cons p ps ih=>exact fun st=>(Hv hv s d st p).trans (ih _)
theorem Hq (ns:List DNode):∀(m:Nat) (st:VS) (i d:Int) (s:Span),Ey st.1 (vis ns m st i d s).1.1:=by
 intro m
 induction m with
 | zero=>exact fun st i d s=>Ey.refl _
 | succ m ih =>
  intro st i d s
  rw [vis]
  split
  · exact Ey.refl _
  split
  · exact Ey.refl _
  split
  · exact Ey.set _ _
  · exact(Ey.set st.1 i.toNat).trans (Hs (n:=nd ns i) ih s d (nd ns i).kids.zipIdx (st.1.set i.toNat true,st.2.1,if 0<d∧(nd ns i).elems.length+(nd ns i).kids.length<4 then 3 else 0))
def okN (ns:List DNode):Nat→Int→Int→Span→Prop
 | 0,i,d,s=>(0≤i∧i<(ns.length:Int))∧(nd ns i).kind=1∧(0<d→4≤(nd ns i).elems.length+(nd ns i).kids.length)∧∀ x∈(nd ns i).elems,inS s (Dy x)=true
 | h+1,i,d,s=>(0≤i∧i<(ns.length:Int))∧((nd ns i).kind≠0∧(nd ns i).kind≠1)∧(0<d→4≤(nd ns i).elems.length+(nd ns i).kids.length) ∧
  ∀ p∈(nd ns i).kids.zipIdx,okN ns h p.1 (d+1) (DM (nd ns i) s p.2)∧D5 (nd ns i) s p.2=false∧DE (nd ns p.1)=((nd ns i).tids[p.2]?).getD 0
def ids (ns:List DNode):Nat→Int→List Nat
 | 0,i=>[i.toNat]
 | h+1,i=>i.toNat::(nd ns i).kids.flatMap (ids ns h)
theorem Hg (l:List DElem)(s:Span):∀ e:Int,l.foldl (fun e x=>if inS s (Dy x) then e else fl e) e=0↔e=0∧∀ x∈l,inS s (Dy x)=true:=by
 induction l with
 | nil=>intro e;simp
 | cons a l ih =>
  intro e
  rw [List.foldl_cons,ih]
  by_cases h:inS s (Dy a)=true
  · rw [if_pos h];simp [h]
  · rw [if_neg h];simp [h,Iq]
def Ff (ns:List DNode)(h:Nat)(ps:List (Int × Nat)):List Nat:=ps.flatMap fun p=>ids ns h p.1
theorem Gt (ns:List DNode)(h:Nat)(l:List Int):Ff ns h l.zipIdx=l.flatMap (ids ns h):=by
 unfold Ff
 have : ∀(l:List Int) (n:Nat),(l.zipIdx n).flatMap (fun p=>ids ns h p.1)=l.flatMap (ids ns h):=by
  intro l
  induction l with
  | nil=>intro n;rfl
  | cons a l ih=>intro n;rw [List.zipIdx_cons,List.flatMap_cons,List.flatMap_cons,ih]
 exact this l 0
theorem Ez {ns:List DNode}{i:Int}(h0:0≤i)(h1:i<(ns.length:Int)):nd ns i∈ns:=by
 unfold nd
 rw [gge (show i.toNat<ns.length by omega)]
 exact List.getElem_mem _
theorem G7 {ns:List DNode}{i:Nat}{n:DNode}(h:ns[i]? = some n):nd ns (i:Int)=n:=by
 unfold nd;rw [Int.toNat_natCast,h];rfl
theorem Ll (ns:List DNode)(hns : ∀ n∈ns,DS n=0):∀(m:Nat) (seen:List Bool) (deep i d:Int) (s:Span),seen.length=ns.length→0≤d→(vis ns m (seen,deep,0) i d s).1.2.2=0 →
 ∃ h:Nat,okN ns h i d s∧(ids ns h i).Nodup∧(∀ j∈ids ns h i,seen[j]? = some false)∧(deep<0∨deep=d+h)∧vis ns m (seen,deep,0) i d s=((EV seen (ids ns h i),d+h,0),DE (nd ns i)):=by
 intro m
 induction m with
 | zero=>intro seen deep i d s _ _ h;simp [vis] at h
 | succ m ih =>
  intro seen deep i d s hsl hd he
  rw [vis] at he ⊢
  dsimp only at he ⊢
  rw [if_neg (by simp)] at he ⊢
  split at he
  · exact absurd he (by simp)
  rename_i hin
  rw [if_neg hin]
  have h0:0≤i:=by omega
  have h1:i<(ns.length:Int):=by omega
  have h2:seen[i.toNat]? = some false:=by
   have hlt:i.toNat<seen.length:=by omega
   rw [gge hlt]
   cases hb:seen[i.toNat] with
   | false=>rfl
   | true=>exact absurd (.inr (.inr (.inl (by rw [gge hlt,hb];rfl)))) hin
  have h3:(nd ns i).kind≠0:=fun h=>hin (.inr (.inr (.inr h)))
  split at he
  · rename_i hk
    rw [if_pos hk]
    dsimp only at he
    rw [Hg] at he
    obtain⟨he1,he2⟩:=he
    have hdeep:(if deep<0 then d else deep)=d:=by
     by_cases hx:(if deep<0 then d else deep)=d
     · exact hx
     · rw [if_pos hx] at he1;exact absurd he1 (Iq _)
    rw [if_neg (by simpa using hdeep)] at he1
    have hfill : ¬ (0<d∧(nd ns i).elems.length+(nd ns i).kids.length<4):=fun h=>by rw [if_pos h] at he1;cases he1
    refine⟨0,⟨⟨h0,h1⟩,hk,fun hd=>by omega,he2⟩,by simp [ids],fun j hj=>?_,?_,?_⟩
    · obtain rfl:j=i.toNat:=by simpa [ids] using hj
      exact h2
    · by_cases hx:deep<0
      · exact .inl hx
      · rw [if_neg hx] at hdeep;exact .inr (by omega)
    · have e1 : List.foldl (fun e x => if inS s (Dy x) = true then e else fl e) (if (if deep < 0 then d else deep) ≠ d then fl (if 0 < d ∧ (nd ns i).elems.length + (nd ns i).kids.length < 4 then 3 else 0) else if 0 < d ∧ (nd ns i).elems.length + (nd ns i).kids.length < 4 then 3 else 0) (nd ns i).elems = 0 := by
       rw [Hg]
       refine⟨?_,he2⟩
       rw [if_neg (by simpa using hdeep),if_neg hfill]
      rw [e1,hdeep]
      simp [EV,ids]
  · rename_i hk
    rw [if_neg hk]
    dsimp only at he
    have key : ∀(ps:List (Int × Nat)) (st:VS),st.1.length=ns.length→(ps.foldl (EB (nd ns i) (vis ns m) s d) st).2.2=0→st.2.2=0∧(ps≠[]→∃ h:Nat,
     (∀ p∈ps,okN ns h p.1 (d+1) (DM (nd ns i) s p.2)∧D5 (nd ns i) s p.2=false∧DE (nd ns p.1)=((nd ns i).tids[p.2]?).getD 0)∧(Ff ns h ps).Nodup ∧
     (∀ j∈Ff ns h ps,st.1[j]? = some false)∧(st.2.1<0∨st.2.1=d+1+h)∧ps.foldl (EB (nd ns i) (vis ns m) s d) st=(EV st.1 (Ff ns h ps),d+1+h,0)):=by
     intro ps
     induction ps with
     | nil=>exact fun st _ h=>⟨h,fun h=>absurd rfl h⟩
     | cons p ps ihp =>
      intro st hl he
      rw [List.foldl_cons] at he
      obtain⟨k1,k2⟩:=ihp (EB (nd ns i) (vis ns m) s d st p) (by rw [(Hv (Hq ns m) s d st p).1];exact hl) he
      have hs0:=Kx (fun st i d s=>Lm ns m i d s) k1
      obtain⟨hst0,hb,hr,hre,hstep⟩:=hs0
      obtain⟨h,q1,q2,q3,q4,q5⟩:=ih st.1 st.2.1 p.1 (d+1) (DM (nd ns i) s p.2) hl (by omega) hre
      rw [q5] at hr hstep
      dsimp only at hr hstep
      refine⟨hst0,fun _=>?_⟩
      by_cases hps:ps=[]
      · subst hps
        refine⟨h,fun p' hp'=>?_,?_,?_,q4,?_⟩
        · obtain rfl:p' = p:=by simpa using hp'
          exact⟨q1,hb,hr⟩
        · simpa [Ff] using q2
        · simpa [Ff] using q3
        · rw [List.foldl_cons,List.foldl_nil,hstep];simp [Ff]
      · obtain⟨h',w1,w2,w3,w4,w5⟩:=k2 hps
        rw [hstep] at w3 w4 w5
        dsimp only at w3 w4 w5
        obtain rfl:h=h':=by omega
        have hdis : ∀ j∈Ff ns h ps,j ∉ ids ns h p.1∧st.1[j]? = some false:=fun j hj=>by
         have:=w3 j hj
         rw [Gv] at this
         split at this
         · cases this
         · rename_i hne
           refine⟨fun hm=>hne ⟨hm,?_⟩,this⟩
           exact(ggs.1 this).1
        refine⟨h,fun p' hp'=>?_,?_,fun j hj=>?_,q4,?_⟩
        · rcases List.mem_cons.1 hp' with rfl | hp'
          · exact⟨q1,hb,hr⟩
          · exact w1 p' hp'
        · show (ids ns h p.1++Ff ns h ps).Nodup
          exact List.nodup_append.2 ⟨q2,w2,fun a ha b hb' e=>(hdis b hb').1 (e▸ha)⟩
        · rcases List.mem_append.1 (show j∈ids ns h p.1++Ff ns h ps from hj) with hj | hj
          · exact q3 j hj
          · exact(hdis j hj).2
        · rw [List.foldl_cons,hstep,w5]
          show _=(EV st.1 (ids ns h p.1++Ff ns h ps),_,_)
          rw [G5]
    obtain⟨k1,k2⟩:=key _ _ (by rw [List.length_set];exact hsl) he
    dsimp only at k1 k2
    have hfill : ¬ (0<d∧(nd ns i).elems.length+(nd ns i).kids.length<4):=fun h=>by rw [if_pos h] at k1;cases k1
    by_cases hnil:(nd ns i).kids.zipIdx=[]
    · have hk0:(nd ns i).kids=[]:=by simpa using hnil
      rcases DV.1 (hns _ (Ez h0 h1)) with h | h | h
      · exact absurd h.1 h3
      · exact absurd h.1 hk
      · have:=h.2.two;rw [hk0] at this;simp at this
    · obtain⟨h,w1,w2,w3,w4,w5⟩:=k2 hnil
      rw [Gt] at w2 w3 w5
      have hset : ∀ j∈(nd ns i).kids.flatMap (ids ns h),j≠i.toNat∧seen[j]? = some false:=fun j hj=>by
       have:=w3 j hj
       rw [List.getElem?_set] at this
       split at this
       · split at this
         · cases this
         · cases this
       · rename_i hne;exact⟨fun e=>hne e.symm,this⟩
      refine⟨h+1,⟨⟨h0,h1⟩,⟨h3,hk⟩,fun hd=>by omega,w1⟩,?_,fun j hj=>?_,?_,?_⟩
      · rw [ids,List.nodup_cons]
        exact⟨fun hm=>(hset _ hm).1 rfl,w2⟩
      · rw [ids] at hj
        rcases List.mem_cons.1 hj with rfl | hj
        · exact h2
        · exact(hset j hj).2
      · rcases w4 with w4 | w4
        · exact .inl w4
        · exact .inr (by push_cast;omega)
      · rw [w5,ids]
        show _=((EV (seen.set i.toNat true) _,_,_),_)
        congr 3
        push_cast;omega
theorem LW {n:DNode}{v:VS→Int→Int→Span→VS × Int}{s:Span}{d:Int}{seen seen' : List Bool}{deep deep' g:Int}{p:Int × Nat}(hb:D5 n s p.2=false)
 (hv:v (seen,deep,0) p.1 (d+1) (DM n s p.2)=((seen',deep',0),g)) (hg:g=(n.tids[p.2]?).getD 0):EB n v s d (seen,deep,0) p=(seen',deep',0):=by
 have e:(if D5 n s p.2=true then fl 0 else 0)=(0:Int):=by rw [hb];rfl
 unfold EB
 dsimp only
 rw [e,hv,if_neg (by simpa using hg)]
theorem Jd (ns:List DNode)(hns : ∀ n∈ns,DS n=0):∀(h m:Nat) (seen:List Bool) (deep i d:Int) (s:Span),okN ns h i d s→(ids ns h i).Nodup→(∀ j∈ids ns h i,seen[j]? = some false) →
 (deep<0∨deep=d+h)→0≤d→h<m→vis ns m (seen,deep,0) i d s=((EV seen (ids ns h i),d+h,0),DE (nd ns i)):=by
 intro h
 induction h with
 | zero =>
  intro m seen deep i d s ⟨⟨h0,h1⟩,hk,hf,hi⟩ hnd hse hdeep hd hm
  obtain⟨m,rfl⟩ : ∃ q,m=q+1:=⟨m-1,by omega⟩
  have hsi:seen[i.toNat]? = some false:=hse _ (by simp [ids])
  rw [vis]
  dsimp only
  rw [if_neg (by simp),if_neg (by rw [hsi,hk];simp;omega),if_pos hk]
  have hdd:(if deep<0 then d else deep)=d:=by split <;> omega
  have e1:List.foldl (fun e x=>if inS s (Dy x)=true then e else fl e) (if (if deep<0 then d else deep)≠d then fl (if 0<d∧(nd ns i).elems.length+(nd ns i).kids.length<4 then 3 else 0) else if 0<d∧(nd ns i).elems.length+(nd ns i).kids.length<4 then 3 else 0) (nd ns i).elems=0:=by
   rw [Hg]
   exact⟨by rw [if_neg (by simpa using hdd),if_neg (by omega)],hi⟩
  rw [e1,hdd]
  simp [EV,ids]
 | succ h ih =>
  intro m seen deep i d s ⟨⟨h0,h1⟩,⟨hk0,hk1⟩,hf,hi⟩ hnd hse hdeep hd hm
  obtain⟨m,rfl⟩ : ∃ q,m=q+1:=⟨m-1,by omega⟩
  rw [ids] at hnd hse ⊢
  rw [List.nodup_cons] at hnd
  have hsi:seen[i.toNat]? = some false:=hse _ List.mem_cons_self
  rw [vis]
  dsimp only
  rw [if_neg (by simp),if_neg (by rw [hsi];simp;omega),if_neg hk1,if_neg (by omega)]
  have key : ∀(ps:List (Int × Nat)) (seen:List Bool) (deep:Int),(∀ p∈ps,okN ns h p.1 (d+1) (DM (nd ns i) s p.2)∧D5 (nd ns i) s p.2=false∧DE (nd ns p.1)=((nd ns i).tids[p.2]?).getD 0) →
   (Ff ns h ps).Nodup→(∀ j∈Ff ns h ps,seen[j]? = some false)→(deep<0∨deep=d+1+h) →
   ps.foldl (EB (nd ns i) (vis ns m) s d) (seen,deep,0)=(EV seen (Ff ns h ps),if ps=[] then deep else d+1+h,0):=by
   intro ps
   induction ps with
   | nil=>intro seen deep _ _ _ _;rfl
   | cons p ps ihp =>
    intro seen deep hp hn hs hdp
    obtain⟨p1,p2,p3⟩:=hp p List.mem_cons_self
    have hfl:Ff ns h (p::ps)=ids ns h p.1++Ff ns h ps:=rfl
    rw [hfl] at hn hs ⊢
    rw [List.nodup_append] at hn
    obtain⟨n1,n2,n3⟩:=hn
    have e1:=ih m seen deep p.1 (d+1) (DM (nd ns i) s p.2) p1 n1 (fun j hj=>hs j (List.mem_append_left _ hj)) hdp (by omega) (by omega)
    rw [List.foldl_cons,LW p2 e1 p3,ihp _ _ (fun p' hp'=>hp p' (List.mem_cons_of_mem _ hp')) n2 (fun j hj=>?_) (.inr rfl),G5,if_neg (List.cons_ne_nil _ _)]
    · split <;> rfl
    · rw [Gv,if_neg]
      · exact hs j (List.mem_append_right _ hj)
      · exact fun hx=>n3 _ hx.1 _ hj rfl
  have hne:(nd ns i).kids.zipIdx≠[]:=fun hnil=>by
   have hk0' : (nd ns i).kids=[]:=by simpa using hnil
   rcases DV.1 (hns _ (Ez h0 h1)) with h | h | h
   · exact hk0 h.1
   · exact hk1 h.1
   · have:=h.2.two;rw [hk0'] at this;simp at this
  rw [key _ _ _ hi (by rw [Gt];exact hnd.2) (fun j hj=>?_) (by push_cast at hdeep;omega),if_neg hne,Gt]
  · show ((EV _ _,_,_),_)=((EV (seen.set i.toNat true) _,_,_),_)
    congr 3
    push_cast;omega
  · rw [Gt] at hj
    rw [List.getElem?_set,if_neg (fun e=>hnd.1 (by rw [e];exact hj))]
    exact hse j (List.mem_cons_of_mem _ hj)
theorem Hd : ∀(l:List Nat) (seen:List Bool),l.Nodup→(∀ j∈l,seen[j]? = some false)→unseen (EV seen l)+l.length=unseen seen
 | [],seen,_,_=>rfl
 | i::l,seen,hn,hs=>by
  rw [List.nodup_cons] at hn
  have h1:=HZ (hs i List.mem_cons_self)
  have:=Hd l (seen.set i true) hn.2 fun j hj=>by
   rw [List.getElem?_set,if_neg (fun e=>hn.1 (by rw [e];exact hj))]
   exact hs j (List.mem_cons_of_mem _ hj)
  show unseen (EV (seen.set i true) l)+(l.length+1)=_
  omega
theorem Iy (ns:List DNode):∀(h:Nat) (i d:Int) (s:Span),okN ns h i d s→∀ j∈ids ns h i,j<ns.length:=by
 intro h
 induction h with
 | zero =>
  intro i d s hok j hj
  obtain rfl:j=i.toNat:=by simpa [ids] using hj
  have:=hok.1
  omega
 | succ h ih =>
  intro i d s hok j hj
  rw [ids] at hj
  rcases List.mem_cons.1 hj with rfl | hj
  · have:=hok.1;omega
  · obtain⟨k,hk,hj⟩:=List.mem_flatMap.1 hj
    obtain⟨q,hq⟩:=List.mem_iff_getElem?.1 hk
    exact ih k _ _ (hok.2.2.2 (k,q) (by rw [List.mem_zipIdx_iff_getElem?];exact hq)).1 j hj
theorem GN {ns:List DNode}{h:Nat}{i d:Int}{s:Span}(hok:okN ns h i d s)(hn:(ids ns h i).Nodup):(ids ns h i).length≤ns.length:=by
 have h1:=Hd (ids ns h i) (List.replicate ns.length false) hn fun j hj=>by
  rw [List.getElem?_replicate,if_pos (Iy ns h i d s hok j hj)]
 have h2:unseen (List.replicate ns.length false)=ns.length:=by unfold unseen;simp
 omega
theorem EQ {ns:List DNode}(hns : ∀ n∈ns,DS n=0){i:Int}(h0:0≤i∧i<(ns.length:Int))(hk:(nd ns i).kind≠0∧(nd ns i).kind≠1):(nd ns i).kind=2∧Inner (nd ns i):=by
 rcases DV.1 (hns _ (Ez h0.1 h0.2)) with h | h | h
 · exact absurd h.1 hk.1
 · exact absurd h.1 hk.2
 · exact h
theorem FA {ns:List DNode}(hns : ∀ n∈ns,DS n=0){i:Int}(h0:0≤i∧i<(ns.length:Int))(hk:(nd ns i).kind=1):Leaf (nd ns i):=by
 rcases DV.1 (hns _ (Ez h0.1 h0.2)) with h | h | h
 · rw [hk] at h;exact absurd h.1 (by decide)
 · exact h.2
 · rw [hk] at h;exact absurd h.1 (by decide)
theorem GM {ns:List DNode}(hns : ∀ n∈ns,DS n=0):∀(h:Nat) (i d:Int) (s:Span),okN ns h i d s→h<(ids ns h i).length:=by
 intro h
 induction h with
 | zero=>intro i d s _;simp [ids]
 | succ h ih =>
  intro i d s hok
  have hin:=(EQ hns hok.1 hok.2.1).2
  obtain⟨k,hk⟩ : ∃ k,(nd ns i).kids[0]? = some k:=⟨_,gge (by have:=hin.two;omega)⟩
  have h1:=ih k _ _ (hok.2.2.2 (k,0) (by rw [List.mem_zipIdx_iff_getElem?];exact hk)).1
  rw [ids,List.length_cons,List.length_flatMap]
  have h2:(ids ns h k).length≤((nd ns i).kids.map fun a=>(ids ns h a).length).sum:=by
   have : ∀ l:List Int,k∈l→(ids ns h k).length≤(l.map fun a=>(ids ns h a).length).sum:=by
    intro l
    induction l with
    | nil=>intro h;cases h
    | cons a l ih =>
     intro hm
     rw [List.map_cons,List.sum_cons]
     rcases List.mem_cons.1 hm with rfl | hm
     · omega
     · have:=ih hm;omega
   exact this _ (List.mem_of_getElem? hk)
  omega
def Dx (ns:List DNode):Nat→Int→List DElem
 | 0,i=>(nd ns i).elems
 | h+1,i=>(nd ns i).kids.flatMap (Dx ns h)
theorem IU {ns:List DNode}(hns : ∀ n∈ns,DS n=0):∀(h:Nat) (i d:Int) (s:Span),okN ns h i d s→(Dx ns h i).length≤8*(ids ns h i).length:=by
 intro h
 induction h with
 | zero =>
  intro i d s hok
  have:=(FA hns hok.1 hok.2.1).len
  simp [Dx,ids];omega
 | succ h ih =>
  intro i d s hok
  rw [Dx,ids,List.length_cons,List.length_flatMap,List.length_flatMap]
  have : ∀ l:List Int,(∀ k∈l,(Dx ns h k).length≤8*(ids ns h k).length)→(l.map fun a=>(Dx ns h a).length).sum≤8*(l.map fun a=>(ids ns h a).length).sum:=by
   intro l
   induction l with
   | nil=>intro _;simp
   | cons a l ihl =>
    intro hm
    have h1:=ihl fun k hk=>hm k (List.mem_cons_of_mem _ hk)
    have h2:=hm a List.mem_cons_self
    rw [List.map_cons,List.map_cons,List.sum_cons,List.sum_cons]
    omega
  have:=this (nd ns i).kids fun k hk=>by
   obtain⟨q,hq⟩:=List.mem_iff_getElem?.1 hk
   exact ih k _ _ (hok.2.2.2 (k,q) (by rw [List.mem_zipIdx_iff_getElem?];exact hq)).1
  omega
def topS:Span:=⟨⟨⟨0,0,0⟩,0⟩,⟨⟨0,0,0⟩,0⟩,false,false⟩
structure Good (t:DTree) (h:Nat):Prop where
 len:t.nodes.length≤400
 chk : ∀ n∈t.nodes,DS n=0
 ok:okN t.nodes h t.root 0 topS
 nodup:(ids t.nodes h t.root).Nodup
 all : ∀ i:Nat,i<t.nodes.length→(nd t.nodes i).kind≠0→i∈ids t.nodes h t.root
def FQ (F:Nat)(t:DTree):VS × Int:=vis t.nodes F (List.replicate t.nodes.length false,-1,0) t.root 0 topS
def F8 (F:Nat)(t:DTree):Int :=
 if 400<t.nodes.length then 2 else match t.nodes.findSome? fun n=>if DS n≠0 then some (DS n) else none with
  | some e=>e
  | none=>t.nodes.zipIdx.foldl (fun e p=>if p.1.kind≠0∧((FQ F t).1.1[p.2]?).getD true=false then fl e else e) (FQ F t).1.2.2
theorem LB {α:Type}(q:α→Prop)[DecidablePred q](l:List α):∀ e:Int,l.foldl (fun e x=>if q x then fl e else e) e=0↔e=0∧∀ x∈l,¬ q x:=by
 induction l with
 | nil=>intro e;simp
 | cons a l ih =>
  intro e
  rw [List.foldl_cons,ih]
  by_cases h:q a
  · rw [if_pos h];simp [h,Iq]
  · rw [if_neg h];simp [h]
theorem Il {F:Nat}[Big F]{t:DTree}:F8 F t=0↔∃ h,Good t h:=by
 unfold F8
 by_cases hl:400<t.nodes.length
 · rw [if_pos hl]
   exact⟨fun h=>(by cases h),fun ⟨h,hg⟩=>(by have:=hg.len;omega)⟩
 rw [if_neg hl]
 cases hf:t.nodes.findSome? fun n=>if DS n≠0 then some (DS n) else none with
 | some e =>
  obtain⟨n,hn,he⟩:=List.exists_of_findSome?_eq_some hf
  split at he
  · rename_i hne
    obtain rfl:=Option.some.inj he
    exact⟨fun h=>absurd h hne,fun ⟨h,hg⟩=>absurd (hg.chk n hn) hne⟩
  · cases he
 | none =>
  rw [List.findSome?_eq_none_iff] at hf
  have hns : ∀ n∈t.nodes,DS n=0:=fun n hn=>by
   have:=hf n hn
   split at this
   · cases this
   · rename_i h;simpa using h
  dsimp only
  rw [LB (fun p:DNode × Nat=>p.1.kind≠0∧((FQ F t).1.1[p.2]?).getD true=false)]
  constructor
  · rintro⟨h1,h2⟩
    obtain⟨h,q1,q2,q3,q4,q5⟩:=Ll t.nodes hns F (List.replicate t.nodes.length false) (-1) t.root 0 topS (by simp) (Int.le_refl _) h1
    refine⟨h,by omega,hns,q1,q2,fun i hi hk=>?_⟩
    have h3:=h2 (t.nodes[i],i) (by rw [List.mem_zipIdx_iff_getElem?];exact gge hi)
    have hnd:nd t.nodes (i:Int)=t.nodes[i]:=G7 (gge hi)
    rw [hnd] at hk
    unfold FQ at h3
    rw [q5] at h3
    dsimp only at h3
    rw [Gv] at h3
    by_cases hm:i∈ids t.nodes h t.root
    · exact hm
    · rw [if_neg (fun hx=>hm hx.1),List.getElem?_replicate,if_pos hi] at h3
      exact absurd ⟨hk,rfl⟩ h3
  · rintro⟨h,hg⟩
    have hr:=Iy t.nodes h t.root 0 topS hg.ok
    have hF:h<F:=by
     have h1:=GM hg.chk h t.root 0 topS hg.ok
     have h2:=GN hg.ok hg.nodup
     have h3:=(inferInstance:Big F).le
     omega
    have e:=Jd t.nodes hg.chk h F (List.replicate t.nodes.length false) (-1) t.root 0 topS hg.ok hg.nodup (fun j hj=>by rw [List.getElem?_replicate,if_pos (hr j hj)]) (.inl (by decide)) (Int.le_refl _) hF
    unfold FQ
    rw [e]
    refine⟨rfl,fun p hp=>?_⟩
    rw [List.mem_zipIdx_iff_getElem?] at hp
    rintro⟨hk,hb⟩
    have hlt:=(ggs.1 hp).1
    have:=hg.all p.2 hlt (by rw [G7 hp];exact hk)
    rw [Gv,if_pos ⟨this,by simpa using hlt⟩] at hb
    cases hb
theorem DX {s:Span}{x:DSpot}:inS s x=true↔(s.hasLo=true→cmpS s.lo x≤0)∧(s.hasHi=true→cmpS x s.hi<0):=by
 unfold inS
 cases s.hasLo <;> cases s.hasHi <;> simp
theorem GI {a b c:DSpot}(h:cmpS a b≤0)(k:cmpS b c<0):cmpS a c<0:=by
 by_cases h0:cmpS a b<0
 · exact DC.lt_trans h0 k
 · obtain rfl:a=b:=(DC.zero _ _).1 (by omega)
   exact k
theorem EE {a b c:DSpot}(h:cmpS a b<0)(k:cmpS b c≤0):cmpS a c<0:=by
 by_cases h0:cmpS b c<0
 · exact DC.lt_trans h h0
 · obtain rfl:b=c:=(DC.zero _ _).1 (by omega)
   exact h
theorem J6 {a b c:DSpot}(h:cmpS a b≤0)(k:cmpS b c≤0):cmpS a c≤0:=DC.trans _ _ _ h k
theorem Jp {a b c:DSpot}(h:cmpS a b≤0)(k:cmpS b c≤0):cmpS a c≤0:=by
 by_cases h0:cmpS a b<0
 · have:=EE h0 k;omega
 · obtain rfl:a=b:=(DC.zero _ _).1 (by omega)
   exact k
theorem Jx {n:DNode}{s:Span}{k:Nat}{x y:DSpot}(hx:n.seps[k]? = some x)(h:inS (DM n s (k+1)) y=true):cmpS x y≤0:=by
 have h1:=(DX.1 h).1
 have e:E9 n s (k+1) = { s with lo:=x,hasLo:=true }:=by
  show (match n.seps[k]? with | some x=>_ | none=>s)=_
  rw [hx]
 have e2:(DM n s (k+1)).lo=x∧(DM n s (k+1)).hasLo=true:=by
  unfold DM Hw
  split
  · rw [e];exact⟨rfl,rfl⟩
  · rw [e];exact⟨rfl,rfl⟩
 rw [e2.1] at h1
 exact h1 e2.2
theorem HQ {n:DNode}{s:Span}{k:Nat}{x y:DSpot}(hx:n.seps[k]? = some x)(h:inS (DM n s k) y=true):cmpS y x<0:=by
 have h1:=(DX.1 h).2
 have e2:(DM n s k).hi=x∧(DM n s k).hasHi=true:=by
  unfold DM Hw
  rw [hx];exact⟨rfl,rfl⟩
 rw [e2.1] at h1
 exact h1 e2.2
theorem K5 {n:DNode}{s:Span}{k:Nat}{y:DSpot}(hk:k≤n.seps.length)(hb : ∀ j,j≤n.seps.length→D5 n s j=false)(h:inS (DM n s k) y=true):inS s y=true:=by
 have hsep : ∀ j x,n.seps[j]? = some x→inS s x=true:=fun j x hx=>by
  have hjl:=(ggs.1 hx).1
  have:=hb (j+1) (by omega)
  have e:D5 n s (j+1) = !inS s x:=by
   show (match n.seps[j]? with | some x=>_ | none=>false)=_
   rw [hx]
  rw [e] at this
  simpa using this
 rw [DX]
 constructor
 · intro hl
   cases k with
   | zero =>
    have h1:=(DX.1 h).1
    have e2:(DM n s 0).lo=s.lo∧(DM n s 0).hasLo=s.hasLo:=by
     unfold DM Hw;split <;> exact ⟨rfl,rfl⟩
    rw [e2.1,e2.2] at h1
    exact h1 hl
   | succ j =>
    have hx:n.seps[j]? = some n.seps[j]:=gge (by omega)
    exact J6 ((DX.1 (hsep _ _ hx)).1 hl) (Jx hx h)
 · intro hh
   by_cases hk' : k<n.seps.length
   · have hx:n.seps[k]? = some n.seps[k]:=gge hk'
     exact DC.lt_trans (HQ hx h) ((DX.1 (hsep _ _ hx)).2 hh)
   · have h1:=(DX.1 h).2
     have hx:n.seps[k]? = none:=List.getElem?_eq_none (by omega)
     have e2:(DM n s k).hi=s.hi∧(DM n s k).hasHi=s.hasHi:=by
      have hl1:(E9 n s k).hi=s.hi∧(E9 n s k).hasHi=s.hasHi:=by
       unfold E9;split
       · exact⟨rfl,rfl⟩
       · split <;> exact ⟨rfl,rfl⟩
      unfold DM Hw
      rw [hx]
      exact hl1
     rw [e2.1,e2.2] at h1
     exact h1 hh
theorem Fl {α β:Type}{R:β→β→Prop}{f:α→List β}:∀(l:List α),(∀ a∈l,(f a).Pairwise R)→(∀(i j:Nat) (a b:α),i<j→l[i]? = some a→l[j]? = some b→∀ x∈f a,∀ y∈f b,R x y)→(l.flatMap f).Pairwise R
 | [],_,_=>List.Pairwise.nil
 | a::l,h1,h2=>by
  rw [List.flatMap_cons,List.pairwise_append]
  refine⟨h1 a List.mem_cons_self,Fl l (fun b hb=>h1 b (List.mem_cons_of_mem _ hb)) (fun i j a' b hij ha hb=>h2 (i+1) (j+1) a' b (by omega) (by simpa using ha) (by simpa using hb)),fun x hx y hy=>?_⟩
  obtain⟨b,hb,hy⟩:=List.mem_flatMap.1 hy
  obtain⟨q,hq⟩:=List.mem_iff_getElem?.1 hb
  exact h2 0 (q+1) a b (by omega) rfl (by simpa using hq) x hx y hy
theorem FZ {l:List Int}{q:Nat}{k:Int}(h:l[q]? = some k):(k,q)∈l.zipIdx:=by rw [List.mem_zipIdx_iff_getElem?];exact h
theorem Er {ns:List DNode}(hns : ∀ n∈ns,DS n=0):∀(h:Nat) (i d:Int) (s:Span),okN ns h i d s→(Dx ns h i).Pairwise SpO∧∀ e∈Dx ns h i,inS s (Dy e)=true∧DG e=0:=by
 intro h
 induction h with
 | zero =>
  intro i d s hok
  have hl:=FA hns hok.1 hok.2.1
  exact⟨hl.ord,fun e he=>⟨hok.2.2.2 e he,hl.ok e he⟩⟩
 | succ h ih =>
  intro i d s hok
  have hI:=(EQ hns hok.1 hok.2.1).2
  have hkids : ∀ q k,(nd ns i).kids[q]? = some k→_:=fun q k hk=>ih k _ _ (hok.2.2.2 (k,q) (FZ hk)).1
  have hbad : ∀ j,j≤(nd ns i).seps.length→D5 (nd ns i) s j=false:=fun j hj=>by
   have hlen:=hI.seps
   have hk:(nd ns i).kids[j]? = some (nd ns i).kids[j]:=gge (by omega)
   exact(hok.2.2.2 (_,j) (FZ hk)).2.1
  rw [Dx]
  constructor
  · refine Fl _ (fun k hk=>?_) (fun q r a b hqr ha hb x hx y hy=>?_)
    · obtain⟨q,hq⟩:=List.mem_iff_getElem?.1 hk
      exact(hkids q k hq).1
    · have hlen:=hI.seps
      have hrl:=(ggs.1 hb).1
      have h1:=((hkids q a ha).2 x hx).1
      have h2:=((hkids r b hb).2 y hy).1
      obtain⟨r,rfl⟩ : ∃ p,r=p+1:=⟨r-1,by omega⟩
      have hxq:(nd ns i).seps[q]? = some (nd ns i).seps[q]:=gge (by omega)
      have hxr:(nd ns i).seps[r]? = some (nd ns i).seps[r]:=gge (by omega)
      have h3:=HQ hxq h1
      have h4:=Jx hxr h2
      show cmpS (Dy x) (Dy y)<0
      rcases Nat.lt_or_ge q r with hlt | hge
      · have:=Eg hI.ord hlt hxq hxr
        exact EE (DC.lt_trans h3 this) h4
      · obtain rfl:q=r:=by omega
        exact EE h3 h4
  · intro e he
    obtain⟨k,hk,he⟩:=List.mem_flatMap.1 he
    obtain⟨q,hq⟩:=List.mem_iff_getElem?.1 hk
    have h1:=(hkids q k hq).2 e he
    have hql:=(ggs.1 hq).1
    have hlen:=hI.seps
    exact⟨K5 (by omega) hbad h1.1,h1.2⟩
theorem LX {α:Type}{f:α→Nat}{c:Nat}:∀(l:List α),(∀ a∈l,c≤f a)→c*l.length≤(l.map f).sum
 | [],_=>by simp
 | a::l,h=>by
  have:=LX l fun b hb=>h b (List.mem_cons_of_mem _ hb)
  have:=h a List.mem_cons_self
  rw [List.map_cons,List.sum_cons,List.length_cons,Nat.mul_succ]
  omega
theorem J7 {ns:List DNode}(hns : ∀ n∈ns,DS n=0):∀(h:Nat) (i d:Int) (s:Span),okN ns h i d s→0<d→4 ^ (h+1)≤(Dx ns h i).length:=by
 intro h
 induction h with
 | zero =>
  intro i d s hok hd
  have hl:=FA hns hok.1 hok.2.1
  have:=hok.2.2.1 hd
  rw [hl.kids] at this
  simpa [Dx] using this
 | succ h ih =>
  intro i d s hok hd
  have hI:=(EQ hns hok.1 hok.2.1).2
  have h4:=hok.2.2.1 hd
  rw [hI.elems] at h4
  rw [Dx,List.length_flatMap]
  have:=LX (c:=4 ^ (h+1)) (f:=fun k=>(Dx ns h k).length) (nd ns i).kids fun k hk=>by
   obtain⟨q,hq⟩:=List.mem_iff_getElem?.1 hk
   have:=hok.1
   exact ih k _ _ (hok.2.2.2 (k,q) (FZ hq)).1 (by omega)
  refine Nat.le_trans ?_ this
  rw [Nat.pow_succ 4 (h+1)]
  exact Nat.mul_le_mul_left _ (by simpa using h4)
end Go.Proofs.Ytcmkdoahkncakaa
