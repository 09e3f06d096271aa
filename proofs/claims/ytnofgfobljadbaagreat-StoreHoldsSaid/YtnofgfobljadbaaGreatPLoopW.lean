/- Plain Lean: bytes as lists, loops that count. Its conditions: none. -/
import Derived.Test.YtnofgfobljadbaaGreatOpsW
open List renaming getElem?_eq_getElem→a_, findSome?_cons→f_, mem_zipIdx_iff_getElem?→g_
open UInt8 renaming ofNat→d_
namespace Go.Proofs.YtnofgfobljadbaaGreat
set_option linter.unusedSimpArgs false
set_option linter.unusedVariables false
section
def ofL (l:List UInt8):ByteArray:=⟨l.toArray⟩
theorem Gy (s:ByteArray):∃l,s=ofL l:=⟨s.data.toList,rfl⟩
@[simp] theorem Dy (l:List UInt8):(ofL l).size=l.length:=rfl
theorem Hy {a b:List UInt8}:ofL a=ofL b↔a=b:=by
 constructor
 . intro h;have:=congrArg (λs:ByteArray=>s.data.toList) h;simpa[ofL] using this
 . rintro rfl;rfl
theorem zS (l:List UInt8)(i:Int):qP (ofL l) i=if 0<=i then l[i.toNat]? else none:=by
 unfold qP;split
 . show (if h:i.toNat<l.toArray.size then some l.toArray[i.toNat] else none)=_;by_cases hi:i.toNat<l.length
   . rw[dif_pos (by simpa using hi),a_ hi];rfl
   . rw[dif_neg (by simpa using hi),List.getElem?_eq_none o_]
 . rfl
theorem GT (a b:List UInt8):ofL a++ofL b=ofL (a++b):=by
 have:(ofL a++ofL b).data=(ofL (a++b)).data:=by rw[ByteArray.data_append];simp[ofL]
 exact ByteArray.ext this
theorem xn {a b:List UInt8}(h:a.length+b.length<=9223372036854775807):m5 (ofL a) (ofL b)=some (ofL (a++b)):=by unfold m5;rw[if_pos (by simpa using h),GT]
theorem F2 (l:List UInt8)(lo hi:Nat):(ofL l).extract lo hi=ofL ((l.take hi).drop lo):=by apply ByteArray.ext;rw[ByteArray.data_extract];simp[ofL,List.extract,List.drop_take]
theorem wZ {l:List UInt8}{lo hi:Int}(h0:0<=lo)(h1:lo<=hi)(h2:hi<=l.length):km (ofL l) lo hi=some (ofL ((l.take hi.toNat).drop lo.toNat)):=by unfold km;rw[if_pos ⟨h0,h1,by simpa using h2⟩,F2]
theorem Kz (a b:List UInt8):seq (ofL a) (ofL b)=(a==b):=by rw[Bool.eq_iff_iff,tF,Hy];simp
theorem Gq (l:List Int):lW l=ofL (l.map λn=>d_ n.toNat):=by
 have key:∀(l:List Int) (s:ByteArray),l.foldl (λs n=>s.push (d_ n.toNat)) s=ofL (s.data.toList++l.map λn=>d_ n.toNat):=by
  intro l
  induction l with
  |nil=>intro s;simp[ofL]
  |cons n l ih=>intro s;rw[List.foldl_cons,ih];congr 1;simp
 simpa[lW] using key l ByteArray.empty
theorem yW (l:List UInt8):lW (l.map λb=>(b.toNat:Int))=ofL l:=by
 rw[Gq,List.map_map];congr 1;have:(λb:UInt8=>d_ ((b.toNat:Int)).toNat)=id:=by funext b;simp
 rw[show (λn:Int=>d_ n.toNat)∘(λb:UInt8=>(b.toNat:Int))=id from this,List.map_id]
theorem vT {α β:Type}(a:α)(f:α->Option β):(some a).bind f=f a:=by
 have h:∀o:Option α,o=some a->o.bind f=f a:=λo ho=>by rw[ho];rfl
 exact h _ rfl
theorem wj {α:Type}(a b:α):(bif true then a else b)=a:=by
 have h:∀c:Bool,c=true->(bif c then a else b)=a:=λc hc=>by rw[hc];rfl
 exact h _ rfl
theorem vZ {α:Type}(a b:α):(bif false then a else b)=b:=by
 have h:∀c:Bool,c=false->(bif c then a else b)=b:=λc hc=>by rw[hc];rfl
 exact h _ rfl
theorem AZ {σ ρ:Type}{f:σ->Option (σ⊕ρ)}(g:Nat->σ)(W:Nat->Option ρ)(n:Nat){res:ρ}(hs:∀k,k<n->f (g k)=some (match W k with|some r=>.inr r|none=>.inl (g (k+1))))(he:f (g n)=some (.inr res)) :
 ∀(m k N:Nat),k+m=n->m<N->iter f N (g k)=some (((List.range' k m).findSome? W).getD res)
 |0,k,N,hk,hN=>by obtain⟨N,rfl⟩:∃M,N=M+1:=⟨N-1,by omega⟩;rw[iter,show k=n by omega,he];rfl
 |m+1,k,N,hk,hN=>by
  obtain⟨N,rfl⟩:∃M,N=M+1:=⟨N-1,by omega⟩;rw[iter,hs k o_,List.range'_succ,f_]
  cases hW:W k with
  |some r=>rfl
  |none=>exact AZ g W n hs he m (k+1) N o_ o_
theorem wt {n:Int}(h0:-9223372036854775808<=n)(h1:n<=9223372036854775807):IntKind.i64.wrap n=n:=by rw[IntKind.wrap_i64];omega
theorem La (n:Int):IntKind.u8.wrap n=n % 256:=by simp[IntKind.wrap,IntKind.bits,IntKind.signed]
theorem Fo (n:Int):IntKind.u16.wrap n=n % 65536:=by simp[IntKind.wrap,IntKind.bits,IntKind.signed]
end
section
def stp (x:BitVec 16):BitVec 16:=if x.msb then (x <<< 1) ^^^ 0x1021#16 else x <<< 1
def Ir (b:Bool):BitVec 16:=if b then 0x1021#16 else 0#16
theorem Ff (x:BitVec 16):stp x=(x <<< 1) ^^^ Ir x.msb:=by unfold stp Ir;split <;> simp_all
theorem JB (a b:Bool):Ir (a ^^ b)=Ir a ^^^ Ir b:=by cases a <;> cases b <;> rfl
theorem Ln (a b c d:BitVec 16):(a ^^^ b) ^^^ (c ^^^ d)=(a ^^^ c) ^^^ (b ^^^ d):=by rw[BitVec.xor_assoc,<-BitVec.xor_assoc b c d,BitVec.xor_comm b c,BitVec.xor_assoc c b d,<-BitVec.xor_assoc]
theorem KD (x y:BitVec 16):stp (x ^^^ y)=stp x ^^^ stp y:=by rw[Ff,Ff,Ff,BitVec.msb_xor,JB,BitVec.shiftLeft_xor_distrib,Ln]
def fd (x:BitVec 16)(b:Bool):BitVec 16:=stp (x ^^^ (if b then 0x8000#16 else 0#16))
def DR (x:BitVec 16)(l:List Bool):BitVec 16:=l.foldl fd x
def Ji (b:Bool):BitVec 16:=if b then 0x8000#16 else 0#16
theorem FJ (x:BitVec 16)(l m:List Bool):DR x (l++m)=DR (DR x l) m:=List.foldl_append
def Fn:List Bool->BitVec 16
 |[]=>0#16
 |b::l=>Ji b ^^^ (Fn l >>> 1)
def Fg:Nat->BitVec 16->BitVec 16
 |0,x=>x
 |n+1,x=>Fg n (stp x)
theorem Gj:∀(l:List Bool) (i:Nat),i+l.length<16->(Fn l).getLsbD i=false
 |[],i,_=>by simp[Fn]
 |b::l,i,h=>by
  have h1:=Gj l (i+1) (by simp at h;omega)
  have h2:(Ji b).getLsbD i=false:=by
   cases b
   . simp[Ji]
   . have:i<15:=(by simp at h;omega);simp only[Ji,if_true];rw[show (0x8000#16:BitVec 16)=BitVec.twoPow 16 15 from rfl,BitVec.getLsbD_twoPow];simp;omega
  simp[Fn,h1,h2,Nat.add_comm 1 i]
theorem JR {y:BitVec 16}(h0:y.getLsbD 0=false):stp (y >>> 1)=y:=by
 have hm:(y >>> 1).msb=false:=by rw[BitVec.msb_eq_getLsbD_last];simp
 rw[Ff,hm];simp only[Ir,Bool.false_eq_true,if_false,BitVec.xor_zero];apply BitVec.eq_of_getLsbD_eq;intro i hi;rcases Nat.eq_zero_or_pos i with rfl|hp
 . simp;simpa using h0
 . rw[BitVec.getLsbD_shiftLeft,BitVec.getLsbD_ushiftRight];simp[hi,show ¬ i<1 by omega,show 1+(i-1)=i by omega]
theorem D3:∀(l:List Bool) (x:BitVec 16),l.length<=16->DR x l=Fg l.length (x ^^^ Fn l)
 |[],x,_=>by simp[DR,Fg,Fn]
 |b::l,x,h=>by
  have hl:l.length<=15:=by simpa using h
  show DR (fd x b) l=Fg l.length (stp (x ^^^ (Ji b ^^^ (Fn l >>> 1))));rw[D3 l _ o_,<-BitVec.xor_assoc,KD,JR (Gj l 0 o_)];rfl
def Fx (b:UInt8):List Bool:=(List.range 8).map λj=>b.toNat.testBit (7-j)
def Dc (l:List UInt8):List Bool:=l.flatMap Fx
def crc (l:List UInt8):BitVec 16:=DR 0#16 (Dc l)
theorem BM (b:UInt8):(Fx b).length=8:=by simp[Fx]
theorem EE (a b:List UInt8):Dc (a++b)=Dc a++Dc b:=List.flatMap_append
theorem Hh (b:UInt8):Fn (Fx b)=BitVec.ofNat 16 b.toNat <<< 8:=by
 have:∀n,n<256->Fn ((List.range 8).map λj=>n.testBit (7-j))=BitVec.ofNat 16 n <<< 8:=by decide +kernel
 exact this _ b.toNat_lt
def IX (x:BitVec 16)(b:UInt8):BitVec 16:=Fg 8 (x ^^^ (BitVec.ofNat 16 b.toNat <<< 8))
theorem HS (x:BitVec 16)(b:UInt8):DR x (Fx b)=IX x b:=by rw[D3 _ _ (by rw[BM];decide),BM,Hh];rfl
theorem Gw (a b:List UInt8):crc (a++b)=DR (crc a) (Dc b):=by rw[crc,EE,FJ];rfl
end
section
theorem obs {α:Type _}{β:Type _}(a:α)(f:α->Option β):(some a).bind f=f a:=rfl
theorem gge {α:Type _}{l:List α}{i:Nat}(h:i<l.length):l[i]? = some l[i]:=a_ h
theorem ggs {α:Type _}{l:List α}{i:Nat}{a:α}:l[i]? = some a↔∃h:i<l.length,l[i]=a:=List.getElem?_eq_some_iff
theorem w64 {n:Int}(h0:-9223372036854775808<=n)(h1:n<=9223372036854775807):IntKind.i64.wrap n=n:=by rw[IntKind.wrap_i64];omega
theorem vX {α:Type}(l:List α)(k:Nat):idx l (k:Int)=l[k]?:=by unfold idx;rw[if_neg o_,Int.toNat_natCast]
theorem wo {α:Type}{b:Nat}{l m:List α}(h:(l.length+m.length)*b<=140737488355328)(hm:l.length+m.length<=9223372036854775807):grow b l m=some (l++m):=by unfold grow;rw[if_pos ⟨h,by unfold maxLen;omega⟩]
theorem Cr {α:Type}{l:List α}{lo hi:Int}(h0:0<=lo)(h1:lo<=hi)(h2:hi<=l.length):js l lo hi=some ((l.take hi.toNat).drop lo.toNat):=by unfold js;rw[if_pos ⟨h0,h1,h2⟩]
theorem xg {α:Type}{l:List α}{k:Nat}(h:k<=l.length):js l 0 (k:Int)=some (l.take k):=by rw[Cr o_ o_ o_];simp
theorem wF {α:Type}{l:List α}{k:Nat}(h:k<=l.length):js l (k:Int) (l.length:Int)=some (l.drop k):=by rw[Cr o_ o_ o_];simp
theorem wJ {c:Int}(h:c≠0):(c !=0)=true:=by simpa using h
theorem wu {c:Int}(h:c=0):(c !=0)=false:=by simp[h]
section loops
variable {σ ρ α τ:Type} {F:Nat}
theorem Hu {f:σ->Option (σ⊕ρ)}(g:Nat->σ){r:ρ}:∀(n:Nat) (N:Nat),(∀k,k<n->f (g k)=some (.inl (g (k+1))))->f (g n)=some (.inr r)->n<N->iter f N (g 0)=some r
 |0,N,_,he,hN=>by obtain⟨N,rfl⟩:∃M,N=M+1:=⟨N-1,by omega⟩;rw[iter,he]
 |n+1,N,hs,he,hN=>by obtain⟨N,rfl⟩:∃M,N=M+1:=⟨N-1,by omega⟩;rw[iter,hs 0 o_];exact Hu (λk=>g (k+1)) n N (λk hk=>hs (k+1) o_) he o_
theorem zw [h:Big F]{n:Nat}(hn:n<=9223372036854775807):n<F:=by have:=h.le;omega
theorem wB [Big F]{f:σ->Option (σ⊕ρ)}(g:Nat->σ)(n:Nat){r:ρ}{s:σ}(h0:s=g 0)(hn:n<=9223372036854775807)(hs:∀k,k<n->f (g k)=some (.inl (g (k+1))))(he:f (g n)=some (.inr r)):iter f F s=some r:=by rw[h0];exact Hu g n F hs he (zw hn)
theorem Jm [Big F]{f:σ->Option (σ⊕ρ)}(g:Nat->σ){r:ρ}(n:Nat)(hs:∀k,k<n->f (g k)=some (.inl (g (k+1))))(he:f (g n)=some (.inr r))(hn:n<=9223372036854775807){s:σ}(h0:s=g 0):iter f F s=some r :=
 wB g n h0 hn hs he
theorem yu [Big F]{f:σ->Option (σ⊕ρ)}{k:ρ->Option τ}{q:τ}(g:Nat->σ){r:ρ}(n:Nat){s:σ}(hn:n<=9223372036854775807)(h0:s=g 0)(hk:k r=some q)(hs:∀k,k<n->f (g k)=some (.inl (g (k+1))))(he:f (g n)=some (.inr r)) :
 (iter f F s).bind k=some q:=by
 rw[wB g n h0 hn hs he];exact hk
theorem xW [Big F]{f:Int->Option (Int⊕ρ)}(l:List α)(w:Nat->α->Option ρ)(res:ρ)(hn:l.length<=9223372036854775807){s:Int}(h0:s=0)
 (hs:∀(k:Nat) (e:α),l[k]? = some e->(∀j x,j<k->l[j]? = some x->w j x=none)->f (k:Int)=some (match w k e with|some r=>.inr r|none=>.inl ((k:Int)+1)))
 (he:f (l.length:Int)=some (.inr res)):iter f F s=some (((l.zipIdx).findSome? λp=>w p.2 p.1).getD res):=by
 subst h0
 have key:∀(m k N:Nat),k+m=l.length->m<N->(∀j x,j<k->l[j]? = some x->w j x=none)->iter f N (k:Int)=some ((((l.drop k).zipIdx k).findSome? λp=>w p.2 p.1).getD res):=by
  intro m
  induction m with
  |zero=>intro k N hk hN _;obtain⟨N,rfl⟩:∃M,N=M+1:=⟨N-1,by omega⟩;rw[iter,show k=l.length by omega,he,List.drop_length];rfl
  |succ m ih =>
   intro k N hk hN hb;obtain⟨N,rfl⟩:∃M,N=M+1:=⟨N-1,by omega⟩;have hkl:k<l.length:=o_;rw[iter,hs k l[k] (a_ hkl) hb,List.drop_eq_getElem_cons hkl,List.zipIdx_cons,f_];dsimp only
   cases hw:w k l[k] with
   |some r=>rfl
   |none =>
    refine ih (k+1) N o_ o_ λj x hj hx=>?_;rcases Nat.lt_or_ge j k with h1|h1
    . exact hb j x h1 hx
    . obtain rfl:j=k:=o_;rw[a_ hkl] at hx;obtain rfl:=Option.some.inj hx;exact hw
 have:=key l.length 0 F o_ (zw hn) (λj x hj=>by omega);rw[List.drop_zero] at this;exact this
theorem Bu [Big F]{f:Int->Option (Int⊕ρ)}(l:List α)(w:α->Option ρ)(res:ρ)(hn:l.length<=9223372036854775807){s:Int}(h0:s=0)
 (hs:∀(k:Nat) (e:α),l[k]? = some e->f (k:Int)=some (match w e with|some r=>.inr r|none=>.inl ((k:Int)+1)))
 (he:f (l.length:Int)=some (.inr res)):iter f F s=some ((l.findSome? w).getD res):=by
 rw[xW l (λ_ e=>w e) res hn h0 (λk e hk _=>hs k e hk) he];congr 2
 have:∀(l:List α) (n:Nat),(l.zipIdx n).findSome? (λp=>w p.1)=l.findSome? w:=by
  intro l
  induction l with
  |nil=>intro n;rfl
  |cons a l ih=>intro n;rw[List.zipIdx_cons,f_,f_,ih]
 exact this l 0
theorem yp {l:List α}{w:Nat->α->Option ρ}:(l.zipIdx.findSome? λp=>w p.2 p.1)=none↔∀k e,l[k]? = some e->w k e=none:=by
 rw[List.findSome?_eq_none_iff];constructor
 . intro h k e hk;exact h (e,k) (by rw[g_];exact hk)
 . rintro h ⟨e,k⟩ hp;rw[g_] at hp;exact h k e hp
theorem zI {l:List α}{w:Nat->α->Option ρ}{r:ρ}(h:(l.zipIdx.findSome? λp=>w p.2 p.1)=some r):∃k e,l[k]? = some e/\w k e=some r:=by obtain⟨⟨e,k⟩,hp,hr⟩:=List.exists_of_findSome?_eq_some h;rw[g_] at hp;exact⟨k,e,hp,hr⟩
theorem xE [Big F]{f:τ×Int->Option ((τ×Int)⊕ρ)}(l:List α)(st:τ->α->τ)(a0:τ){r:ρ}(hn:l.length<=9223372036854775807){s:τ×Int}(h0:s=(a0,0))
 (hs:∀(k:Nat) (e:α),l[k]? = some e->f ((l.take k).foldl st a0,(k:Int))=some (.inl (st ((l.take k).foldl st a0) e,(k:Int)+1)))
 (he:f (l.foldl st a0,(l.length:Int))=some (.inr r)):iter f F s=some r:=by
 refine wB (λk=>((l.take k).foldl st a0,(k:Int))) l.length (by rw[h0];rfl) hn (λk hk=>?_) (by rw[List.take_length];exact he);rw[hs k l[k] (a_ hk),List.take_add_one,a_ hk,Option.toList_some,List.foldl_append];simp
theorem Dw [Big F]{f:σ->Option (σ⊕ρ)}{K:ρ->Option τ}(R:Nat->σ->τ->Prop)
 (hR:∀m s q,R m s q->(∃r,f s=some (.inr r)/\K r=some q)\/∃m' s',m'<m/\f s=some (.inl s')/\R m' s' q) {m:Nat} {s:σ} {q:τ} (hm:m<=9223372036854775807) (h:R m s q):(iter f F s).bind K=some q:=by
 have key:∀(n N m:Nat) (s:σ),m<=n->n<N->R m s q->(iter f N s).bind K=some q:=by
  intro n
  induction n with
  |zero =>
   intro N m s hmn hN hs;obtain⟨N,rfl⟩:∃M,N=M+1:=⟨N-1,by omega⟩;rcases hR m s q hs with ⟨r,h1,h2⟩|⟨m',s',h1,h2,h3⟩
   . rw[iter,h1];exact h2
   . omega
  |succ n ih =>
   intro N m s hmn hN hs;obtain⟨N,rfl⟩:∃M,N=M+1:=⟨N-1,by omega⟩;rcases hR m s q hs with ⟨r,h1,h2⟩|⟨m',s',h1,h2,h3⟩
   . rw[iter,h1];exact h2
   . rw[iter,h2];exact ih N m' s' o_ o_ h3
 exact key m F m s (Nat.le_refl _) (zw hm) h
theorem Dl {β:Type}(g:α->β)(l:List α):∀a:List β,l.foldl (λa e=>a++[g e]) a=a++l.map g:=by
 induction l with
 |nil=>intro a;simp
 |cons x l ih=>intro a;rw[List.foldl_cons,ih];simp
def KG (p:Nat->Bool):Nat->Nat
 |0=>0
 |n+1=>if p (KG p n) then KG p n else if p n then n else n+1
end loops
end
end Go.Proofs.YtnofgfobljadbaaGreat
