/- Steps of lifted proofs that are found by themselves: what an operation without memory yields is computed out of the known slots, and checked. Its conditions: none. -/
import Derived.Test.YtnofgfobljadbaaGreatShAO
import Derived.Test.YtnofgfobljadbaaGreatZtO
namespace Go.Proofs.YtnofgfobljadbaaGreat
set_option linter.unusedVariables false
def ga (M:List (Nat×Value)):Operand->Option Value
 |.tmp t=>lk M t
 |.const v=>some v
 |.global g=>some (.pointer (some ⟨g,0,none⟩))
 |.func f=>some (.func (.func f) #[] #[])
def tkK {α β:Type}:Nat->List α->(List α->Option β)->Option β
 |0,_,k=>k []
 |n + 1,x::l,k=>tkK n l (λr=>k (x::r))
 |_ + 1,[],_=>none
def drK {α β:Type}:Nat->List α->(List α->Option β)->Option β
 |0,l,k=>k l
 |n + 1,_::l,k=>drK n l k
 |_ + 1,[],_=>none
def ovK {β:Type}:List Value->List Value->(List Value->Option β)->Option β
 |l,[],k=>k l
 |_::l,c::cs,k=>ovK l cs (λr=>k (c::r))
 |[],_::_,_=>none
def puK {β:Type}:Nat->List Value->List Value->(List Value->Option β)->Option β
 |0,l,cs,k=>ovK l cs k
 |n + 1,x::l,cs,k=>puK n l cs (λr=>k (x::r))
 |_ + 1,[],_,_=>none
def clK {β:Type} (v:Value) (k:List Value->Option β):Option β:=match v with
 |.agg ⟨l⟩=>k l
 |v=>k [v]
def apK {α β:Type}:List α->List α->(List α->Option β)->Option β
 |[],r,k=>k r
 |x::l,r,k=>apK l r λq=>k (x::q)
def gaK {β:Type} (M:List (Nat×Value)) (x:Operand) (k:Value->Option β):Option β:=match ga M x with
 |some v=>k v
 |none=>none
def vg {β:Type} (M:List (Nat×Value)):List Operand->(List Value->Option β)->Option β
 |[],k=>k []
 |x::l,k=>gaK M x λv=>vg M l λr=>k (v::r)
def buK {β:Type} (M:List (Nat×Value)) (fs:List (Nat×Nat×Bool)):List (Nat×Operand)->List Value->(List Value->Option β)->Option β
 |[],l,k=>k l
 |(f,x)::ps,l,k=>match nth fs f with
  |some (off,_,_)=>gaK M x λv=>clK v λcs=>puK off l cs λr=>buK M fs ps r k
  |none=>none
def pvi:BinOp->IntKind->Int->Int->Option Value
 |.add,k,a,b=>some (.int k (k.wrap (a + b)))
 |.sub,k,a,b=>some (.int k (k.wrap (a - b)))
 |.mul,k,a,b=>some (.int k (k.wrap (a * b)))
 |.and,k,a,b=>some (.int k (vx k a b))
 |.or,k,a,b=>some (.int k (bor k a b))
 |.xor,k,a,b=>some (.int k (ve k a b))
 |.eql,_,a,b=>some (.bool (a==b))
 |.neq,_,a,b=>some (.bool (a !=b))
 |.lss,_,a,b=>some (.bool (decide (a<b)))
 |.leq,_,a,b=>some (.bool (decide (a<=b)))
 |.gtr,_,a,b=>some (.bool (decide (b<a)))
 |.geq,_,a,b=>some (.bool (decide (b<=a)))
 |.shl,k,a,b=>match b with
  |.ofNat n=>some (.int k (shl k a n))
  |_=>none
 |.shr,k,a,b=>match b with
  |.ofNat n=>some (.int k (shr k a n))
  |_=>none
 |.quo,k,a,b=>match b with
  |.ofNat (_ + 1)=>some (.int k (k.wrap (a.tdiv b)))
  |_=>none
 |.rem,k,a,b=>match b with
  |.ofNat (_ + 1)=>some (.int k (a.tmod b))
  |_=>none
 |_,_,_,_=>none
def pv (M:List (Nat×Value)):Op->Option Value
 |.move x | .assign x | .nilCheck x=>ga M x
 |.pick c a b=>gaK M c λv=>match v with
  |.bool true=>ga M a
  |.bool false=>ga M b
  |_=>none
 |.extract t i=>gaK M t λv=>match v with
  |.tuple ⟨l⟩=>nth l i
  |_=>none
 |.unOp .not _ x=>gaK M x λv=>match v with
  |.bool b=>some (.bool (!b))
  |_=>none
 |.unOp .neg _ x=>gaK M x λv=>match v with
  |.int k a=>some (.int k (k.wrap (0 - a)))
  |_=>none
 |.binOp op _ x y _=>gaK M x λv=>gaK M y λu=>match v with
  |.int k a=>match u with
   |.int _ b=>pvi op k a b
   |_=>none
  |.bool a=>match u,op with
   |.bool b,.eql=>some (.bool (a==b))
   |.bool b,.neq=>some (.bool (!(a==b)))
   |_,_=>none
  |.string a=>match u,op with
   |.string b,.eql=>some (.bool (seq a b))
   |.string b,.neq=>some (.bool (!(seq a b)))
   |.string b,.lss=>some (.bool (slt a b))
   |.string b,.geq=>some (.bool (!(slt a b)))
   |_,_=>none
  |.pointer (some _)=>match u,op with
   |.pointer none,.eql=>some (.bool false)
   |.pointer none,.neq=>some (.bool true)
   |_,_=>none
  |.pointer none=>match u,op with
   |.pointer none,.eql=>some (.bool true)
   |.pointer none,.neq=>some (.bool false)
   |_,_=>none
  |.slice (some _) _ _=>match u,op with
   |.slice none _ _,.eql=>some (.bool false)
   |.slice none _ _,.neq=>some (.bool true)
   |_,_=>none
  |.slice none _ _=>match u,op with
   |.slice none _ _,.eql=>some (.bool true)
   |.slice none _ _,.neq=>some (.bool false)
   |_,_=>none
  |_=>none
 |.fieldAddr t x f=>gaK M x λv=>match v,(lkf ue t).bind (nth · f) with
  |.pointer (some ⟨b,0,s⟩),some (off,_,_)=>some (.pointer (some ⟨b,off,s⟩))
  |.pointer (some ⟨b,o,s⟩),some (off,_,_)=>some (.pointer (some ⟨b,o + off,s⟩))
  |_,_=>none
 |.field t x f=>gaK M x λv=>match v,(lkf ue t).bind (nth · f) with
  |.agg ⟨l⟩,some (off,n,true)=>drK off l λl=>tkK n l λl=>some (.agg l.toArray)
  |.agg ⟨l⟩,some (off,_,false)=>nth l off
  |_,_=>none
 |.index t x y=>gaK M x λv=>gaK M y λu=>match v,u with
  |.agg ⟨l⟩,.int _ (.ofNat i)=>match (lkf ue t).bind (nth · i) with
   |some (off,n,true)=>drK off l λl=>tkK n l λl=>some (.agg l.toArray)
   |some (off,_,false)=>nth l off
   |_=>none
  |_,_=>none
 |.indexAddr t x y=>gaK M x λv=>gaK M y λu=>match v,u,lkf vV t with
  |.pointer (some ⟨b,o,s⟩),.int _ (.ofNat i),some n=>some (.pointer (some ⟨b,o + i * n,s⟩))
  |.slice (some ⟨b,o,s⟩) _ _,.int _ (.ofNat i),some n=>some (.pointer (some ⟨b,o + i * n,s⟩))
  |_,_,_=>none
 |.build t ps=>match lkf vL t,lkf ue t with
  |some z,some fs=>buK M fs ps.toList z λl=>some (.agg l.toArray)
  |_,_=>none
 |.convert _ d x=>gaK M x λv=>match v,lkf vW d with
  |.int _ a,some k=>some (.int k (k.wrap a))
  |_,_=>none
 |.makeFunc fn f c=>vg M f.toList λa=>vg M c.toList λb=>some (.func fn a.toArray b.toArray)
 |.call ⟨.builtin .len,⟨x::_⟩,_⟩=>gaK M x λv=>match v with
  |.string s=>some (.int .i64 (s.size:Int))
  |.slice _ n _=>some (.int .i64 (n:Int))
  |_=>none
 |.call ⟨.builtin .cap,⟨x::_⟩,_⟩=>gaK M x λv=>match v with
  |.slice _ _ c=>some (.int .i64 (c:Int))
  |_=>none
 |.call ⟨.builtin .min,⟨x::y::_⟩,_⟩=>gaK M x λv=>gaK M y λu=>match v,u with
  |.int k a,.int _ b=>some (.int k (if b<a then b else a))
  |_,_=>none
 |.call ⟨.builtin .max,⟨x::y::_⟩,_⟩=>gaK M x λv=>gaK M y λu=>match v,u with
  |.int k a,.int _ b=>some (.int k (if a<b then b else a))
  |_,_=>none
 |_=>none
def pva (M:List (Nat×Value)):Op->Option Value
 |.fieldAddr t x f=>gaK M x λv=>match v,(lkf ue t).bind (nth · f) with
  |.pointer (some a),some (0,_,_)=>some (.pointer (some a))
  |.pointer (some a),some (off,_,_)=>some (.pointer (some (a.add off)))
  |_,_=>none
 |_=>none
def nwc (M:List (Nat×Value)):Op->Option (TypeId×List Value)
 |.box t x=>gaK M x λv=>clK v λl=>some (t,l)
 |.alloc t=>match lkf vL t with
  |some l=>some (t,l)
  |none=>none
 |_=>none
def bsK {β:Type} (M:List (Nat×Value)):List (Nat×Operand)->(List Value->Option β)->Option β
 |[],k=>k []
 |(_,x)::ps,k=>gaK M x λv=>clK v λcs=>bsK M ps λr=>apK cs r k
def nws (M:List (Nat×Value)):Op->Option (TypeId×Nat×List Value)
 |.buildSlice t n ps=>match lkf vX t with
  |some e=>bsK M ps.toList λl=>some (e,n,l)
  |none=>none
 |_=>none
def vH:Op->Bool
 |.call ⟨.builtin .len,_,_⟩=>false
 |_=>true
inductive BoxAt:List HObj->Nat->List Value->Prop
 |z {b:Nat} {t:TypeId} {cs:List Value} {H:List HObj}:BoxAt (box b t cs::H) b cs
 |s {b:Nat} {cs:List Value} {x:HObj} {H:List HObj}:BoxAt H b cs->BoxAt (x::H) b cs
theorem BoxAt.nth {H:List HObj} {b:Nat} {cs:List Value} (h:BoxAt H b cs):∃(i:Nat) (t:TypeId),H[i]? = some (box b t cs):=by
 induction h with
 |z=>exact⟨0,_,rfl⟩
 |s _ ih=>obtain⟨i,t,h⟩:=ih;exact⟨i + 1,t,by simpa using h⟩
theorem bof {H:List HObj} {b:Nat} {t:TypeId} {cs:List Value} (i:Nat) (h:nth H i=some (box b t cs)):BoxAt H b cs:=by
 induction H generalizing i with
 |nil=>cases h
 |cons x H ih=>cases i with
  |zero=>cases h;exact .z
  |succ i=>exact .s (ih i h)
theorem bx0 {b:Nat} {t:TypeId} {cs:List Value} {H:List HObj}:BoxAt (box b t cs::H) b cs:=.z
theorem bx1 {b:Nat} {t:TypeId} {cs:List Value} {H:List HObj} {x0:HObj}:BoxAt (x0::box b t cs::H) b cs:=.s bx0
theorem bx2 {b:Nat} {t:TypeId} {cs:List Value} {H:List HObj} {x0 x1:HObj}:BoxAt (x0::x1::box b t cs::H) b cs:=.s bx1
theorem bx3 {b:Nat} {t:TypeId} {cs:List Value} {H:List HObj} {x0 x1 x2:HObj}:BoxAt (x0::x1::x2::box b t cs::H) b cs:=.s bx2
theorem bx4 {b:Nat} {t:TypeId} {cs:List Value} {H:List HObj} {x0 x1 x2 x3:HObj}:BoxAt (x0::x1::x2::x3::box b t cs::H) b cs:=.s bx3
theorem bx5 {b:Nat} {t:TypeId} {cs:List Value} {H:List HObj} {x0 x1 x2 x3 x4:HObj}:BoxAt (x0::x1::x2::x3::x4::box b t cs::H) b cs:=.s bx4
theorem bx6 {b:Nat} {t:TypeId} {cs:List Value} {H:List HObj} {x0 x1 x2 x3 x4 x5:HObj}:BoxAt (x0::x1::x2::x3::x4::x5::box b t cs::H) b cs:=.s bx5
theorem bx7 {b:Nat} {t:TypeId} {cs:List Value} {H:List HObj} {x0 x1 x2 x3 x4 x5 x6:HObj}:BoxAt (x0::x1::x2::x3::x4::x5::x6::box b t cs::H) b cs:=.s bx6
theorem bx8 {b:Nat} {t:TypeId} {cs:List Value} {H:List HObj} {x0 x1 x2 x3 x4 x5 x6 x7:HObj}:BoxAt (x0::x1::x2::x3::x4::x5::x6::x7::box b t cs::H) b cs:=.s bx7
theorem bx9 {b:Nat} {t:TypeId} {cs:List Value} {H:List HObj} {x0 x1 x2 x3 x4 x5 x6 x7 x8:HObj}:BoxAt (x0::x1::x2::x3::x4::x5::x6::x7::x8::box b t cs::H) b cs:=.s bx8
theorem vy {b:Nat} {t:TypeId} {cs:List Value} {H:List HObj} {x0 x1 x2 x3 x4 x5 x6 x7 x8 x9:HObj}:BoxAt (x0::x1::x2::x3::x4::x5::x6::x7::x8::x9::box b t cs::H) b cs:=.s bx9
theorem vz {b:Nat} {t:TypeId} {cs:List Value} {H:List HObj} {x0 x1 x2 x3 x4 x5 x6 x7 x8 x9 x10:HObj}:BoxAt (x0::x1::x2::x3::x4::x5::x6::x7::x8::x9::x10::box b t cs::H) b cs:=.s vy
theorem vA {b:Nat} {t:TypeId} {cs:List Value} {H:List HObj} {x0 x1 x2 x3 x4 x5 x6 x7 x8 x9 x10 x11:HObj}:BoxAt (x0::x1::x2::x3::x4::x5::x6::x7::x8::x9::x10::x11::box b t cs::H) b cs:=.s vz
theorem vB {b:Nat} {t:TypeId} {cs:List Value} {H:List HObj} {x0 x1 x2 x3 x4 x5 x6 x7 x8 x9 x10 x11 x12:HObj}:BoxAt (x0::x1::x2::x3::x4::x5::x6::x7::x8::x9::x10::x11::x12::box b t cs::H) b cs:=.s vA
theorem vC {b:Nat} {t:TypeId} {cs:List Value} {H:List HObj} {x0 x1 x2 x3 x4 x5 x6 x7 x8 x9 x10 x11 x12 x13:HObj}:BoxAt (x0::x1::x2::x3::x4::x5::x6::x7::x8::x9::x10::x11::x12::x13::box b t cs::H) b cs:=.s vB
theorem vU {b:Nat} {t:TypeId} {cs:List Value} {H:List HObj} {x0 x1 x2 x3 x4 x5 x6 x7 x8 x9 x10 x11 x12 x13 x14:HObj}:BoxAt (x0::x1::x2::x3::x4::x5::x6::x7::x8::x9::x10::x11::x12::x13::x14::box b t cs::H) b cs:=.s vC
def kI (H:List HObj) (b:Nat) (t:TypeId) (cs:List Value) (F:List Value->List HObj):Prop:=∃i,nth H i=some (box b t cs)/\∀c,H.set i (box b t c)=F c
theorem bu0 {b:Nat} {t:TypeId} {cs:List Value} {H:List HObj}:kI (box b t cs::H) b t cs (λc=>box b t c::H):=⟨0,rfl,λ_=>rfl⟩
theorem bu1 {b:Nat} {t:TypeId} {cs:List Value} {H:List HObj} {x0:HObj}:kI (x0::box b t cs::H) b t cs (λc=>x0::box b t c::H):=⟨1,rfl,λ_=>rfl⟩
theorem bu2 {b:Nat} {t:TypeId} {cs:List Value} {H:List HObj} {x0 x1:HObj}:kI (x0::x1::box b t cs::H) b t cs (λc=>x0::x1::box b t c::H):=⟨2,rfl,λ_=>rfl⟩
theorem bu3 {b:Nat} {t:TypeId} {cs:List Value} {H:List HObj} {x0 x1 x2:HObj}:kI (x0::x1::x2::box b t cs::H) b t cs (λc=>x0::x1::x2::box b t c::H):=⟨3,rfl,λ_=>rfl⟩
theorem bu4 {b:Nat} {t:TypeId} {cs:List Value} {H:List HObj} {x0 x1 x2 x3:HObj}:kI (x0::x1::x2::x3::box b t cs::H) b t cs (λc=>x0::x1::x2::x3::box b t c::H):=⟨4,rfl,λ_=>rfl⟩
theorem bu5 {b:Nat} {t:TypeId} {cs:List Value} {H:List HObj} {x0 x1 x2 x3 x4:HObj}:kI (x0::x1::x2::x3::x4::box b t cs::H) b t cs (λc=>x0::x1::x2::x3::x4::box b t c::H):=⟨5,rfl,λ_=>rfl⟩
theorem bu6 {b:Nat} {t:TypeId} {cs:List Value} {H:List HObj} {x0 x1 x2 x3 x4 x5:HObj}:kI (x0::x1::x2::x3::x4::x5::box b t cs::H) b t cs (λc=>x0::x1::x2::x3::x4::x5::box b t c::H):=⟨6,rfl,λ_=>rfl⟩
theorem bu7 {b:Nat} {t:TypeId} {cs:List Value} {H:List HObj} {x0 x1 x2 x3 x4 x5 x6:HObj}:kI (x0::x1::x2::x3::x4::x5::x6::box b t cs::H) b t cs (λc=>x0::x1::x2::x3::x4::x5::x6::box b t c::H):=⟨7,rfl,λ_=>rfl⟩
theorem bu8 {b:Nat} {t:TypeId} {cs:List Value} {H:List HObj} {x0 x1 x2 x3 x4 x5 x6 x7:HObj}:kI (x0::x1::x2::x3::x4::x5::x6::x7::box b t cs::H) b t cs (λc=>x0::x1::x2::x3::x4::x5::x6::x7::box b t c::H):=⟨8,rfl,λ_=>rfl⟩
theorem bu9 {b:Nat} {t:TypeId} {cs:List Value} {H:List HObj} {x0 x1 x2 x3 x4 x5 x6 x7 x8:HObj}:kI (x0::x1::x2::x3::x4::x5::x6::x7::x8::box b t cs::H) b t cs (λc=>x0::x1::x2::x3::x4::x5::x6::x7::x8::box b t c::H):=⟨9,rfl,λ_=>rfl⟩
theorem vO {b:Nat} {t:TypeId} {cs:List Value} {H:List HObj} {x0 x1 x2 x3 x4 x5 x6 x7 x8 x9:HObj}:kI (x0::x1::x2::x3::x4::x5::x6::x7::x8::x9::box b t cs::H) b t cs (λc=>x0::x1::x2::x3::x4::x5::x6::x7::x8::x9::box b t c::H):=⟨10,rfl,λ_=>rfl⟩
theorem vP {b:Nat} {t:TypeId} {cs:List Value} {H:List HObj} {x0 x1 x2 x3 x4 x5 x6 x7 x8 x9 x10:HObj}:kI (x0::x1::x2::x3::x4::x5::x6::x7::x8::x9::x10::box b t cs::H) b t cs (λc=>x0::x1::x2::x3::x4::x5::x6::x7::x8::x9::x10::box b t c::H):=⟨11,rfl,λ_=>rfl⟩
theorem vQ {b:Nat} {t:TypeId} {cs:List Value} {H:List HObj} {x0 x1 x2 x3 x4 x5 x6 x7 x8 x9 x10 x11:HObj}:kI (x0::x1::x2::x3::x4::x5::x6::x7::x8::x9::x10::x11::box b t cs::H) b t cs (λc=>x0::x1::x2::x3::x4::x5::x6::x7::x8::x9::x10::x11::box b t c::H):=⟨12,rfl,λ_=>rfl⟩
theorem vR {b:Nat} {t:TypeId} {cs:List Value} {H:List HObj} {x0 x1 x2 x3 x4 x5 x6 x7 x8 x9 x10 x11 x12:HObj}:kI (x0::x1::x2::x3::x4::x5::x6::x7::x8::x9::x10::x11::x12::box b t cs::H) b t cs (λc=>x0::x1::x2::x3::x4::x5::x6::x7::x8::x9::x10::x11::x12::box b t c::H):=⟨13,rfl,λ_=>rfl⟩
theorem vS {b:Nat} {t:TypeId} {cs:List Value} {H:List HObj} {x0 x1 x2 x3 x4 x5 x6 x7 x8 x9 x10 x11 x12 x13:HObj}:kI (x0::x1::x2::x3::x4::x5::x6::x7::x8::x9::x10::x11::x12::x13::box b t cs::H) b t cs (λc=>x0::x1::x2::x3::x4::x5::x6::x7::x8::x9::x10::x11::x12::x13::box b t c::H):=⟨14,rfl,λ_=>rfl⟩
theorem vT {b:Nat} {t:TypeId} {cs:List Value} {H:List HObj} {x0 x1 x2 x3 x4 x5 x6 x7 x8 x9 x10 x11 x12 x13 x14:HObj}:kI (x0::x1::x2::x3::x4::x5::x6::x7::x8::x9::x10::x11::x12::x13::x14::box b t cs::H) b t cs (λc=>x0::x1::x2::x3::x4::x5::x6::x7::x8::x9::x10::x11::x12::x13::x14::box b t c::H):=⟨15,rfl,λ_=>rfl⟩
theorem buf {H:List HObj} {b:Nat} {t:TypeId} {cs:List Value} (i:Nat) (h:nth H i=some (box b t cs)):kI H b t cs (λc=>H.set i (box b t c)):=⟨i,h,λ_=>rfl⟩
theorem nI {H:List HObj} {b:Nat} {cs:List Value} (h:BoxAt H b cs:=by first|with_reducible (first|exact bx0|exact bx1|exact bx2|exact bx3|exact bx4|exact bx5|exact bx6|exact bx7|exact bx8|exact bx9|exact vy|exact vz|exact vA|exact vB|exact vC|exact vU)|(first|exact bof 0 rfl|exact bof 1 rfl|exact bof 2 rfl|exact bof 3 rfl|exact bof 4 rfl|exact bof 5 rfl|exact bof 6 rfl|exact bof 7 rfl|exact bof 8 rfl|exact bof 9 rfl|exact bof 10 rfl|exact bof 11 rfl|exact bof 12 rfl|exact bof 13 rfl|exact bof 14 rfl|exact bof 15 rfl)):BoxAt H b cs:=h
theorem qE {H:List HObj} {b:Nat} {t:TypeId} {cs:List Value} {F:List Value->List HObj} (h:kI H b t cs F:=by first|with_reducible (first|exact bu0|exact bu1|exact bu2|exact bu3|exact bu4|exact bu5|exact bu6|exact bu7|exact bu8|exact bu9|exact vO|exact vP|exact vQ|exact vR|exact vS|exact vT)|(first|exact buf 0 rfl|exact buf 1 rfl|exact buf 2 rfl|exact buf 3 rfl|exact buf 4 rfl|exact buf 5 rfl|exact buf 6 rfl|exact buf 7 rfl|exact buf 8 rfl|exact buf 9 rfl|exact buf 10 rfl|exact buf 11 rfl|exact buf 12 rfl|exact buf 13 rfl|exact buf 14 rfl|exact buf 15 rfl)):kI H b t cs F:=h
theorem lm {w0:World} {V V0:View} {H H0:List HObj} (h:∀w,Hp w0 V H w->Hp w0 V0 H0 w:=by first|assumption|(refine Hp.q ?_ ?_ <;> (repeat (first|exact View.le_refl _|assumption|refine View.le_trans ?_ (by assumption))))):∀w,Hp w0 V H w->Hp w0 V0 H0 w:=h
structure Wr (A:Prop):Prop where
 p:A
def Use (_:List Nat):Prop:=True
section
variable {rl:Option Nat} {P:Program} {N:Sz} {w0:World} {V V0:View} {H H0:List HObj} {M:List (Nat×Value)} {ops:Array Oper} {Q:Exit->Act->World->Prop} {rest:List Oper} {o:Oper} {fuel:Nat} {listed:Array Bool} {j0:Nat} {K:Act->World->Prop} {φ:Act->Prop}
theorem T.v {v:Value} (h:T N w0 V H (ic o.dst v M) (wpListIn (RF rl) 0 P ops Q rest)) (hg:gd ops M o.guard=some true:=by exact rfl) (hp:pv M o.op=some v:=by exact rfl)
 (hb:∀w,((okO N ops M o&&iB o.op),(execOp (evM M) o).run P w)=(true,.ok (.value v) w):=by intro _;kernel_rfl):T N w0 V H M (wpListIn (RF rl) 0 P ops Q (o::rest)):=T.pk v hb h
theorem T.vl {v:Value} (h:T N w0 V H (ic o.dst v M) (wpListIn (RF rl) 0 P ops Q rest)) (hl:vH o.op=true:=by exact rfl) (hg:gd ops M o.guard=some true:=by exact rfl) (hp:pv M o.op=some v:=by exact rfl)
 (hb:∀w,((okO N ops M o&&iB o.op),(execOp (evM M) o).run P w)=(true,.ok (.value v) w):=by intro _;kernel_rfl):T N w0 V H M (wpListIn (RF rl) 0 P ops Q (o::rest)):=T.pk v hb h
theorem T.va {v:Value} (h:T N w0 V H (ic o.dst v M) (wpListIn (RF rl) 0 P ops Q rest)) (hg:gd ops M o.guard=some true:=by exact rfl) (hp:pva M o.op=some v:=by exact rfl)
 (hb:∀w,((okO N ops M o&&iB o.op),(execOp (evM M) o).run P w)=(true,.ok (.value v) w):=by intro _;kernel_rfl):T N w0 V H M (wpListIn (RF rl) 0 P ops Q (o::rest)):=T.pk v hb h
theorem vF {b j:Nat} {t2:TypeId} {cs:List Value} {x:Operand} {v:Value} (ho:o.op=.load t2 x) (hx:evM M x=.pointer (some ⟨b,j,none⟩)) (hi:BoxAt H b cs) (hc:nth cs j=some v) (ht:∀w,(isAgg t2).run P w=.ok false w) :
 ∀w,Hp w0 V H w->(execOp (evM M) o).run P w=.ok (.value v) w:=λw hh=>by
 obtain⟨i,t,hi⟩:=hi.nth;rw[i9] at hc;exact ie ho hx (ht w) ((hh.cell_box hi j).trans hc)
theorem T.L1 {b j:Nat} {t2:TypeId} {cs:List Value} {x:Operand} {v:Value} (h:T N w0 V H (ic o.dst v M) (wpListIn (RF rl) 0 P ops Q rest)) (hg:gd ops M o.guard=some true:=by exact rfl) (ho:o.op=.load t2 x:=by exact rfl) (hx:ga M x=some (.pointer (some ⟨b,j,none⟩)):=by exact rfl)
 (hi:BoxAt H b cs:=by exact nI) (hn:lkf tK t2=none:=by exact rfl) (hc:nth cs j=some v:=by exact rfl)
 (hb:∀w,(okO N ops M o&&iB o.op,evM M x,(isAgg t2).run P w)=(true,.pointer (some ⟨b,j,none⟩),.ok false w):=by intro _;kernel_rfl):T N w0 V H M (wpListIn (RF rl) 0 P ops Q (o::rest)):=by
 have h1:=congrArg Prod.fst (hb w0);simp only[Bool.and_eq_true] at h1;exact T.gj (W1.lK v h1.1 (vF ho (congrArg (λq=>q.2.1) (hb w0)) hi hc λw=>congrArg (λq=>q.2.2) (hb w)) h) h1.2
theorem T.LN {b j n:Nat} {t2:TypeId} {cs S:List Value} {x:Operand} (h:T N w0 V H (ic o.dst (.agg S.toArray) M) (wpListIn (RF rl) 0 P ops Q rest)) (hg:gd ops M o.guard=some true:=by exact rfl) (ho:o.op=.load t2 x:=by exact rfl) (hx:ga M x=some (.pointer (some ⟨b,j,none⟩)):=by exact rfl)
 (hi:BoxAt H b cs:=by exact nI) (hn:lkf tK t2=some n:=by exact rfl) (hc:(drK j cs λl=>tkK n l some)=some S:=by exact rfl)
 (hb:∀w,(okO N ops M o&&iB o.op,evM M x,(isAgg t2).run P w,(sizeOf t2).run P w,(cs.drop j).take S.length)=(true,.pointer (some ⟨b,j,none⟩),.ok true w,.ok S.length w,S):=by intro _;kernel_rfl):T N w0 V H M (wpListIn (RF rl) 0 P ops Q (o::rest)):=by
 have h1:=congrArg Prod.fst (hb w0);simp only[Bool.and_eq_true] at h1;obtain⟨i,t,hi⟩:=hi.nth;exact T.gj (W1.lK _ h1.1 (ldN (b:=b) (off:=j) i ho (congrArg (λq=>q.2.1) (hb w0)) (λw=>Prod.ext (congrArg (λq=>q.2.2.1) (hb w)) (congrArg (λq=>q.2.2.2.1) (hb w))) (by rw[i9];exact hi) (congrArg (λq=>q.2.2.2.2) (hb w0))) h) h1.2
theorem W1.tX {b j:Nat} {t t2:TypeId} {cs vs cs':List Value} {F:List Value->List HObj} {x y:Operand} (h:T N w0 V (F cs') (ic o.dst undef M) K) (ho:o.op=.store t2 x y) (hi:kI H b t cs F) (hb:∀w,(okO N ops M o&&iB o.op,evM M x,(evM M y).cells,vs.all Value.oneCell',Nat.ble (j + vs.length) cs.length,(sizeOf t2).run P w,cs.take j++vs++cs.drop (j + vs.length))=(true,.pointer (some ⟨b,j,none⟩),vs.toArray,true,true,.ok vs.length w,cs')):W1 P Q ops o N w0 V H M K:=by have h1:=congrArg Prod.fst (hb w0);simp only[Bool.and_eq_true] at h1;obtain⟨i,h2,h3⟩:=hi;exact W1.st i cs' (F cs') vs h (hi:=h2) (hH:=h3 cs') (ho:=ho) (hx:=congrArg (λq=>q.2.1) (hb w0)) (hy:=rfl) (hvs:=congrArg (λq=>q.2.2.1) (hb w0)) (hcs:=congrArg (λq=>q.2.2.2.2.2.2) (hb w0)) (hb:=λw=>Prod.ext h1.1 (Prod.ext (congrArg (λq=>q.2.2.2.1) (hb w)) (Prod.ext (congrArg (λq=>q.2.2.2.2.1) (hb w)) (congrArg (λq=>q.2.2.2.2.2.1) (hb w)))))
theorem od {c:Bool} {o:Oper} (h:(c&&iB o.op)=true):iB o.op=true:=by simp only[Bool.and_eq_true] at h;exact h.2
theorem T.S {b j:Nat} {t t2:TypeId} {cs vs cs':List Value} {F:List Value->List HObj} {x y:Operand} (h:T N w0 V (F cs') (ic o.dst undef M) (wpListIn (RF rl) 0 P ops Q rest)) (hg:gd ops M o.guard=some true:=by exact rfl) (ho:o.op=.store t2 x y:=by exact rfl) (hx:ga M x=some (.pointer (some ⟨b,j,none⟩)):=by exact rfl) (hy:(gaK M y λv=>clK v some)=some vs:=by exact rfl) (hi:kI H b t cs F:=by exact qE) (hc:puK j cs vs some=some cs':=by exact rfl) (hb:∀w,(okO N ops M o&&iB o.op,evM M x,(evM M y).cells,vs.all Value.oneCell',Nat.ble (j + vs.length) cs.length,(sizeOf t2).run P w,cs.take j++vs++cs.drop (j + vs.length))=(true,.pointer (some ⟨b,j,none⟩),vs.toArray,true,true,.ok vs.length w,cs'):=by intro _;kernel_rfl):T N w0 V H M (wpListIn (RF rl) 0 P ops Q (o::rest)):=T.gj (W1.tX h ho hi hb) (od (congrArg Prod.fst (hb w0)))
theorem W1.N1 {t:TypeId} {cs:List Value} (h:∀b,T N w0 V (box b t cs::H) (ic o.dst (.pointer (some ⟨b,0,none⟩)) M) K) (hb:∀w:World,(okO N ops M o&&iB o.op,(execOp (evM M) o).run P w)=(true,.ok (.value (.pointer (some ⟨w.heap.size,0,none⟩))) { w with heap:=w.heap.push (.cells cs.toArray t) })):W1 P Q ops o N w0 V H M K:=by have h1:=congrArg Prod.fst (hb w0);simp only[Bool.and_eq_true] at h1;exact W1.pT t cs (λb=>.pointer (some ⟨b,0,none⟩)) h1.1 (λw=>congrArg Prod.snd (hb w)) h
theorem W1.NS {t:TypeId} {n:Nat} {cs:List Value} (h:∀b,T N w0 V (box b t cs::H) (ic o.dst (.slice (some ⟨b,0,none⟩) n n) M) K) (hb:∀w:World,(okO N ops M o&&iB o.op,(execOp (evM M) o).run P w)=(true,.ok (.value (.slice (some ⟨w.heap.size,0,none⟩) n n)) { w with heap:=w.heap.push (.cells cs.toArray t) })):W1 P Q ops o N w0 V H M K:=by have h1:=congrArg Prod.fst (hb w0);simp only[Bool.and_eq_true] at h1;exact W1.pT t cs (λb=>.slice (some ⟨b,0,none⟩) n n) h1.1 (λw=>congrArg Prod.snd (hb w)) h
theorem T.N1 {t:TypeId} {cs:List Value} (h:∀b,T N w0 V (box b t cs::H) (ic o.dst (.pointer (some ⟨b,0,none⟩)) M) (wpListIn (RF rl) 0 P ops Q rest)) (hg:gd ops M o.guard=some true:=by exact rfl) (hp:nwc M o.op=some (t,cs):=by exact rfl) (hb:∀w:World,(okO N ops M o&&iB o.op,(execOp (evM M) o).run P w)=(true,.ok (.value (.pointer (some ⟨w.heap.size,0,none⟩))) { w with heap:=w.heap.push (.cells cs.toArray t) }):=by intro _;kernel_rfl):T N w0 V H M (wpListIn (RF rl) 0 P ops Q (o::rest)):=T.gj (W1.N1 h hb) (od (congrArg Prod.fst (hb w0)))
theorem T.NS {t:TypeId} {n:Nat} {cs:List Value} (h:∀b,T N w0 V (box b t cs::H) (ic o.dst (.slice (some ⟨b,0,none⟩) n n) M) (wpListIn (RF rl) 0 P ops Q rest)) (hg:gd ops M o.guard=some true:=by exact rfl) (hp:nws M o.op=some (t,n,cs):=by exact rfl) (hb:∀w:World,(okO N ops M o&&iB o.op,(execOp (evM M) o).run P w)=(true,.ok (.value (.slice (some ⟨w.heap.size,0,none⟩) n n)) { w with heap:=w.heap.push (.cells cs.toArray t) }):=by intro _;kernel_rfl):T N w0 V H M (wpListIn (RF rl) 0 P ops Q (o::rest)):=T.gj (W1.NS h hb) (od (congrArg Prod.fst (hb w0)))
theorem vY {b j:Nat} {t2:TypeId} {cs S:List Value} {x:Operand} (ho:o.op=.load t2 x) (hi:BoxAt H b cs) (hb:∀w,(evM M x,(isAgg t2).run P w,(sizeOf t2).run P w,(cs.drop j).take S.length)=(.pointer (some ⟨b,j,none⟩),.ok true w,.ok S.length w,S)) :
 ∀w,Hp w0 V H w->(execOp (evM M) o).run P w=.ok (.value (.agg S.toArray)) w:=λw hh=>by
 obtain⟨i,t,hi⟩:=hi.nth;exact ldN (b:=b) (off:=j) i ho (congrArg (λq=>q.1) (hb w)) (λw=>Prod.ext (congrArg (λq=>q.2.1) (hb w)) (congrArg (λq=>q.2.2.1) (hb w))) (by rw[i9];exact hi) (congrArg (λq=>q.2.2.2) (hb w)) w hh
theorem uR {c:Bool} {b j:Nat} {t2:TypeId} {cs S:List Value} {x:Operand} (ho:o.op=.load t2 x) (hi:BoxAt H b cs) (hb:∀w,(c,evM M x,(isAgg t2).run P w,(sizeOf t2).run P w,(cs.drop j).take S.length)=(true,.pointer (some ⟨b,j,none⟩),.ok true w,.ok S.length w,S)) :
 ∀w,Hp w0 V H w->(execOp (evM M) o).run P w=.ok (.value (.agg S.toArray)) w:=vY ho hi λw=>congrArg Prod.snd (hb w)
theorem uQ {c:Bool} {b j:Nat} {t2:TypeId} {cs:List Value} {x:Operand} {v:Value} (ho:o.op=.load t2 x) (hi:BoxAt H b cs) (hc:nth cs j=some v) (hb:∀w,(c,evM M x,(isAgg t2).run P w)=(true,.pointer (some ⟨b,j,none⟩),.ok false w)) :
 ∀w,Hp w0 V H w->(execOp (evM M) o).run P w=.ok (.value v) w:=λw hh=>vF ho (congrArg (λq=>q.2.1) (hb w)) hi hc (λw=>congrArg (λq=>q.2.2) (hb w)) w hh
theorem TA.v {L:List Nat} {i:Nat} {v:Value} (h:Use L->T N w0 V H (ic o.dst v M) (wpAnyH P .any ops Q (Hp w0 V0 H0) fuel (listed.setIfInBounds i true))) (ho:ops[i]? = some o:=by exact rfl) (hg:gd ops M o.guard=some true:=by exact rfl) (hp:pv M o.op=some v:=by exact rfl) (hS:∀w,Hp w0 V H w->Hp w0 V0 H0 w:=by exact lm) (hb:∀w,((Region.noSelect ops&&Region.free .any ops listed i&&(Region.ready .any ops listed).contains i&&okO N ops M o),(execOp (evM M) o).run P w)=(true,.ok (.value v) w):=by intro _;kernel_rfl) (hQ:∀c a w,Q (.panic c) (a.put o.dst v) w->Q (.panic c) a w:=by exact λ_ _ _ h=>h):Use (i::L)->T N w0 V H M (wpAnyH P .any ops Q (Hp w0 V0 H0) (fuel + 1) listed):=λ_=>TA.tp i v ho hS (h trivial) hb hQ
theorem TA.A {L:List Nat} {i:Nat} {v:Value} (h:Use L->T N w0 V H (ic o.dst v M) (wpAnyH P .any ops Q (Hp w0 V0 H0) fuel (listed.setIfInBounds i true))) (ho:ops[i]? = some o:=by exact rfl) (hg:gd ops M o.guard=some true:=by exact rfl) (hp:pva M o.op=some v:=by exact rfl) (hS:∀w,Hp w0 V H w->Hp w0 V0 H0 w:=by exact lm) (hb:∀w,((Region.noSelect ops&&Region.free .any ops listed i&&(Region.ready .any ops listed).contains i&&okO N ops M o),(execOp (evM M) o).run P w)=(true,.ok (.value v) w):=by intro _;kernel_rfl) (hQ:∀c a w,Q (.panic c) (a.put o.dst v) w->Q (.panic c) a w:=by exact λ_ _ _ h=>h):Use (i::L)->T N w0 V H M (wpAnyH P .any ops Q (Hp w0 V0 H0) (fuel + 1) listed):=λ_=>TA.tp i v ho hS (h trivial) hb hQ
theorem TA.L1 {L:List Nat} {i:Nat} {v:Value} {b j:Nat} {t2:TypeId} {cs:List Value} {x:Operand} (h:Use L->T N w0 V H (ic o.dst v M) (wpAnyH P .any ops Q (Hp w0 V0 H0) fuel (listed.setIfInBounds i true))) (ho:ops[i]? = some o:=by exact rfl) (hg:gd ops M o.guard=some true:=by exact rfl) (ho':o.op=.load t2 x:=by exact rfl) (hx:ga M x=some (.pointer (some ⟨b,j,none⟩)):=by exact rfl) (hi:BoxAt H0 b cs:=by exact nI) (hn:lkf tK t2=none:=by exact rfl) (hc:nth cs j=some v:=by exact rfl) (hS:∀w,Hp w0 V H w->Hp w0 V0 H0 w:=by exact lm) (hb:∀w,((Region.noSelect ops&&Region.free .any ops listed i&&(Region.ready .any ops listed).contains i&&okO N ops M o),evM M x,(isAgg t2).run P w)=(true,.pointer (some ⟨b,j,none⟩),.ok false w):=by intro _;kernel_rfl) (hQ:∀c a w,Q (.panic c) (a.put o.dst v) w->Q (.panic c) a w:=by exact λ_ _ _ h=>h):Use (i::L)->T N w0 V H M (wpAnyH P .any ops Q (Hp w0 V0 H0) (fuel + 1) listed):=λ_=>TA.tk i v ho hS (uQ ho' hi hc hb) (h trivial) (congrArg Prod.fst (hb w0)) hQ
theorem TA.LN {L:List Nat} {i:Nat} {b j n:Nat} {t2:TypeId} {cs S:List Value} {x:Operand} (h:Use L->T N w0 V H (ic o.dst (.agg S.toArray) M) (wpAnyH P .any ops Q (Hp w0 V0 H0) fuel (listed.setIfInBounds i true))) (ho:ops[i]? = some o:=by exact rfl) (hg:gd ops M o.guard=some true:=by exact rfl) (ho':o.op=.load t2 x:=by exact rfl) (hx:ga M x=some (.pointer (some ⟨b,j,none⟩)):=by exact rfl) (hi:BoxAt H0 b cs:=by exact nI) (hn:lkf tK t2=some n:=by exact rfl) (hc:(drK j cs λl=>tkK n l some)=some S:=by exact rfl) (hS:∀w,Hp w0 V H w->Hp w0 V0 H0 w:=by exact lm) (hb:∀w,((Region.noSelect ops&&Region.free .any ops listed i&&(Region.ready .any ops listed).contains i&&okO N ops M o),evM M x,(isAgg t2).run P w,(sizeOf t2).run P w,(cs.drop j).take S.length)=(true,.pointer (some ⟨b,j,none⟩),.ok true w,.ok S.length w,S):=by intro _;kernel_rfl) (hQ:∀c a w,Q (.panic c) (a.put o.dst (.agg S.toArray)) w->Q (.panic c) a w:=by exact λ_ _ _ h=>h):Use (i::L)->T N w0 V H M (wpAnyH P .any ops Q (Hp w0 V0 H0) (fuel + 1) listed):=λ_=>TA.tk i _ ho hS (uR ho' hi hb) (h trivial) (congrArg Prod.fst (hb w0)) hQ
theorem TB.v {L:List Nat} {i:Nat} {v:Value} (h:Use L->T N w0 V H (ic o.dst v M) (wpAnyH P .any ops Q (Hp w0 V0 H0) fuel (listed.setIfInBounds i true))) (ho:ops[i]? = some o:=by exact rfl) (hg:gd ops M o.guard=some true:=by exact rfl) (hp:pv M o.op=some v:=by exact rfl) (hS:∀w,Hp w0 V H w->Hp w0 V0 H0 w:=by exact lm) (hb:∀w,(okO N ops M o,(execOp (evM M) o).run P w)=(true,.ok (.value v) w):=by intro _;kernel_rfl):Use L->TB P Q ops N w0 V V0 H H0 M fuel listed i:=λ_=>TA.br ho (W1.lK v (congrArg Prod.fst (hb w0)) (λw _=>congrArg Prod.snd (hb w)) (TA.on hS (h trivial)))
theorem TB.A {L:List Nat} {i:Nat} {v:Value} (h:Use L->T N w0 V H (ic o.dst v M) (wpAnyH P .any ops Q (Hp w0 V0 H0) fuel (listed.setIfInBounds i true))) (ho:ops[i]? = some o:=by exact rfl) (hg:gd ops M o.guard=some true:=by exact rfl) (hp:pva M o.op=some v:=by exact rfl) (hS:∀w,Hp w0 V H w->Hp w0 V0 H0 w:=by exact lm) (hb:∀w,(okO N ops M o,(execOp (evM M) o).run P w)=(true,.ok (.value v) w):=by intro _;kernel_rfl):Use L->TB P Q ops N w0 V V0 H H0 M fuel listed i:=λ_=>TA.br ho (W1.lK v (congrArg Prod.fst (hb w0)) (λw _=>congrArg Prod.snd (hb w)) (TA.on hS (h trivial)))
theorem TB.L1 {L:List Nat} {i:Nat} {v:Value} {b j:Nat} {t2:TypeId} {cs:List Value} {x:Operand} (h:Use L->T N w0 V H (ic o.dst v M) (wpAnyH P .any ops Q (Hp w0 V0 H0) fuel (listed.setIfInBounds i true))) (ho:ops[i]? = some o:=by exact rfl) (hg:gd ops M o.guard=some true:=by exact rfl) (ho':o.op=.load t2 x:=by exact rfl) (hx:ga M x=some (.pointer (some ⟨b,j,none⟩)):=by exact rfl) (hi:BoxAt H b cs:=by exact nI) (hn:lkf tK t2=none:=by exact rfl) (hc:nth cs j=some v:=by exact rfl) (hS:∀w,Hp w0 V H w->Hp w0 V0 H0 w:=by exact lm) (hb:∀w,(okO N ops M o,evM M x,(isAgg t2).run P w)=(true,.pointer (some ⟨b,j,none⟩),.ok false w):=by intro _;kernel_rfl):Use L->TB P Q ops N w0 V V0 H H0 M fuel listed i:=λ_=>TA.br ho (W1.lK v (congrArg Prod.fst (hb w0)) (uQ ho' hi hc hb) (TA.on hS (h trivial)))
theorem TB.LN {L:List Nat} {i:Nat} {b j n:Nat} {t2:TypeId} {cs S:List Value} {x:Operand} (h:Use L->T N w0 V H (ic o.dst (.agg S.toArray) M) (wpAnyH P .any ops Q (Hp w0 V0 H0) fuel (listed.setIfInBounds i true))) (ho:ops[i]? = some o:=by exact rfl) (hg:gd ops M o.guard=some true:=by exact rfl) (ho':o.op=.load t2 x:=by exact rfl) (hx:ga M x=some (.pointer (some ⟨b,j,none⟩)):=by exact rfl) (hi:BoxAt H b cs:=by exact nI) (hn:lkf tK t2=some n:=by exact rfl) (hc:(drK j cs λl=>tkK n l some)=some S:=by exact rfl) (hS:∀w,Hp w0 V H w->Hp w0 V0 H0 w:=by exact lm) (hb:∀w,(okO N ops M o,evM M x,(isAgg t2).run P w,(sizeOf t2).run P w,(cs.drop j).take S.length)=(true,.pointer (some ⟨b,j,none⟩),.ok true w,.ok S.length w,S):=by intro _;kernel_rfl):Use L->TB P Q ops N w0 V V0 H H0 M fuel listed i:=λ_=>TA.br ho (W1.lK _ (congrArg Prod.fst (hb w0)) (uR ho' hi hb) (TA.on hS (h trivial)))
theorem TB.S {L:List Nat} {i:Nat} {b j:Nat} {t t2:TypeId} {cs vs cs':List Value} {F:List Value->List HObj} {x y:Operand} (h:Use L->T N w0 V (F cs') (ic o.dst undef M) (wpAnyH P .any ops Q (Hp w0 V0 H0) fuel (listed.setIfInBounds i true))) (ho:ops[i]? = some o:=by exact rfl) (hg:gd ops M o.guard=some true:=by exact rfl) (ho':o.op=.store t2 x y:=by exact rfl) (hx:ga M x=some (.pointer (some ⟨b,j,none⟩)):=by exact rfl) (hy:(gaK M y λv=>clK v some)=some vs:=by exact rfl) (hi:kI H b t cs F:=by exact qE) (hc:puK j cs vs some=some cs':=by exact rfl) (hS:∀w,Hp w0 V (F cs') w->Hp w0 V0 H0 w:=by exact lm) (hb:∀w,(okO N ops M o&&iB o.op,evM M x,(evM M y).cells,vs.all Value.oneCell',Nat.ble (j + vs.length) cs.length,(sizeOf t2).run P w,cs.take j++vs++cs.drop (j + vs.length))=(true,.pointer (some ⟨b,j,none⟩),vs.toArray,true,true,.ok vs.length w,cs'):=by intro _;kernel_rfl):Use L->TB P Q ops N w0 V V0 H H0 M fuel listed i:=λ_=>TA.br ho (W1.tX (TA.on hS (h trivial)) ho' hi hb)
theorem TB.N1 {i:Nat} {t:TypeId} {cs:List Value} (h:∀b,T N w0 V (box b t cs::H) (ic o.dst (.pointer (some ⟨b,0,none⟩)) M) (wpAnyH P .any ops Q (Hp w0 V0 H0) fuel (listed.setIfInBounds i true))) (ho:ops[i]? = some o:=by exact rfl) (hg:gd ops M o.guard=some true:=by exact rfl) (hp:nwc M o.op=some (t,cs):=by exact rfl) (hS:∀b w,Hp w0 V (box b t cs::H) w->Hp w0 V0 H0 w:=by intro _;exact lm) (hb:∀w:World,(okO N ops M o&&iB o.op,(execOp (evM M) o).run P w)=(true,.ok (.value (.pointer (some ⟨w.heap.size,0,none⟩))) { w with heap:=w.heap.push (.cells cs.toArray t) }):=by intro _;kernel_rfl):TB P Q ops N w0 V V0 H H0 M fuel listed i:=TA.br ho (W1.N1 (λb=>TA.on (hS b) (h b)) hb)
theorem TA.N1 (i:Nat) {t:TypeId} {cs:List Value} (h:∀b,T N w0 V (box b t cs::H) (ic o.dst (.pointer (some ⟨b,0,none⟩)) M) (wpAnyH P .any ops Q (Hp w0 V0 H0) fuel (listed.setIfInBounds i true))) (ho:ops[i]? = some o:=by exact rfl) (hg:gd ops M o.guard=some true:=by exact rfl) (hp:nwc M o.op=some (t,cs):=by exact rfl) (hS:∀b w,Hp w0 V (box b t cs::H) w->Hp w0 V0 H0 w:=by intro _;exact lm) (hb:∀w:World,(okO N ops M o&&iB o.op,(execOp (evM M) o).run P w)=(true,.ok (.value (.pointer (some ⟨w.heap.size,0,none⟩))) { w with heap:=w.heap.push (.cells cs.toArray t) }):=by intro _;kernel_rfl) (hr:Region.ready .any ops listed=[i]:=by kernel_rfl):T N w0 V H M (wpAnyH P .any ops Q (Hp w0 V0 H0) (fuel + 1) listed):=TA.pM [i] hr rfl ⟨TB.N1 h ho hg hp hS hb,trivial⟩
theorem TB.NS {i:Nat} {t:TypeId} {n:Nat} {cs:List Value} (h:∀b,T N w0 V (box b t cs::H) (ic o.dst (.slice (some ⟨b,0,none⟩) n n) M) (wpAnyH P .any ops Q (Hp w0 V0 H0) fuel (listed.setIfInBounds i true))) (ho:ops[i]? = some o:=by exact rfl) (hg:gd ops M o.guard=some true:=by exact rfl) (hp:nws M o.op=some (t,n,cs):=by exact rfl) (hS:∀b w,Hp w0 V (box b t cs::H) w->Hp w0 V0 H0 w:=by intro _;exact lm) (hb:∀w:World,(okO N ops M o&&iB o.op,(execOp (evM M) o).run P w)=(true,.ok (.value (.slice (some ⟨w.heap.size,0,none⟩) n n)) { w with heap:=w.heap.push (.cells cs.toArray t) }):=by intro _;kernel_rfl):TB P Q ops N w0 V V0 H H0 M fuel listed i:=TA.br ho (W1.NS (λb=>TA.on (hS b) (h b)) hb)
theorem TA.NS (i:Nat) {t:TypeId} {n:Nat} {cs:List Value} (h:∀b,T N w0 V (box b t cs::H) (ic o.dst (.slice (some ⟨b,0,none⟩) n n) M) (wpAnyH P .any ops Q (Hp w0 V0 H0) fuel (listed.setIfInBounds i true))) (ho:ops[i]? = some o:=by exact rfl) (hg:gd ops M o.guard=some true:=by exact rfl) (hp:nws M o.op=some (t,n,cs):=by exact rfl) (hS:∀b w,Hp w0 V (box b t cs::H) w->Hp w0 V0 H0 w:=by intro _;exact lm) (hb:∀w:World,(okO N ops M o&&iB o.op,(execOp (evM M) o).run P w)=(true,.ok (.value (.slice (some ⟨w.heap.size,0,none⟩) n n)) { w with heap:=w.heap.push (.cells cs.toArray t) }):=by intro _;kernel_rfl) (hr:Region.ready .any ops listed=[i]:=by kernel_rfl):T N w0 V H M (wpAnyH P .any ops Q (Hp w0 V0 H0) (fuel + 1) listed):=TA.pM [i] hr rfl ⟨TB.NS h ho hg hp hS hb,trivial⟩
theorem TA.vc {L:List Nat} {i:Nat} (h:Use L->TB P Q ops N w0 V V0 H H0 M fuel listed i) (hr:Region.ready .any ops listed=[i]:=by kernel_rfl):Use (i::L)->T N w0 V H M (wpAnyH P .any ops Q (Hp w0 V0 H0) (fuel + 1) listed):=λ_=>TA.pM [i] hr rfl ⟨h trivial,trivial⟩
theorem ta (L:List Nat) {A B:Prop} (h:A) (t:Use L->Wr A->B:=by intro u h;revert u;(repeat (first|refine TA.v ?_|refine TA.L1 ?_|refine TA.LN ?_|refine TA.A ?_));exact λ_=>h.p):B:=t trivial ⟨h⟩
theorem tj (L:List Nat) {A B:Prop} (h:A) (t:Use L->Wr A->B:=by intro u h;revert u;(repeat (refine TA.vc ?_;(first|refine TB.v ?_|refine TB.S ?_|refine TB.L1 ?_|refine TB.LN ?_|refine TB.A ?_)));exact λ_=>h.p):B:=t trivial ⟨h⟩
theorem tb {A B:Prop} (h:A) (t:Use []->Wr A->B:=by intro u h;revert u;(first|refine TB.v ?_|refine TB.S ?_|refine TB.L1 ?_|refine TB.LN ?_|refine TB.A ?_);exact λ_=>h.p):B:=t trivial ⟨h⟩
theorem T.no (h:T N w0 V H (ic o.dst undef M) (wpListIn (RF rl) 0 P ops Q rest)) (hg:gd ops M o.guard=some false:=by exact rfl) (hd:nT N o.dst=true:=by kernel_rfl):T N w0 V H M (wpListIn (RF rl) 0 P ops Q (o::rest)):=T.uZ hg hd h
theorem nO {r:ResultVar} {v:Value} (h:kL P N w0 V H M r v:=by first|exact kL.tmp rfl|exact rN 0|exact rN 1|exact rN 2|exact rN 3|exact rN 4|exact rN 5|exact rN 6|exact rN 7|exact rN 8|exact rN 9|exact rN 10|exact rN 11|exact rN 12|exact rN 13|exact rN 14|exact rN 15):kL P N w0 V H M r v:=h
end
theorem ud {w0:World} {V:View} {H:List HObj} {N:Sz} {M:List (Nat×Value)} {a:Act} {w:World} {B:Prop} (hf:Fr N M a) (hh:Hp w0 V H w) (t:Fr N M a->Hp w0 V H w->B:=by
 intro hf hh
 (try first|refine And.intro ?_ ?_|apply Exists.intro)
 repeat' (first|exact rfl|with_reducible refine And.intro ?_ ?_|with_reducible apply Exists.intro)
 all_goals (first|(refine Fr.sel hf ?_;exact rfl)|exact Fr.nil hf|skip)
 all_goals (first|(refine Hp.sub hh ?_;(repeat (first|with_reducible exact List.Sublist.refl _|refine List.Sublist.cons_cons _ ?_|exact List.nil_sublist _|refine List.Sublist.cons _ ?_));done)|skip)
 all_goals (first|exact fI.nil _ _|(refine fI.mono (by assumption) ?_;(first|((repeat (first|exact View.le_refl _|assumption|refine jh ?_|refine View.le_trans ?_ (by assumption)));done)|((repeat (first|exact View.le_refl _|assumption|refine jh ?_|refine View.le_trans (by assumption) ?_));done)))|(first|((repeat (first|exact View.le_refl _|assumption|refine jh ?_|refine View.le_trans ?_ (by assumption)));done)|((repeat (first|exact View.le_refl _|assumption|refine jh ?_|refine View.le_trans (by assumption) ?_));done)))):B:=t hf hh
theorem gt {N:Sz} {w0:World} {V:View} {H:List HObj} {M:List (Nat×Value)} {I:Act->World->Prop} (t:∀a w,Fr N M a->Hp w0 V H w->I a w:=by intro a w hf hh;exact ud hf hh):∀a w,Fr N M a->Hp w0 V H w->I a w:=t
theorem ia {B:Prop} (t:B:=by
 (try refine T.iV rfl ?_);(repeat first|refine T.ir ?_|refine T.ik ?_)
 (first|refine T.jB rfl nO ?_|refine T.jJ rfl nO nO ?_|refine T.qL rfl nO nO nO ?_|refine T.kx rfl ?_)
 intro w' hh;(try refine⟨_,rfl,hh.below,?_⟩)
 repeat' (first|exact rfl|with_reducible refine And.intro ?_ ?_|with_reducible apply Exists.intro|refine vT2.mk ?_ ?_|refine vT3.mk ?_ ?_ ?_|refine vAg.mk ?_|refine⟨_,_,rfl,?_⟩|refine⟨_,_,_,_,rfl,?_,?_⟩|refine⟨_,_,_,_,_,_,_,_,rfl,?_,?_,?_,?_⟩)
 all_goals (first|(refine Hp.sub hh ?_;(repeat (first|with_reducible exact List.Sublist.refl _|refine List.Sublist.cons_cons _ ?_|exact List.nil_sublist _|refine List.Sublist.cons _ ?_));done)|skip)
 all_goals (first|exact fI.nil _ _|(refine fI.mono (by assumption) ?_;(first|((repeat (first|exact View.le_refl _|assumption|exact jK hh|refine jh ?_|refine View.le_trans (jh ?_) (jK hh)|refine View.le_trans ?_ (by assumption)));done)|((repeat (first|exact View.le_refl _|assumption|exact jK hh|refine jh ?_|refine View.le_trans (jh ?_) (jK hh)|refine View.le_trans (by assumption) ?_));done)))|(first|((repeat (first|exact View.le_refl _|assumption|exact jK hh|refine jh ?_|refine View.le_trans (jh ?_) (jK hh)|refine View.le_trans ?_ (by assumption)));done)|((repeat (first|exact View.le_refl _|assumption|exact jK hh|refine jh ?_|refine View.le_trans (jh ?_) (jK hh)|refine View.le_trans (by assumption) ?_));done)))):B:=t
section
variable {rl:Option Nat} {P:Program} {N:Sz} {w0:World} {V V0:View} {H H0:List HObj} {M:List (Nat×Value)} {ops:Array Oper} {Q:Exit->Act->World->Prop} {rest:List Oper} {o:Oper}
theorem au0 {A B:Prop} (h:A) (t:A->B:=by intro h;(repeat (first|refine T.v ?_|refine T.va ?_|refine T.no ?_|refine T.L1 ?_|refine T.LN ?_|refine T.S ?_|refine T.iU ?_|refine T.jx ?_|refine T.m6 ?_));exact h):B:=t h
theorem al0 {A B:Prop} (h:A) (t:A->B:=by intro h;(repeat (first|refine T.vl ?_|refine T.va ?_|refine T.no ?_|refine T.L1 ?_|refine T.LN ?_|refine T.S ?_|refine T.iU ?_|refine T.jx ?_|refine T.m6 ?_));exact h):B:=t h
theorem nX {A B:Prop} (h:A) (t:A->B:=by intro h;(first|refine T.sr ?_|refine T.j4 ?_|refine T.kD ?_|refine T.gD ?_);exact h):B:=t h
theorem ac1 {A B:Prop} (h:A) (t:A->B:=by intro h;(first|refine T.v ?_|refine T.va ?_|refine T.no ?_|refine T.L1 ?_|refine T.LN ?_|refine T.S ?_);exact h):B:=t h
theorem au1 {A B:Prop} (h:A) (t:A->B:=by intro h;(refine au0 ?_;refine nX ?_;refine au0 ?_);exact h):B:=t h
theorem au2 {A B:Prop} (h:A) (t:A->B:=by intro h;(refine au1 ?_;refine nX ?_;refine au0 ?_);exact h):B:=t h
theorem au3 {A B:Prop} (h:A) (t:A->B:=by intro h;(refine au2 ?_;refine nX ?_;refine au0 ?_);exact h):B:=t h
theorem au4 {A B:Prop} (h:A) (t:A->B:=by intro h;(refine au3 ?_;refine nX ?_;refine au0 ?_);exact h):B:=t h
theorem au5 {A B:Prop} (h:A) (t:A->B:=by intro h;(refine au4 ?_;refine nX ?_;refine au0 ?_);exact h):B:=t h
theorem al1 {A B:Prop} (h:A) (t:A->B:=by intro h;(refine al0 ?_;refine nX ?_;refine al0 ?_);exact h):B:=t h
theorem as2 {A B:Prop} (h:A) (t:A->B:=by intro h;(refine au1 ?_;refine nX ?_);exact h):B:=t h
theorem ac3 {A B:Prop} (h:A) (t:A->B:=by intro h;(iterate 3 refine ac1 ?_);exact h):B:=t h
end
end Go.Proofs.YtnofgfobljadbaaGreat
