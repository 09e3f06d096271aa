/- The data of the program as plain Lean structures, and how they lie in memory. Its conditions: none. -/
import Derived.Test.YtaoocidchclpnaaGreatRowY
namespace Go.Proofs.YtaoocidchclpnaaGreat
structure DKey where
 pfs:Int
 obj:Int
 off:Int
 deriving DecidableEq
structure DSpot where
 key:DKey
 made:Int
 deriving DecidableEq
structure DElem where
 key:DKey
 made:Int
 gone:Int
 val:ByteArray
 deriving DecidableEq
structure DFrame where
 kind:Int
 body:ByteArray
 deriving DecidableEq
structure DWrite where
 page:Int
 text:ByteArray
 deriving DecidableEq
structure DSnap where
 name:ByteArray
 tid:Int
 deriving DecidableEq
structure DChange where
 key:DKey
 had:Bool
 has:Bool
 was:ByteArray
 is_:ByteArray
 deriving DecidableEq
structure DNode where
 kind:Int
 elems:List DElem
 kids:List Int
 seps:List DSpot
 tids:List Int
 deriving DecidableEq
theorem jg {l:List Value} (h:l.all Value.oneCell' = true) : ∀ u∈l,u.oneCell' = true:=List.all_eq_true.1 h
def DKey.cells (x:DKey) : List Value:=[.int .i64 x.pfs,.int .i64 x.obj,.int .i64 x.off]
def uz:Enc DKey:=mA 3 DKey.cells (fun _=>rfl) (fun _=>jg rfl)
def DSpot.cells (x:DSpot) : List Value:=[.int .i64 x.key.pfs,.int .i64 x.key.obj,.int .i64 x.key.off,.int .i64 x.made]
def eSpot:Enc DSpot:=mA 4 DSpot.cells (fun _=>rfl) (fun _=>jg rfl)
def DElem.cells (x:DElem) : List Value:=[.int .i64 x.key.pfs,.int .i64 x.key.obj,.int .i64 x.key.off,.int .i64 x.made,.int .i64 x.gone,.string x.val]
def eElem:Enc DElem:=mA 6 DElem.cells (fun _=>rfl) (fun _=>jg rfl)
def DFrame.cells (x:DFrame) : List Value:=[.int .i64 x.kind,.string x.body]
def pS:Enc DFrame:=mA 2 DFrame.cells (fun _=>rfl) (fun _=>jg rfl)
def DWrite.cells (x:DWrite) : List Value:=[.int .i64 x.page,.string x.text]
def iu:Enc DWrite:=mA 2 DWrite.cells (fun _=>rfl) (fun _=>jg rfl)
def DSnap.cells (x:DSnap) : List Value:=[.string x.name,.int .i64 x.tid]
def DChange.cells (x:DChange) : List Value:=[.int .i64 x.key.pfs,.int .i64 x.key.obj,.int .i64 x.key.off,.bool x.had,.bool x.has,.string x.was,.string x.is_]
theorem jr:jV (vAg eSpot) (fun x=>.agg (DSpot.cells x).toArray):=jV.flatN
theorem oD:jV (vAg eElem) (fun x=>.agg (DElem.cells x).toArray):=jV.flatN
theorem oT:jV (vAg pS) (fun x=>.agg (DFrame.cells x).toArray):=jV.flatN
def iH:Enc DNode where
 size:=5
 rep:=fun V cs x=>∃(A1:Option Addr) (c1:Nat) (A2:Option Addr) (c2:Nat) (A3:Option Addr) (c3:Nat) (A4:Option Addr) (c4:Nat),
  cs=[.int .i64 x.kind,.slice A1 x.elems.length c1,.slice A2 x.kids.length c2,.slice A3 x.seps.length c3,.slice A4 x.tids.length c4] ∧
   hJ V eElem A1 c1 x.elems∧hJ V hO A2 c2 x.kids∧hJ V eSpot A3 c3 x.seps∧hJ V hO A4 c4 x.tids
 mono:=fun hv ⟨A1,c1,A2,c2,A3,c3,A4,c4,h,h1,h2,h3,h4⟩=>⟨A1,c1,A2,c2,A3,c3,A4,c4,h,h1.mono hv,h2.mono hv,h3.mono hv,h4.mono hv⟩
 len:=fun ⟨_,_,_,_,_,_,_,_,h,_⟩=>by rw [h];rfl
 one:=fun ⟨_,_,_,_,_,_,_,_,h,_⟩=>by rw [h];exact jg rfl
structure DTree where
 root:Int
 nodes:List DNode
 deriving DecidableEq
structure DDisk where
 pages:List ByteArray
 writes:List DWrite
 deriving DecidableEq
def nO:Enc DTree where
 size:=2
 rep:=fun V cs x=>∃(A1:Option Addr) (c1:Nat),
  cs=[.int .i64 x.root,.slice A1 x.nodes.length c1]∧hJ V iH A1 c1 x.nodes
 mono:=fun hv ⟨A1,c1,h,h1⟩=>⟨A1,c1,h,h1.mono hv⟩
 len:=fun ⟨_,_,h,_⟩=>by rw [h];rfl
 one:=fun ⟨_,_,h,_⟩=>by rw [h];exact jg rfl
def iC:Enc DDisk where
 size:=2
 rep:=fun V cs x=>∃(A1:Option Addr) (c1:Nat) (A2:Option Addr) (c2:Nat),
  cs=[.slice A1 x.pages.length c1,.slice A2 x.writes.length c2]∧hJ V eStr A1 c1 x.pages∧hJ V iu A2 c2 x.writes
 mono:=fun hv ⟨A1,c1,A2,c2,h,h1,h2⟩=>⟨A1,c1,A2,c2,h,h1.mono hv,h2.mono hv⟩
 len:=fun ⟨_,_,_,_,h,_⟩=>by rw [h];rfl
 one:=fun ⟨_,_,_,_,h,_⟩=>by rw [h];exact jg rfl
structure DA16 where
 x0:Int
 x1:Int
 x2:Int
 x3:Int
 x4:Int
 x5:Int
 x6:Int
 x7:Int
 x8:Int
 x9:Int
 x10:Int
 x11:Int
 x12:Int
 x13:Int
 x14:Int
 x15:Int
 deriving DecidableEq
def DA16.list (a:DA16) : List Int:=[a.x0,a.x1,a.x2,a.x3,a.x4,a.x5,a.x6,a.x7,a.x8,a.x9,a.x10,a.x11,a.x12,a.x13,a.x14,a.x15]
def DA16.of (l:List Int) : DA16:=⟨l.getD 0 0,l.getD 1 0,l.getD 2 0,l.getD 3 0,l.getD 4 0,l.getD 5 0,l.getD 6 0,l.getD 7 0,l.getD 8 0,l.getD 9 0,l.getD 10 0,l.getD 11 0,l.getD 12 0,l.getD 13 0,l.getD 14 0,l.getD 15 0⟩
def DA16.set (a:DA16) (k:Nat) (v:Int) : DA16:=DA16.of (a.list.set k v)
def DA16.cells (a:DA16) : List Value:=[.int .i64 a.x0,.int .i64 a.x1,.int .i64 a.x2,.int .i64 a.x3,.int .i64 a.x4,.int .i64 a.x5,.int .i64 a.x6,.int .i64 a.x7,.int .i64 a.x8,.int .i64 a.x9,.int .i64 a.x10,.int .i64 a.x11,.int .i64 a.x12,.int .i64 a.x13,.int .i64 a.x14,.int .i64 a.x15]
end Go.Proofs.YtaoocidchclpnaaGreat
