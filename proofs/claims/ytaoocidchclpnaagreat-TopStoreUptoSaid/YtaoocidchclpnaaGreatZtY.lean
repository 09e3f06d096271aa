/- Tables of the types that the program's operations name. Conditions: none. -/
import Derived.Test.YtaoocidchclpnaaGreatCoreY
open ByteArray renaming mk→a_
namespace Go.Proofs.YtaoocidchclpnaaGreat
def lkf {α:Type} : List (Nat × α)→Nat→Option α
 | [],_=>none
 | (k,v)::l,t=>bif Nat.beq k t then some v else lkf l t
def tf:List (Nat × List (Nat × Nat × Bool)):=[(31,[(0,1,false),(1,1,false),(2,1,false)]),(41,[(0,1,false),(1,1,false)]),(52,[(0,3,true),(3,1,false),(4,1,false),(5,1,false)]),(56,[(0,1,false),(1,1,false)]),(64,[(0,1,false),(1,1,false),(2,1,false),(3,1,false),(4,1,false)]),(66,[(0,2,true),(2,2,true)]),(91,[(0,1,false),(1,1,false)]),(96,[(0,3,true),(3,1,false)]),(109,[(0,2,true)]),(127,[(0,1,false),(1,1,false)]),(130,[(0,2,true),(2,1,false)]),(134,[(0,1,false),(1,1,false),(2,1,false),(3,1,false)]),(147,[(0,2,true)]),(153,[(0,2,true),(2,1,false),(3,1,false),(4,1,false)]),(156,[(0,4,true),(4,4,true),(8,1,false),(9,1,false)]),(167,[(0,1,false),(1,4,true)]),(178,[(0,1,false),(1,1,false)]),(179,[(0,2,true),(2,2,true),(4,2,true)])]
def uE:List (Nat × List Value):=[(3,[.int .i64 0]),(4,[.bool false]),(31,[.int .i64 0,.int .i64 0,.int .i64 0]),(41,[.slice none 0 0,.slice none 0 0]),(43,[.slice none 0 0]),(52,[.int .i64 0,.int .i64 0,.int .i64 0,.int .i64 0,.int .i64 0,.string (a_ #[])]),(56,[.int .i64 0,.slice none 0 0]),(64,[.int .i64 0,.slice none 0 0,.slice none 0 0,.slice none 0 0,.slice none 0 0]),(66,[.slice none 0 0,.slice none 0 0,.int .i64 0,.slice none 0 0]),(91,[.int .i64 0,.string (a_ #[])]),(96,[.int .i64 0,.int .i64 0,.int .i64 0,.int .i64 0]),(109,[.int .i64 0,.slice none 0 0]),(127,[.int .i64 0,.string (a_ #[])]),(130,[.slice none 0 0,.slice none 0 0,.slice none 0 0]),(134,[.int .i64 0,.int .i64 0,.int .i64 0,.int .i64 0]),(147,[.int .i64 0,.slice none 0 0]),(153,[.int .i64 0,.slice none 0 0,.slice none 0 0,.int .i64 0,.int .i64 0]),(156,[.int .i64 0,.int .i64 0,.int .i64 0,.int .i64 0,.int .i64 0,.int .i64 0,.int .i64 0,.int .i64 0,.bool false,.bool false]),(158,[.nilFunc]),(167,[.int .i64 0,.int .i64 0,.int .i64 0,.int .i64 0,.int .i64 0]),(178,[.int .i64 0,.int .i64 0]),(179,[.int .i64 0,.int .i64 0,.int .i64 0,.int .i64 0,.int .i64 0,.int .i64 0])]
def uO:List (Nat × IntKind):=[(3,.i64),(5,.u8),(69,.u64),(119,.u64),(162,.u16)]
def sJ:List (Nat × Nat):=[(31,3),(41,2),(52,6),(56,2),(64,5),(96,4),(127,2),(156,10),(167,5)]
def uN:List (Nat × Nat):=[(22,1),(23,3),(24,1),(25,1),(29,1),(39,2),(43,6),(45,2),(54,5),(62,4),(133,1),(160,1),(164,5),(178,1)]
def uP:List (Nat × Nat):=[(29,3),(39,127),(43,52),(45,41),(54,64),(62,96),(133,5),(164,167)]
end Go.Proofs.YtaoocidchclpnaaGreat
