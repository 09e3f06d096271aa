/- Tables of the types that the program's operations name. Conditions: none. -/
import Derived.Test.YtnofgfobljadbaaGreatCoreO
open ByteArray renaming mk→a_
namespace Go.Proofs.YtnofgfobljadbaaGreat
set_option linter.unusedSimpArgs false
set_option linter.unusedVariables false
def lkf {α:Type}:List (Nat×α)->Nat->Option α
 |[],_=>none
 |(k,v)::l,t=>bif Nat.beq k t then some v else lkf l t
def ue:List (Nat×List (Nat×Nat×Bool)):=[(24,[(0,1,false),(1,1,false),(2,1,false)]),(28,[(0,3,true),(3,1,false),(4,1,false),(5,1,false)]),(40,[(0,1,false),(1,1,false)]),(46,[(0,1,false),(1,1,false)]),(77,[(0,1,false),(1,1,false)]),(79,[(0,2,true),(2,2,true)]),(83,[(0,3,true),(3,1,false)]),(97,[(0,1,false),(1,1,false),(2,1,false),(3,1,false),(4,1,false)]),(130,[(0,2,true),(2,1,false)]),(134,[(0,1,false),(1,1,false)]),(151,[(0,2,true)]),(173,[(0,2,true),(2,1,false),(3,1,false),(4,1,false)]),(176,[(0,4,true),(4,4,true),(8,1,false),(9,1,false)]),(180,[(0,1,false),(1,1,false)]),(181,[(0,2,true),(2,2,true),(4,2,true)]),(196,[(0,2,true)]),(198,[(0,1,false),(1,1,false),(2,1,false),(3,1,false)]),(211,[(0,1,false),(1,4,true)])]
def vL:List (Nat×List Value):=[(3,[.int .i64 0]),(4,[.bool false]),(22,[.slice none 0 0]),(24,[.int .i64 0,.int .i64 0,.int .i64 0]),(28,[.int .i64 0,.int .i64 0,.int .i64 0,.int .i64 0,.int .i64 0,.string (a_ #[])]),(31,[.int .i64 0]),(40,[.slice none 0 0,.slice none 0 0]),(46,[.int .i64 0,.string (a_ #[])]),(77,[.int .i64 0,.slice none 0 0]),(79,[.slice none 0 0,.slice none 0 0,.int .i64 0,.slice none 0 0]),(83,[.int .i64 0,.int .i64 0,.int .i64 0,.int .i64 0]),(95,[.slice none 0 0]),(97,[.int .i64 0,.slice none 0 0,.slice none 0 0,.slice none 0 0,.slice none 0 0]),(130,[.slice none 0 0,.slice none 0 0,.slice none 0 0]),(134,[.int .i64 0,.string (a_ #[])]),(151,[.int .i64 0,.slice none 0 0]),(173,[.int .i64 0,.slice none 0 0,.slice none 0 0,.int .i64 0,.int .i64 0]),(176,[.int .i64 0,.int .i64 0,.int .i64 0,.int .i64 0,.int .i64 0,.int .i64 0,.int .i64 0,.int .i64 0,.bool false,.bool false]),(178,[.nilFunc]),(180,[.int .i64 0,.int .i64 0]),(181,[.int .i64 0,.int .i64 0,.int .i64 0,.int .i64 0,.int .i64 0,.int .i64 0]),(196,[.int .i64 0,.slice none 0 0]),(198,[.int .i64 0,.int .i64 0,.int .i64 0,.int .i64 0]),(199,[.int .u64 0]),(211,[.int .i64 0,.int .i64 0,.int .i64 0,.int .i64 0,.int .i64 0])]
def vW:List (Nat×IntKind):=[(3,.i64),(5,.u8),(108,.u64),(121,.u64),(169,.u32),(199,.u64),(206,.u16)]
def tK:List (Nat×Nat):=[(24,3),(28,6),(40,2),(46,2),(77,2),(83,4),(97,5),(176,10),(211,5)]
def vV:List (Nat×Nat):=[(22,6),(34,2),(37,1),(38,2),(55,1),(66,1),(75,5),(95,4),(180,1),(182,1),(183,1),(208,5)]
def vX:List (Nat×Nat):=[(22,28),(34,40),(37,9),(38,46),(66,3),(75,97),(95,83),(183,5),(208,211)]
end Go.Proofs.YtnofgfobljadbaaGreat
