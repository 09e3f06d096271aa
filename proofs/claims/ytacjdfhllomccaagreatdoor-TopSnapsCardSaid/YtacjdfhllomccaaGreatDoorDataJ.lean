/- The data of the program as plain Lean structures, and how they lie in memory. Its conditions: none. -/
import Derived.Test.YtacjdfhllomccaaGreatDoorRowJ
namespace Go.Proofs.YtacjdfhllomccaaGreatDoor
structure DKey where
 pfs : Int
 obj : Int
 off : Int
 deriving DecidableEq
structure DSpot where
 key : DKey
 made : Int
 deriving DecidableEq
structure DElem where
 key : DKey
 made : Int
 gone : Int
 val : ByteArray
 deriving DecidableEq
structure DFrame where
 kind : Int
 body : ByteArray
 deriving DecidableEq
structure DWrite where
 page : Int
 text : ByteArray
 deriving DecidableEq
structure DSnap where
 name : ByteArray
 tid : Int
 deriving DecidableEq
structure DChange where
 key : DKey
 had : Bool
 has : Bool
 was : ByteArray
 is_ : ByteArray
 deriving DecidableEq
structure DNode where
 kind : Int
 elems : List DElem
 kids : List Int
 seps : List DSpot
 tids : List Int
 deriving DecidableEq
theorem one_of {l : List Value} (h : l.all Value.oneCell' = true) : ∀ u ∈ l, u.oneCell' = true := List.all_eq_true.1 h
def DKey.cells (x : DKey) : List Value := [.int .i64 x.pfs, .int .i64 x.obj, .int .i64 x.off]
def eKey : Enc DKey := eFlat 3 DKey.cells (fun _ => rfl) (fun _ => one_of rfl)
def DSpot.cells (x : DSpot) : List Value := [.int .i64 x.key.pfs, .int .i64 x.key.obj, .int .i64 x.key.off, .int .i64 x.made]
def eSpot : Enc DSpot := eFlat 4 DSpot.cells (fun _ => rfl) (fun _ => one_of rfl)
def DElem.cells (x : DElem) : List Value := [.int .i64 x.key.pfs, .int .i64 x.key.obj, .int .i64 x.key.off, .int .i64 x.made, .int .i64 x.gone, .string x.val]
def eElem : Enc DElem := eFlat 6 DElem.cells (fun _ => rfl) (fun _ => one_of rfl)
def DFrame.cells (x : DFrame) : List Value := [.int .i64 x.kind, .string x.body]
def DWrite.cells (x : DWrite) : List Value := [.int .i64 x.page, .string x.text]
def DSnap.cells (x : DSnap) : List Value := [.string x.name, .int .i64 x.tid]
def eSnap : Enc DSnap := eFlat 2 DSnap.cells (fun _ => rfl) (fun _ => one_of rfl)
def DChange.cells (x : DChange) : List Value := [.int .i64 x.key.pfs, .int .i64 x.key.obj, .int .i64 x.key.off, .bool x.had, .bool x.has, .string x.was, .string x.is_]
theorem sureKey : Sure (vAg eKey) (fun x => .agg (DKey.cells x).toArray) := Sure.flatN
theorem sureSpot : Sure (vAg eSpot) (fun x => .agg (DSpot.cells x).toArray) := Sure.flatN
theorem sureElem : Sure (vAg eElem) (fun x => .agg (DElem.cells x).toArray) := Sure.flatN
structure DTree where
 root : Int
 nodes : List DNode
 deriving DecidableEq
structure DDisk where
 pages : List ByteArray
 writes : List DWrite
 deriving DecidableEq
structure DA16 where
 x0 : Int
 x1 : Int
 x2 : Int
 x3 : Int
 x4 : Int
 x5 : Int
 x6 : Int
 x7 : Int
 x8 : Int
 x9 : Int
 x10 : Int
 x11 : Int
 x12 : Int
 x13 : Int
 x14 : Int
 x15 : Int
 deriving DecidableEq
def DA16.list (a : DA16) : List Int := [a.x0, a.x1, a.x2, a.x3, a.x4, a.x5, a.x6, a.x7, a.x8, a.x9, a.x10, a.x11, a.x12, a.x13, a.x14, a.x15]
def DA16.of (l : List Int) : DA16 := ⟨l.getD 0 0, l.getD 1 0, l.getD 2 0, l.getD 3 0, l.getD 4 0, l.getD 5 0, l.getD 6 0, l.getD 7 0, l.getD 8 0, l.getD 9 0, l.getD 10 0, l.getD 11 0, l.getD 12 0, l.getD 13 0, l.getD 14 0, l.getD 15 0⟩
def DA16.set (a : DA16) (k : Nat) (v : Int) : DA16 := DA16.of (a.list.set k v)
def DA16.cells (a : DA16) : List Value := [.int .i64 a.x0, .int .i64 a.x1, .int .i64 a.x2, .int .i64 a.x3, .int .i64 a.x4, .int .i64 a.x5, .int .i64 a.x6, .int .i64 a.x7, .int .i64 a.x8, .int .i64 a.x9, .int .i64 a.x10, .int .i64 a.x11, .int .i64 a.x12, .int .i64 a.x13, .int .i64 a.x14, .int .i64 a.x15]
structure DBook where
 run : List DElem
 roles : DA16
 fed : DA16
 deriving DecidableEq
structure Dstream_Parsed where
 pfs : Int
 from_ : Int
 to : Int
 elems : List DElem
 deriving DecidableEq
structure Dannalref_Parsed where
 pfs : Int
 from_ : Int
 to : Int
 elems : List DElem
 err : Int
 deriving DecidableEq
end Go.Proofs.YtacjdfhllomccaaGreatDoor
