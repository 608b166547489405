/-
  Row 35: the heaps ahead of the trim.
-/
import Derived.Test.YtcbcfelbafccpaaGreatXHC
set_option linter.all false
open Go
open List renaming range->Ze
namespace Go.V
set_option maxRecDepth 100000
set_option maxHeartbeats 40000000
def Tx:((Ze 10).all fun i=>IU ((17+i:Nat):Int))=true:=by decide+kernel
def Tz:((Ze 10).all fun i=>IU ((27+i:Nat):Int))=true:=by decide+kernel
def TA:((Ze 10).all fun i=>IU ((37+i:Nat):Int))=true:=by decide+kernel
def TC:((Ze 10).all fun i=>IU ((47+i:Nat):Int))=true:=by decide+kernel
def TD:((Ze 10).all fun i=>IU ((57+i:Nat):Int))=true:=by decide+kernel
def TE:((Ze 10).all fun i=>IU ((67+i:Nat):Int))=true:=by decide+kernel
def Kq {z:Int}(h0:17<=z)(h1:z<=76):IU z=true:=by
 have key:∀ (a:Nat),((Ze 10).all fun i=>IU ((a+i:Nat):Int))=true->(a:Int)<=z->z<a+10->IU z=true:=fun a q b c=>by
  have r:=List.all_eq_true.1 q (z-a).toNat (List.mem_range.2 Uc)
  rwa [show((a+(z-a).toNat:Nat):Int)=z by omega]at r
 by_cases c1:z<27;exact key 17 Tx h0 c1
 by_cases c2:z<37;exact key 27 Tz Uc c2
 by_cases c3:z<47;exact key 37 TA Uc c3
 by_cases c4:z<57;exact key 47 TC Uc c4
 by_cases c5:z<67;exact key 57 TD Uc c5
 exact key 67 TE Uc Uc
end Go.V