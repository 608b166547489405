/-
  Row 35: what the trimmed heaps are.
-/
import Derived.Test.YtcbcfelbafccpaaGreatXHC
set_option linter.all false
open Go
open List renaming range->Ze,all_eq_true->ZV,mem_range->Z2
namespace Go.V
set_option maxRecDepth 100000
set_option maxHeartbeats 40000000
def aak:((Ze 23).all fun i=>L9 2 ((9+i:Nat):Int))=true:=by decide+kernel
def aal:((Ze 39).all fun i=>L9 3 ((9+i:Nat):Int))=true:=by decide+kernel
def aam:((Ze 55).all fun i=>L9 4 ((9+i:Nat):Int))=true:=by decide+kernel
def aan:((Ze 67).all fun i=>L9 5 ((9+i:Nat):Int))=true:=by decide+kernel
def adf:((Ze 60).all fun i=>decide (pfN ((17+i:Nat):Int)=if i<16 then 2 else if i<32 then 3 else if i<48 then 4 else 5))=true:=by decide+kernel
def KB {z l:Int}(h0:17<=z)(h1:z<=76)(l0:9<=l)(l1:l<z):L9 (pfN z) l=true:=by
 have key:∀ (c:Int) (m:Nat),((Ze m).all fun i=>L9 c ((9+i:Nat):Int))=true->l<9+m->L9 c l=true:=fun c m q b=>by
  have r:=ZV.1 q (l-9).toNat (Z2.2 Uc)
  rwa [show((9+(l-9).toNat:Nat):Int)=l by omega]at r
 have e:=VL (ZV.1 adf (z-17).toNat (Z2.2 Uc));rw[show((17+(z-17).toNat:Nat):Int)=z by omega]at e;rw[e];by_cases c1:(z-17).toNat<16
 ·rw[VJ c1];exact key 2 23 aak Uc
 rw[VK c1];by_cases c2:(z-17).toNat<32
 ·rw[VJ c2];exact key 3 39 aal Uc
 rw[VK c2];by_cases c3:(z-17).toNat<48
 ·rw[VJ c3];exact key 4 55 aam Uc
 rw[VK c3];exact key 5 67 aan Uc
end Go.V