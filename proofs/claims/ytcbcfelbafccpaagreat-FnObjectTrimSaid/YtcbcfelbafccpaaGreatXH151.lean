/-
  Row 35: what the law's walk asks.
-/
import Derived.Test.YtcbcfelbafccpaaGreatXH150
set_option linter.all false
open Go
open IntKind renaming i64->Za
open Nat renaming le_trans->ZA
namespace Go.V
def rgS (fs:af):Int:=QG fs fs.length
def adm {h:HV}:h.rg=rgS h.a5:=rfl
def z35 {r:Int}(h0:0<=r)(h1:r<60):17<=bK .add Za 17 r/\bK .add Za 17 r<=76:=by
 have e:bK .add Za 17 r=17+r:=cu Uc;omega
def y35 {z:Int}(h0:17<=z)(h1:z<=76):bK .sub Za z 9=z-9:=fC Uc
def l35 {z r:Int}(h1:z<=76)(r0:0<=r)(r1:r<z-9):9<=bK .add Za 9 r/\bK .add Za 9 r<z:=by
 have e:bK .add Za 9 r=9+r:=cu Uc;omega
def c35 {h:HV}(w:h.wf=true)(p:h.hp=true):Rw [tI] (h.cL 1):=(Nm (HV.wf_hc w).1.r0 (fun _=>Hs (HV.wf_hc w).1.r8 (ZA bj (ZA (HV.wf_hc w).1.c8 (by decide))) p)).1
end Go.V