/-
  The functions that contracts name, and what a contract says.
-/
import Derived.Test.YtbedjnlfdopeeaaGreatS14
import Derived.Test.YtbedjnlfdopeeaaGreatHB
set_option linter.all false
open Go
open IntKind renaming i64->Za
namespace Go.V
open Go Go.Proofs
structure rz where
 szN:List aa->Int->Int
 kN:List aa->Int->Int
 mkN:aa->Int->aa
 inR:Int->Int->Int->Bool
 clsSz:Int->Int
 clsOf:Int->Int
 lsI:aa->Int
 obI:aa->Int->Int
 spI:aa->Int->Int
 eqB:Int->Int->Bool
 pagesOn:aa->Int->aa
 peM:aa->Int->Int
 peF:aa->Int->Int
 fpg:aa->Int->aa
 Ms:aa->Int->Int
 hasB:aa->Int->Bool
 ubB:aa->aa->Int->Int
 framesOk:aa->aa->Bool
 tableOk:aa->Int->Bool
 machOk:aa->aa->aa->Bool
 kerOk:aa->aa->aa->Int->aa->Bool
 slB:Int->Int->Bool
 hsB:Int->Int->Bool
 slN:Int->Int
 bmOk:Int->Int->Bool
 spOk:Int->Int->Int->Bool
 pfN:Int->Int
 lgOk:Int->Int->Int->Bool
 saS:Int->Int->Int->Int->Int
 saO:Int->Int->Int->Int->Int
 aaI:Int->Int->Int->Int->Int
 lhB:Int->Int->Int->Int->Bool
 loI:Int->Int->Int->Int->Int
 layOk:aa->aa->Bool
 mgbI:aa->Int->Bool
 muT:aa->Int->aa
 dnK:aa->aa->Int->Int
 dnI:aa->aa->Int->Int
 dnS:aa->Int->Int
 dnO:aa->aa->Int->Int
 dzK:aa->aa->Int->Int
 dzI:aa->aa->Int->Int
 dzS:aa->aa->Int->Int
 dzO:aa->aa->Int->Int
 laL:aa->aa->aa
 srtL:aa->aa
 iaL:aa->aa->aa
 qtI:aa->Int->Int
 qtB:aa->Int->Bool
 mailOk:aa->aa->Bool
 ifL:aa->aa->aa
 rngIn:Int->Int->Int->Bool
 rgOk:Int->aa->Bool
 rh1:Int->Int->Int->Bool
 rhI:aa->Int->Int
 rhB:aa->Int->Bool
 mshB:Int->Int->Int->Int->Int->Int->Bool
 qcI:aa->Int
 stlOk:aa->Int->Int->Int->Bool
 staB:Int->Int->Int->Bool
 quarOk:Int->aa->Bool
 caOk:aa->Bool
 plOk:Int->Int->aa->Bool
 jbOk:Int->Int->aa->Int->Int->Bool
 woN:Int->Int->Int
 snN:Int->Int->Int->Int->Int
 snB:Int->Int->Int->Int->Bool
 qeL:Int->aa->Int->Int->aa
 qeR:Int->aa->Int->Int->aa
 oiI:aa->Int->Int
 oiB:aa->Int->Bool
 objOk:aa->aa->aa->aa->Int->Bool
 hlB:aa->aa->Int->Int->Bool
 huI:aa->Int->aa
 hoI:aa->aa->aa->aa->aa->aa->aa->Int->Bool
 hoS:aa->aa->aa->aa->aa->aa->aa->Bool
 mapB:aa->Int->Bool
 pgI:aa->aa->aa->aa->Bool
 pgS:aa->aa->aa->aa->Bool
 smS:aa->aa->Bool
 ccB:aa->aa->aa->Int->aa->Bool
 dfC:aa->aa->Int->aa
 dfU:aa->aa->Int->aa
 ktC:Bool->aa->aa->Int->aa
 ktU:Bool->aa->aa->Int->aa
 ktE:Bool->aa->Int->aa
 ktB:Bool->aa->Int->Bool
 kuC:aa->aa->Int->aa
 kuU:aa->aa->Int->aa
 kuE:aa->Int->aa
 rpL:Int->aa->Int->Int->aa
 rpB:Int->aa->Int->Int->Bool
 jnR:aa->aa
 hpI:aa->aa->aa->Int->aa->aa->aa->aa->aa->aa->aa->aa->Int->aa->Int->Int->Int->Int->Bool->Int->Int->aa->Int->Int->Bool
 jobZ:Int->Int->aa->Int->Int->Bool
 zlI:aa->Int
 delL:aa->Int->Int->aa
 bsB:Bool->Int->Int->Int->Bool
 duC:aa->aa->aa->Int->Int->aa
 duU:aa->aa->aa->Int->Int->aa
 duE:aa->aa->aa->Int->Int->aa
 dsC:aa->aa->aa->aa->Int->aa
 dsU:aa->aa->aa->aa->Int->aa
 dsE:aa->aa->aa->aa->Int->aa
 dsF:aa->aa->aa->aa->aa->Int->aa
 dsS:aa->Int->aa
 fzC:Bool->Int->Int->aa->aa->aa->aa->aa->Int->aa
 fzU:Bool->Int->Int->aa->aa->aa->aa->aa->Int->aa
 fzE:Bool->Int->Int->aa->aa->aa->aa->aa->Int->aa
 fzF:Bool->Int->Int->aa->aa->aa->aa->aa->Int->aa
 fzS:Bool->Int->Int->aa->aa->aa->aa->aa->Int->aa
 t0B:Bool->Int->Int->aa->Bool
 ad3:aa->Int
 Pi:Int->Int->Int
 tkC:Bool->Int->Int->aa->aa->aa->aa->aa->aa->aa
 tkU:Bool->Int->Int->aa->aa->aa->aa->aa->aa->aa
 tkE:Bool->Int->Int->aa->aa->aa->aa->aa->aa->aa
 tkF:Bool->Int->Int->aa->aa->aa->aa->aa->aa->aa
 tkS:Bool->Int->Int->aa->aa->aa->aa->aa->aa->aa
 ifR:Bool->aa->aa->aa
 tgB:Bool->Int->Int->Int->Bool
 ifN:Bool->Int->Int->Int
 clB:aa->Int->Bool
 htB:aa->aa->Int->Bool
 cpLq:aa->Int->Int->aa
 cpBq:aa->Int->Int->Bool
 sdL:aa->aa->Int->Int->Int->aa
 sdB:aa->aa->Int->Int->Int->Bool
 rcC:Bool->Int->Int->aa->aa->aa->aa->aa->aa->Int->Int->aa
 rcU:Bool->Int->Int->aa->aa->aa->aa->aa->aa->Int->Int->aa
 rcE:Bool->Int->Int->aa->aa->aa->aa->aa->aa->Int->Int->aa
 rcF:Bool->Int->Int->aa->aa->aa->aa->aa->aa->Int->Int->aa
 rcS:Bool->Int->Int->aa->aa->aa->aa->aa->aa->Int->Int->aa
 rcD:aa->aa->Int->Int->aa
 lhI:aa->Int->Int
 tcC:aa->aa->Int->Int->aa
 pmB:Int->Int->Bool
 qaL:Int->aa->Int->Int->Int->aa
 qaR:Int->aa->Int->Int->Int->aa
 feI:aa->aa->Int->Int
 hwI:aa->aa->Int->Int
 lgC:aa->aa->aa->aa->Int->aa
 gi1:aa->Int->Int
 lgU:aa->aa->aa->aa->Int->aa
 lgE:aa->aa->aa->aa->Int->aa
 lgF:aa->aa->aa->aa->aa->Int->aa
 lgL:aa->Int->aa
 hfK:Bool->Int->aa->aa->aa->aa->aa->aa->aa->Int->Int->Int
 fbL:Bool->aa->Int->Bool
 fbP:Bool->aa->aa->aa->aa->Int->Int->Bool
 fcC:aa->aa->aa->Int->aa
 fbQ:Bool->aa->aa->Int->Int->Bool
 raC:Bool->Int->Int->aa->aa->aa->aa->aa->aa->Int->aa->aa
 fqR:aa->Int->aa->Int->Int->aa
 raU:Bool->Int->Int->aa->aa->aa->aa->aa->aa->Int->aa->aa
 raE:Bool->Int->Int->aa->aa->aa->aa->aa->aa->Int->aa->aa
 raF:Bool->Int->Int->aa->aa->aa->aa->aa->aa->Int->aa->aa
 raS:Bool->Int->Int->aa->aa->aa->aa->aa->aa->Int->aa->aa
 foO:aa->Int->aa
 raD:Bool->Int->Int->aa->aa->aa->aa->aa->aa->Int->aa->aa
 sdU:aa->Int->Int->Int->aa
 foT:aa->Int->Int
 fqL:aa->Int->aa->Int->Int->aa
abbrev F0:rz:=⟨dV,be,dY,inR,clsSz,clsOf,lsI,obI,spI,eqB,pagesOn,peM,peF,fpg,Ms,hasB,ubB,framesOk,tableOk,machOk,kerOk,slB,hsB,slN,bmOk,spOk,pfN,lgOk,saS,saO,aaI,lhB,loI,layOk,mgbI,muT,dnK,dnI,dnS,dnO,dzK,dzI,dzS,dzO,laL,srtL,iaL,qtI,qtB,mailOk,ifL,rngIn,rgOk,rh1,rhI,rhB,mshB,qcI,stlOk,staB,quarOk,caOk,plOk,jbOk,woN,snN,snB,qeL,qeR,oiI,oiB,objOk,hlB,huI,hoI,hoS,mapB,pgI,pgS,smS,ccB,dfC,dfU,ktC,ktU,ktE,ktB,kuC,kuU,kuE,rpL,rpB,jnR,hpI,jobZ,zlI,delL,bsB,duC,duU,duE,dsC,dsU,dsE,dsF,dsS,fzC,fzU,fzE,fzF,fzS,t0B,ad3,Pi,tkC,tkU,tkE,tkF,tkS,ifR,tgB,ifN,clB,htB,Kr,rY,sdL,sdB,rcC,rcU,rcE,rcF,rcS,rcD,lhI,tcC,pmB,qaL,qaR,feI,hwI,lgC,gi1,lgU,lgE,lgF,lgL,hfK,fbL,fbP,fcC,fbQ,raC,fqR,raU,raE,raF,raS,foO,raD,sdU,foT,fqL⟩
abbrev K4 (a:Int):Prop:= -9223372036854775808<=a/\a<=9223372036854775807
abbrev EC :=rz->List DV->Option ((Unit->Prop)×List DV)
abbrev EM :=rz->MK
abbrev EP :=rz->PK
abbrev EN :=rz->NK
abbrev EO :=rz->TW
abbrev ec (n:FuncId)(e:EC):Prop:=∀ ds pre res,e F0 ds=some (pre,res)->pre ()->OK n ds res
abbrev em (n:FuncId)(e:EM):Prop:=∀ ds pre outs res,e F0 ds=some (pre,outs,res)->pre ()->ack n ds outs res
abbrev ep (n:FuncId)(e:EP):Prop:=∀ ds pre outs res,e F0 ds=some (pre,outs,res)->pre ()->aco n ds outs res
abbrev en (n:FuncId)(e:EN):Prop:=∀ ds pre hs,e F0 ds=some (pre,hs)->pre ()->acn Tryz.prog n ds hs
abbrev eo (n:FuncId)(e:EO):Prop:=∀ ds pre res,e F0 ds=some (pre,res)->pre ()->Li Tryz.prog n ds res
def hL {α:Type}(l:ay)(k:aa->aa->aa->Int->aa->aa->aa->aa->aa->aa->aa->aa->Int->aa->Int->Int->Int->Int->Bool->Int->Int->aa->Int->Int->α):Option α:=match l with
 |[.s 1 a0,.s 1 a1,.s 2 a2,.v (.int Za a3),.s 1 a4,.s 2 a5,.s 3 a6,.s 3 a7,.s 4 a8,.s 1 a9,.s 1 aA,.s 1 aB,.v (.int Za aC),.s 3 aD,.v (.int Za aE),.v (.int Za aF),.v (.int Za aG),.v (.int Za aH),.v (.bool aI),.v (.int Za aJ),.v (.int Za aK),.s 1 aL,.v (.int Za aM),.v (.int Za aN)]=>some (k a0 a1 a2 a3 a4 a5 a6 a7 a8 a9 aA aB aC aD aE aF aG aH aI aJ aK aL aM aN)
 |_=>none
def hM {α:Type}(l:List H)(k:aa->aa->aa->Int->aa->aa->aa->aa->aa->aa->aa->aa->Int->aa->Int->Int->Int->Int->Bool->Int->Int->aa->Int->Int->α):Option α:=match l with
 |[.own (.s 1 a0),.own (.s 1 a1),.own (.s 2 a2),.own (.v (.int Za a3)),.own (.s 1 a4),.own (.s 2 a5),.own (.s 3 a6),.own (.s 3 a7),.own (.s 4 a8),.own (.s 1 a9),.own (.s 1 aA),.own (.s 1 aB),.own (.v (.int Za aC)),.own (.s 3 aD),.own (.v (.int Za aE)),.own (.v (.int Za aF)),.own (.v (.int Za aG)),.own (.v (.int Za aH)),.own (.v (.bool aI)),.own (.v (.int Za aJ)),.own (.v (.int Za aK)),.own (.s 1 aL),.own (.v (.int Za aM)),.own (.v (.int Za aN))]=>some (k a0 a1 a2 a3 a4 a5 a6 a7 a8 a9 aA aB aC aD aE aF aG aH aI aJ aK aL aM aN)
 |_=>none
theorem de {f:FuncId}:∀ ds pre res,(none:Option ((Unit->Prop)×List DV))=some (pre,res)->pre ()->OK f ds res:=fun _ _ _ h=>by cases h
abbrev nB:da:={Φ:=rz,F0:=F0}
abbrev ez (c:rz->CT)(h:acj (c F0)):da:={Φ:=rz,F0:=F0,ct:=c,hc:=h}
end Go.V