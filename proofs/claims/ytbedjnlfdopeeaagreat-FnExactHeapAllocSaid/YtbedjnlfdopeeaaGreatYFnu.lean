/-
  The functions that contracts name, and what a contract says.
-/
import Derived.Test.YtbedjnlfdopeeaaGreatYS14
import Derived.Test.YtbedjnlfdopeeaaGreatYHB
set_option linter.all false
open Go
open IntKind renaming i64->Za
namespace Go.V
open Go Go.Proofs
structure qp where
 szN:List af->Int->Int
 kN:List af->Int->Int
 mkN:af->Int->af
 inR:Int->Int->Int->Bool
 clsSz:Int->Int
 clsOf:Int->Int
 lsI:af->Int
 obI:af->Int->Int
 spI:af->Int->Int
 eqB:Int->Int->Bool
 pagesOn:af->Int->af
 peM:af->Int->Int
 peF:af->Int->Int
 fpg:af->Int->af
 idxI:af->Int->Int
 hasB:af->Int->Bool
 ubB:af->af->Int->Int
 framesOk:af->af->Bool
 tableOk:af->Int->Bool
 machOk:af->af->af->Bool
 kerOk:af->af->af->Int->af->Bool
 slB:Int->Int->Bool
 hsB:Int->Int->Bool
 slN:Int->Int
 bmOk:Int->Int->Bool
 spOk:Int->Int->Int->Bool
 pfN:Int->Int
 lgOk:Int->Int->Int->Bool
 saS:Int->Int->Int->Int->Int
 saO:Int->Int->Int->Int->Int
 aaI:Int->Int->Int->Int->Int
 lhB:Int->Int->Int->Int->Bool
 loI:Int->Int->Int->Int->Int
 layOk:af->af->Bool
 mgbI:af->Int->Bool
 muT:af->Int->af
 dnK:af->af->Int->Int
 dnI:af->af->Int->Int
 dnS:af->Int->Int
 dnO:af->af->Int->Int
 dzK:af->af->Int->Int
 dzI:af->af->Int->Int
 dzS:af->af->Int->Int
 dzO:af->af->Int->Int
 laL:af->af->af
 srtL:af->af
 iaL:af->af->af
 qtI:af->Int->Int
 qtB:af->Int->Bool
 mailOk:af->af->Bool
 ifL:af->af->af
 rngIn:Int->Int->Int->Bool
 rgOk:Int->af->Bool
 rh1:Int->Int->Int->Bool
 rhI:af->Int->Int
 rhB:af->Int->Bool
 mshB:Int->Int->Int->Int->Int->Int->Bool
 qcI:af->Int
 stlOk:af->Int->Int->Int->Bool
 staB:Int->Int->Int->Bool
 quarOk:Int->af->Bool
 caOk:af->Bool
 plOk:Int->Int->af->Bool
 jbOk:Int->Int->af->Int->Int->Bool
 oiI:af->Int->Int
 oiB:af->Int->Bool
 objOk:af->af->af->af->Int->Bool
 hlB:af->af->Int->Int->Bool
 huI:af->Int->af
 hoI:af->af->af->af->af->af->af->Int->Bool
 hoS:af->af->af->af->af->af->af->Bool
 mapB:af->Int->Bool
 pgI:af->af->af->af->Bool
 pgS:af->af->af->af->Bool
 smS:af->af->Bool
 ccB:af->af->af->Int->af->Bool
 dfC:af->af->Int->af
 dfU:af->af->Int->af
 ktC:Bool->af->af->Int->af
 ktU:Bool->af->af->Int->af
 ktE:Bool->af->Int->af
 ktB:Bool->af->Int->Bool
 kuC:af->af->Int->af
 kuU:af->af->Int->af
 kuE:af->Int->af
 rpL:Int->af->Int->Int->af
 rpB:Int->af->Int->Int->Bool
 jnR:af->af
 c1N:Int->Int
 nhR:af->Int->Bool
 ftU:af->af->af
 ftI:af->af->Int
 ftB:af->af->Bool
 freeI:af->Int
 kwU:Bool->af->af->Int->af->Int->af
 kwE:Bool->af->af->Int->af->Int->af
 kqN:Bool->Int->Int
 kwB:Bool->af->af->Int->af->Int->Bool
 kmB:af->af->Int->af->Int->Bool
 kmU:af->af->Int->af->Int->af
 kmE:af->af->Int->af->Int->af
 delL:af->Int->Int->af
 tkL:Int->af->Int->af
 tkA:Int->af->Int->Int
 tkB:Int->af->Int->Bool
 hpI:af->af->af->Int->af->af->af->af->af->af->af->af->Int->af->Int->Int->Int->Int->Bool->Int->Int->af->Int->Int->Bool
 jobZ:Int->Int->af->Int->Int->Bool
 zlI:af->Int
 nxS:Int->Int
 cuI:Int->Int->Int
 cuS:Int->Int->Int
 bsB:Bool->Int->Int->Int->Bool
 Fj:af->af->af->Int->Int->af
 Fl:af->af->af->Int->Int->af
 BZ:af->af->af->Int->Int->af
 dsC:af->af->af->af->Int->af
 dsU:af->af->af->af->Int->af
 dsE:af->af->af->af->Int->af
 dsF:af->af->af->af->af->Int->af
 dsS:af->Int->af
 woN:Int->Int->Int
 snN:Int->Int->Int->Int->Int
 snB:Int->Int->Int->Int->Bool
 qeL:Int->af->Int->Int->af
 qeR:Int->af->Int->Int->af
 fzC:Bool->Int->Int->af->af->af->af->af->Int->af
 fzU:Bool->Int->Int->af->af->af->af->af->Int->af
 fzE:Bool->Int->Int->af->af->af->af->af->Int->af
 fzF:Bool->Int->Int->af->af->af->af->af->Int->af
 fzS:Bool->Int->Int->af->af->af->af->af->Int->af
 t0B:Bool->Int->Int->af->Bool
 ac9:af->Int
 Oz:Int->Int->Int
 tkC:Bool->Int->Int->af->af->af->af->af->af->af
 tkU:Bool->Int->Int->af->af->af->af->af->af->af
 tkE:Bool->Int->Int->af->af->af->af->af->af->af
 tkF:Bool->Int->Int->af->af->af->af->af->af->af
 tkS:Bool->Int->Int->af->af->af->af->af->af->af
 TN:Bool->af->af->af
 tgB:Bool->Int->Int->Int->Bool
 ifN:Bool->Int->Int->Int
 clB:af->Int->Bool
 wiN:Int->Int->Int
 frL:Int->Int->af
 ctL:af->Int->af
 ctA:af->Int->Int
 ctB:af->Int->Bool
 inL:af->Int->af->af
 xpA:af->af->Int->af->af->Int->Int
 xpB:af->af->Int->af->af->Int->Bool
 xpC:af->af->af->Int->af->af->Int->af
 xpU:af->af->af->Int->af->af->Int->af
 xpE:af->af->af->Int->af->af->Int->af
 xpK:af->af->Int->af->af->Int->Int
 xpF:af->af->Int->af->af->Int->af
 xsI:af->af->Int->af->af->af->Int->Int
 xsL:af->af->Int->af->af->af->Int->af
 isI:af->Int->Int
 isL:af->Int->Int->Int->af
 xcA:af->af->Int->Int->Int
 xcB:af->af->Int->Bool
 xcS:af->af->Int->Int->af
 xcD:af->af->Int->Int->Int
 xmA:af->af->af->Int->af->af->af->af->Int->Bool->Int->Int->Int->Int->Int
 xmB:af->af->af->Int->af->af->af->af->Int->Bool->Int->Int->Int->Int->Bool
 xmC:af->af->af->Int->af->af->af->af->Int->Bool->Int->Int->Int->Int->af
 xmU:af->af->af->Int->af->af->af->af->Int->Bool->Int->Int->Int->Int->af
 xmE:af->af->af->Int->af->af->af->af->Int->Bool->Int->Int->Int->Int->af
 xmK:af->af->af->Int->af->af->af->af->Int->Bool->Int->Int->Int->Int->Int
 xmF:af->af->af->Int->af->af->af->af->Int->Bool->Int->Int->Int->Int->af
 xmS:af->af->af->Int->af->af->af->af->Int->Bool->Int->Int->Int->Int->af
 xmX:af->af->af->Int->af->af->af->af->Int->Bool->Int->Int->Int->Int->af
 xmD:af->af->af->Int->af->af->af->af->Int->Bool->Int->Int->Int->Int->Int
 xlA:af->af->Int->af->af->Int->Int
 xlL:af->af->Int->af->af->af->Int->af
 tcC:af->af->Int->Int->af
 xaA:Bool->af->af->af->Int->af->af->af->af->af->Int->Bool->Int->Int->Int->Int->Int
 xaO:Bool->Int->af->af->Int->Int->Int->Int->Bool
 xaR:Int->Int->Int
 xaG:Bool->Int->af->af->Int->Int->Int->Int->Int
 xaC:Bool->af->af->af->Int->af->af->af->af->af->Int->Bool->Int->Int->Int->Int->af
 xaU:Bool->af->af->af->Int->af->af->af->af->af->Int->Bool->Int->Int->Int->Int->af
 xaE:Bool->af->af->af->Int->af->af->af->af->af->Int->Bool->Int->Int->Int->Int->af
 xaK:Bool->af->af->af->Int->af->af->af->af->af->Int->Bool->Int->Int->Int->Int->Int
 xaF:Bool->af->af->af->Int->af->af->af->af->af->Int->Bool->Int->Int->Int->Int->af
 xaS:Bool->af->af->af->Int->af->af->af->af->af->Int->Bool->Int->Int->Int->Int->af
 xaL:Bool->af->af->af->Int->af->af->af->af->af->Int->Bool->Int->Int->Int->Int->af
 xaP:af->Int->Int->Int->Int->af
 xaX:Bool->af->af->af->Int->af->af->af->af->af->Int->Bool->Int->Int->Int->Int->af
 xaD:Bool->af->af->af->Int->af->af->af->af->af->Int->Bool->Int->Int->Int->Int->Int
 xaN:Int->Int->Int
abbrev F0:qp:=⟨dT,bg,dW,inR,clsSz,clsOf,lsI,obI,spI,eqB,pagesOn,peM,peF,fpg,idxI,hasB,ubB,framesOk,tableOk,machOk,kerOk,slB,hsB,slN,bmOk,spOk,pfN,lgOk,saS,saO,aaI,lhB,loI,layOk,mgbI,muT,dnK,dnI,dnS,dnO,dzK,dzI,dzS,dzO,laL,srtL,iaL,qtI,qtB,mailOk,ifL,rngIn,rgOk,rh1,rhI,rhB,mshB,qcI,stlOk,staB,quarOk,caOk,plOk,jbOk,oiI,oiB,objOk,hlB,huI,hoI,hoS,mapB,pgI,pgS,smS,ccB,dfC,dfU,ktC,ktU,ktE,ktB,kuC,kuU,kuE,rpL,rpB,jnR,c1N,nhR,ftU,ftI,ftB,freeI,kwU,kwE,kqN,kwB,kmB,kmU,kmE,delL,tkL,tkA,tkB,hpI,jobZ,zlI,nxS,cuI,cuS,bsB,Fj,Fl,BZ,dsC,dsU,dsE,dsF,dsS,woN,snN,snB,qeL,qeR,fzC,fzU,fzE,fzF,fzS,t0B,ac9,Oz,tkC,tkU,tkE,tkF,tkS,TN,tgB,ifN,clB,wiN,frL,ctL,ctA,ctB,inL,xpA,xpB,xpC,xpU,xpE,xpK,xpF,xsI,xsL,isI,isL,xcA,xcB,xcS,xcD,xmA,xmB,xmC,xmU,xmE,xmK,xmF,xmS,xmX,xmD,xlA,xlL,tcC,xaA,xaO,xaR,xaG,xaC,xaU,xaE,xaK,xaF,xaS,xaL,xaP,xaX,xaD,xaN⟩
abbrev NS (a:Int):Prop:= -9223372036854775808<=a/\a<=9223372036854775807
abbrev EC :=qp->List DV->Option ((Unit->Prop)×List DV)
abbrev EM :=qp->MK
abbrev EP :=qp->PK
abbrev EN :=qp->NK
abbrev EO :=qp->SB
abbrev ec (n:FuncId)(e:EC):Prop:=∀ ds pre res,e F0 ds=some (pre,res)->pre ()->N4 n ds res
abbrev em (n:FuncId)(e:EM):Prop:=∀ ds pre outs res,e F0 ds=some (pre,outs,res)->pre ()->abw n ds outs res
abbrev ep (n:FuncId)(e:EP):Prop:=∀ ds pre outs res,e F0 ds=some (pre,outs,res)->pre ()->abA n ds outs res
abbrev en (n:FuncId)(e:EN):Prop:=∀ ds pre hs,e F0 ds=some (pre,hs)->pre ()->abz Tryz.prog n ds hs
abbrev eo (n:FuncId)(e:EO):Prop:=∀ ds pre res,e F0 ds=some (pre,res)->pre ()->GX Tryz.prog n ds res
def hL {α:Type}(l:ay)(k:af->af->af->Int->af->af->af->af->af->af->af->af->Int->af->Int->Int->Int->Int->Bool->Int->Int->af->Int->Int->α):Option α:=match l with
 |[.s 1 a0,.s 1 a1,.s 2 a2,.v (.int Za a3),.s 1 a4,.s 2 a5,.s 3 a6,.s 3 a7,.s 4 a8,.s 1 a9,.s 1 aA,.s 1 aB,.v (.int Za aC),.s 3 aD,.v (.int Za aE),.v (.int Za aF),.v (.int Za aG),.v (.int Za aH),.v (.bool aI),.v (.int Za aJ),.v (.int Za aK),.s 1 aL,.v (.int Za aM),.v (.int Za aN)]=>some (k a0 a1 a2 a3 a4 a5 a6 a7 a8 a9 aA aB aC aD aE aF aG aH aI aJ aK aL aM aN)
 |_=>none
def hM {α:Type}(l:List H)(k:af->af->af->Int->af->af->af->af->af->af->af->af->Int->af->Int->Int->Int->Int->Bool->Int->Int->af->Int->Int->α):Option α:=match l with
 |[.own (.s 1 a0),.own (.s 1 a1),.own (.s 2 a2),.own (.v (.int Za a3)),.own (.s 1 a4),.own (.s 2 a5),.own (.s 3 a6),.own (.s 3 a7),.own (.s 4 a8),.own (.s 1 a9),.own (.s 1 aA),.own (.s 1 aB),.own (.v (.int Za aC)),.own (.s 3 aD),.own (.v (.int Za aE)),.own (.v (.int Za aF)),.own (.v (.int Za aG)),.own (.v (.int Za aH)),.own (.v (.bool aI)),.own (.v (.int Za aJ)),.own (.v (.int Za aK)),.own (.s 1 aL),.own (.v (.int Za aM)),.own (.v (.int Za aN))]=>some (k a0 a1 a2 a3 a4 a5 a6 a7 a8 a9 aA aB aC aD aE aF aG aH aI aJ aK aL aM aN)
 |_=>none
theorem db {f:FuncId}:∀ ds pre res,(none:Option ((Unit->Prop)×List DV))=some (pre,res)->pre ()->N4 f ds res:=fun _ _ _ h=>by cases h
abbrev nB:cZ:={Φ:=qp,F0:=F0}
abbrev eK (c:qp->CT)(h:abt (c F0)):cZ:={Φ:=qp,F0:=F0,ct:=c,hc:=h}
end Go.V