/-
  The functions that contracts name, and what a contract says.
-/
import Derived.Test.YtpldpilhgjpkjaaGreatS15
import Derived.Test.YtpldpilhgjpkjaaGreatHB
set_option linter.all false
open Go
open IntKind renaming i64->Za
namespace Go.V
open Go Go.Proofs
structure wV where
 l01h:af->Int
 bX:af->Int->Int->Int
 bI:af->Int->Int
 bH:Int->Int
 wX:af->Int->Int->Int->Int
 wI:af->Int->Int->Int
 wH:Int->Int->Int
 dpl:af->af
 inR:Int->Int->Int->Bool
 clsSz:Int->Int
 clsOf:Int->Int
 lsI:af->Int
 obI:af->Int->Int
 spI:af->Int->Int
 waI:Int->Int
 eqB:Int->Int->Bool
 pagesOn:af->Int->af
 peM:af->Int->Int
 peF:af->Int->Int
 fpg:af->Int->af
 idxI:af->Int->Int
 hasB:af->Int->Bool
 ubB:af->af->Int->Int
 framesOk:af->af->Bool
 tableOk:af->Int->Bool
 machOk:af->af->af->Bool
 fnC:Int->af
 fnU:Int->af
 tnE:Int->af
 mnC:Int->Int->af
 mnU:Int->Int->af
 mnE:Int->Int->af
 mnB:Int->Int->Bool
 kerOk:af->af->af->Int->af->Bool
 knC:Int->Int->af->af
 knU:Int->Int->af->af
 knE:Int->Int->af->af
 knR:Int->Int->af->af
 knB:Int->Int->af->Bool
 mwB:Int->af
 mwI:Int->af
 qnR:Int->Int
 cnL:af
 hnC:Int->Int->Int->Int->af->af
 hnU:Int->Int->Int->Int->af->af
 hnE:Int->Int->Int->Int->af->af
 hnR:Int->Int->Int->Int->af->af
 hnF:Int->Int->Int->Int->af->af
 hnK:Int->Int->Int->Int->af->af
 hnM:Int->Int->Int->Int->af->af
 hnI:Int->Int->Int->Int->af->af
 hnQ:Int->Int->Int->Int->af->Int
 hnL:Int->Int->Int->Int->af->Int
 hnN:Int->Int->Int->Int->af->Int
 hnB:Int->Int->Int->Int->af->Bool
 slB:Int->Int->Bool
 hsB:Int->Int->Bool
 ctI:Int->Int
 msS:af->af->af
 slN:Int->Int
 bmOk:Int->Int->Bool
 spOk:Int->Int->Int->Bool
 pfN:Int->Int
 lgOk:Int->Int->Int->Bool
 saS:Int->Int->Int->Int->Int
 saO:Int->Int->Int->Int->Int
 aaI:Int->Int->Int->Int->Int
 lhB:Int->Int->Int->Int->Bool
 loI:Int->Int->Int->Int->Int
 layOk:af->af->Bool
 mgbI:af->Int->Bool
 muT:af->Int->af
 dnK:af->af->Int->Int
 dnI:af->af->Int->Int
 dnS:af->Int->Int
 dnO:af->af->Int->Int
 dzK:af->af->Int->Int
 dzI:af->af->Int->Int
 dzS:af->af->Int->Int
 dzO:af->af->Int->Int
 laL:af->af->af
 srtL:af->af
 iaL:af->af->af
 qtI:af->Int->Int
 qtB:af->Int->Bool
 mailOk:af->af->Bool
 ifL:af->af->af
 rngIn:Int->Int->Int->Bool
 rgOk:Int->af->Bool
 rh1:Int->Int->Int->Bool
 rhI:af->Int->Int
 rhB:af->Int->Bool
 mshB:Int->Int->Int->Int->Int->Int->Bool
 qcI:af->Int
 stlOk:af->Int->Int->Int->Bool
 staB:Int->Int->Int->Bool
 quarOk:Int->af->Bool
 caOk:af->Bool
 plOk:Int->Int->af->Bool
 jbOk:Int->Int->af->Int->Int->Bool
 oiI:af->Int->Int
 oiB:af->Int->Bool
 objOk:af->af->af->af->Int->Bool
 hlB:af->af->Int->Int->Bool
 huI:af->Int->af
 hoI:af->af->af->af->af->af->af->Int->Bool
 hoS:af->af->af->af->af->af->af->Bool
 mapB:af->Int->Bool
 pgI:af->af->af->af->Bool
 pgS:af->af->af->af->Bool
 smS:af->af->Bool
 ccB:af->af->af->Int->af->Bool
 dfC:af->af->Int->af
 dfU:af->af->Int->af
 ktC:Bool->af->af->Int->af
 ktU:Bool->af->af->Int->af
 ktE:Bool->af->Int->af
 ktB:Bool->af->Int->Bool
 rpL:Int->af->Int->Int->af
 rpB:Int->af->Int->Int->Bool
 c1N:Int->Int
 nhR:af->Int->Bool
 kqE:Bool->af->Int->af->Int->Int->af
 kqN:Bool->Int->Int
 kqB:Bool->af->Int->af->Int->Int->Bool
 kpB:af->Int->af->Int->Int->Bool
 kpE:af->Int->af->Int->Int->af
 krC:Bool->af->af->Int->af->Int->Int->af
 krU:Bool->af->af->Int->af->Int->Int->af
 krE:Bool->af->Int->af->Int->Int->af
 krB:Bool->af->Int->af->Int->Int->Bool
 QI:af->Int->af->Int->Int->Bool
 koC:af->af->Int->af->Int->Int->af
 koU:af->af->Int->af->Int->Int->af
 koE:af->Int->af->Int->Int->af
 ftU:af->af->af
 ftI:af->af->Int
 ftB:af->af->Bool
 kwU:Bool->af->af->Int->af->Int->af
 kwE:Bool->af->af->Int->af->Int->af
 kwB:Bool->af->af->Int->af->Int->Bool
 delL:af->Int->Int->af
 tkL:Int->af->Int->af
 tkA:Int->af->Int->Int
 tkB:Int->af->Int->Bool
 hpI:af->af->af->Int->af->af->af->af->af->af->af->af->Int->af->Int->Int->Int->Int->Bool->Int->Int->af->Int->Int->Bool
 jobZ:Int->Int->af->Int->Int->Bool
 obD:Int->Int->Int->Bool
 ofI:af->Int->Int
 ooI:Bool->af->Int->Int
 mpT:af->Int
 ufN:af->af->Int
 ldV:af->af->af->Int->Int
 ldK:af->af->af->Int->Int
 sfI:Bool->Int->Int->Int
 hlV:Int->Int->Int
 hlK:Int->Int
 FE:af->Int->Int
 Jz:af->Int->Int
 HS:Int->Int
 smM:af->af->af->Int->Int
 smF:af->af->af->Int->Int
 zlI:af->Int
 PW:Int->Int->Int->af
 nxS:Int->Int
 cuI:Int->Int->Int
 cuS:Int->Int->Int
 aaY:Int->Int->af
 aaZ:Int->Int->Int
 bsB:Bool->Int->Int->Int->Bool
 mb:af->af->af->Int->Int->af
 AJ:af->af->af->Int->Int->af
 xu:af->af->af->Int->Int->af
 dsC:af->af->af->af->Int->af
 dsU:af->af->af->af->Int->af
 dsE:af->af->af->af->Int->af
 dsF:af->af->af->af->af->Int->af
 dsS:af->Int->af
 woN:Int->Int->Int
 snN:Int->Int->Int->Int->Int
 snB:Int->Int->Int->Int->Bool
 qeL:Int->af->Int->Int->af
 QM:Int->af->Int->Int->af
 fzC:Bool->Int->Int->af->af->af->af->af->Int->af
 fzU:Bool->Int->Int->af->af->af->af->af->Int->af
 fzE:Bool->Int->Int->af->af->af->af->af->Int->af
 fzF:Bool->Int->Int->af->af->af->af->af->Int->af
 fzS:Bool->Int->Int->af->af->af->af->af->Int->af
 Oz:Bool->af->af->af
 tgB:Bool->Int->Int->Int->Bool
 tkC:Bool->Int->Int->af->af->af->af->af->af->af
 J8:Int->Int->Int
 tkU:Bool->Int->Int->af->af->af->af->af->af->af
 tkE:Bool->Int->Int->af->af->af->af->af->af->af
 tkF:Bool->Int->Int->af->af->af->af->af->af->af
 tkS:Bool->Int->Int->af->af->af->af->af->af->af
 ifN:Bool->Int->Int->Int
 Tc:af->Int
 clB:af->Int->Bool
 t0B:Bool->Int->Int->af->Bool
 wiN:Int->Int->Int
 frL:Int->Int->af
 ctL:af->Int->af
 ctA:af->Int->Int
 ctB:af->Int->Bool
 inL:af->Int->af->af
 xpA:af->af->Int->af->af->Int->Int
 xpB:af->af->Int->af->af->Int->Bool
 xpC:af->af->af->Int->af->af->Int->af
 xpU:af->af->af->Int->af->af->Int->af
 xpE:af->af->af->Int->af->af->Int->af
 xpK:af->af->Int->af->af->Int->Int
 xpF:af->af->Int->af->af->Int->af
 isI:af->Int->Int
 isL:af->Int->Int->Int->af
 xcA:af->af->Int->Int->Int
 xcB:af->af->Int->Bool
 xcS:af->af->Int->Int->af
 xcD:af->af->Int->Int->Int
 xmA:af->af->af->Int->af->af->af->af->Int->Bool->Int->Int->Int->Int->Int
 xmB:af->af->af->Int->af->af->af->af->Int->Bool->Int->Int->Int->Int->Bool
 xmC:af->af->af->Int->af->af->af->af->Int->Bool->Int->Int->Int->Int->af
 xmU:af->af->af->Int->af->af->af->af->Int->Bool->Int->Int->Int->Int->af
 xmE:af->af->af->Int->af->af->af->af->Int->Bool->Int->Int->Int->Int->af
 xmK:af->af->af->Int->af->af->af->af->Int->Bool->Int->Int->Int->Int->Int
 xmF:af->af->af->Int->af->af->af->af->Int->Bool->Int->Int->Int->Int->af
 xmS:af->af->af->Int->af->af->af->af->Int->Bool->Int->Int->Int->Int->af
 xmX:af->af->af->Int->af->af->af->af->Int->Bool->Int->Int->Int->Int->af
 xmD:af->af->af->Int->af->af->af->af->Int->Bool->Int->Int->Int->Int->Int
 xlA:af->af->Int->af->af->Int->Int
 xlL:af->af->Int->af->af->af->Int->af
 tcC:af->af->Int->Int->af
 xaC:Bool->af->af->af->Int->af->af->af->af->af->Int->Bool->Int->Int->Int->Int->af
 xaO:Bool->Int->af->af->Int->Int->Int->Int->Bool
 xaU:Bool->af->af->af->Int->af->af->af->af->af->Int->Bool->Int->Int->Int->Int->af
 xaE:Bool->af->af->af->Int->af->af->af->af->af->Int->Bool->Int->Int->Int->Int->af
 xaK:Bool->af->af->af->Int->af->af->af->af->af->Int->Bool->Int->Int->Int->Int->Int
 xaF:Bool->af->af->af->Int->af->af->af->af->af->Int->Bool->Int->Int->Int->Int->af
 xaS:Bool->af->af->af->Int->af->af->af->af->af->Int->Bool->Int->Int->Int->Int->af
 xaL:Bool->af->af->af->Int->af->af->af->af->af->Int->Bool->Int->Int->Int->Int->af
 xaP:af->Int->Int->Int->Int->af
 xaA:Bool->af->af->af->Int->af->af->af->af->af->Int->Bool->Int->Int->Int->Int->Int
 xaX:Bool->af->af->af->Int->af->af->af->af->af->Int->Bool->Int->Int->Int->Int->af
 xaD:Bool->af->af->af->Int->af->af->af->af->af->Int->Bool->Int->Int->Int->Int->Int
 xaN:Int->Int->Int
 xaR:Int->Int->Int
 xaG:Bool->Int->af->af->Int->Int->Int->Int->Int
 stC:af->af->af->Int->Int->af
 stK:af->af->af->Int->Int->Int
 hsC:Bool->af->af->af->af->Int->Int->af
 hsK:Bool->af->af->af->af->Int->Int->Int
 bgB:af->Bool
abbrev F0:wV:=⟨l01h,bX,bI,bH,wX,wI,wH,dpl,inR,clsSz,clsOf,lsI,obI,spI,waI,eqB,pagesOn,peM,peF,fpg,idxI,hasB,ubB,framesOk,tableOk,machOk,fnC,fnU,tnE,mnC,mnU,mnE,mnB,kerOk,knC,knU,knE,knR,knB,mwB,mwI,qnR,cnL,hnC,hnU,hnE,hnR,hnF,hnK,hnM,hnI,hnQ,hnL,hnN,hnB,slB,hsB,ctI,msS,slN,bmOk,spOk,pfN,lgOk,saS,saO,aaI,lhB,loI,layOk,mgbI,muT,dnK,dnI,dnS,dnO,dzK,dzI,dzS,dzO,laL,srtL,iaL,qtI,qtB,mailOk,ifL,rngIn,rgOk,rh1,rhI,rhB,mshB,qcI,stlOk,staB,quarOk,caOk,plOk,jbOk,oiI,oiB,objOk,hlB,huI,hoI,hoS,mapB,pgI,pgS,smS,ccB,dfC,dfU,ktC,ktU,ktE,ktB,rpL,rpB,c1N,nhR,kqE,kqN,kqB,kpB,kpE,krC,krU,krE,krB,QI,koC,koU,koE,ftU,ftI,ftB,kwU,kwE,kwB,delL,tkL,tkA,tkB,hpI,jobZ,obD,ofI,ooI,mpT,ufN,ldV,ldK,sfI,hlV,hlK,FE,Jz,HS,smM,smF,zlI,PW,nxS,cuI,cuS,aaY,aaZ,bsB,mb,AJ,xu,dsC,dsU,dsE,dsF,dsS,woN,snN,snB,qeL,QM,fzC,fzU,fzE,fzF,fzS,Oz,tgB,tkC,J8,tkU,tkE,tkF,tkS,ifN,Tc,clB,t0B,wiN,frL,ctL,ctA,ctB,inL,xpA,xpB,xpC,xpU,xpE,xpK,xpF,isI,isL,xcA,xcB,xcS,xcD,xmA,xmB,xmC,xmU,xmE,xmK,xmF,xmS,xmX,xmD,xlA,xlL,tcC,xaC,xaO,xaU,xaE,xaK,xaF,xaS,xaL,xaP,xaA,xaX,xaD,xaN,xaR,xaG,stC,stK,hsC,hsK,bgB⟩
abbrev Gi (a:Int):Prop:= -9223372036854775808<=a/\a<=9223372036854775807
abbrev EC :=wV->List DV->Option ((Unit->Prop)×List DV)
abbrev EM :=wV->MK
abbrev EP :=wV->PK
abbrev EN :=wV->NK
abbrev EO :=wV->Nt
abbrev ec (n:FuncId)(e:EC):Prop:=∀ ds pre res,e F0 ds=some (pre,res)->pre ()->Nm n ds res
abbrev em (n:FuncId)(e:EM):Prop:=∀ ds pre outs res,e F0 ds=some (pre,outs,res)->pre ()->QU n ds outs res
abbrev ep (n:FuncId)(e:EP):Prop:=∀ ds pre outs res,e F0 ds=some (pre,outs,res)->pre ()->QV n ds outs res
abbrev en (n:FuncId)(e:EN):Prop:=∀ ds pre hs,e F0 ds=some (pre,hs)->pre ()->Fc Tryz.prog n ds hs
abbrev eo (n:FuncId)(e:EO):Prop:=∀ ds pre res,e F0 ds=some (pre,res)->pre ()->B5 Tryz.prog n ds res
def hL {α:Type}(l:aO)(k:af->af->af->Int->af->af->af->af->af->af->af->af->Int->af->Int->Int->Int->Int->Bool->Int->Int->af->Int->Int->α):Option α:=match l with
 |[.s 1 a0,.s 1 a1,.s 2 a2,.v (.int Za a3),.s 1 a4,.s 2 a5,.s 3 a6,.s 3 a7,.s 4 a8,.s 1 a9,.s 1 aA,.s 1 aB,.v (.int Za aC),.s 3 aD,.v (.int Za aE),.v (.int Za aF),.v (.int Za aG),.v (.int Za aH),.v (.bool aI),.v (.int Za aJ),.v (.int Za aK),.s 1 aL,.v (.int Za aM),.v (.int Za aN)]=>some (k a0 a1 a2 a3 a4 a5 a6 a7 a8 a9 aA aB aC aD aE aF aG aH aI aJ aK aL aM aN)
 |_=>none
def hM {α:Type}(l:List H)(k:af->af->af->Int->af->af->af->af->af->af->af->af->Int->af->Int->Int->Int->Int->Bool->Int->Int->af->Int->Int->α):Option α:=match l with
 |[.own (.s 1 a0),.own (.s 1 a1),.own (.s 2 a2),.own (.v (.int Za a3)),.own (.s 1 a4),.own (.s 2 a5),.own (.s 3 a6),.own (.s 3 a7),.own (.s 4 a8),.own (.s 1 a9),.own (.s 1 aA),.own (.s 1 aB),.own (.v (.int Za aC)),.own (.s 3 aD),.own (.v (.int Za aE)),.own (.v (.int Za aF)),.own (.v (.int Za aG)),.own (.v (.int Za aH)),.own (.v (.bool aI)),.own (.v (.int Za aJ)),.own (.v (.int Za aK)),.own (.s 1 aL),.own (.v (.int Za aM)),.own (.v (.int Za aN))]=>some (k a0 a1 a2 a3 a4 a5 a6 a7 a8 a9 aA aB aC aD aE aF aG aH aI aJ aK aL aM aN)
 |_=>none
theorem dI {f:FuncId}:∀ ds pre res,(none:Option ((Unit->Prop)×List DV))=some (pre,res)->pre ()->Nm f ds res:=fun _ _ _ h=>by cases h
abbrev nB:dB:={Φ:=wV,F0:=F0}
abbrev eg (c:wV->CT)(h:QQ (c F0)):dB:={Φ:=wV,F0:=F0,ct:=c,hc:=h}
end Go.V