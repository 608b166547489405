/-
  The functions that contracts name, and what a contract says.
-/
import Derived.Test.YtcbcfelbafccpaaGreatXS16
import Derived.Test.YtcbcfelbafccpaaGreatXH151
set_option linter.all false
open Go
open IntKind renaming i64->Za
namespace Go.V
open Go Go.Proofs
structure wC where
 (l01h lsI qcI zlI rgS:af->Int)
 (bX wI:af->Int->Int->Int)
 (bI obI spI peM peF idxI dnS qtI rhI oiI ofI ctA isI lhI:af->Int->Int)
 (bH clsSz clsOf qnR slN pfN c1N hlK nxS:Int->Int)
 (wX:af->Int->Int->Int->Int)
 (wH hlV cuI cuS wiN xaN xaR:Int->Int->Int)
 (dpl srtL:af->af)
 (inR spOk lgOk rngIn rh1 obD:Int->Int->Int->Bool)
 (eqB mnB slB hsB bmOk pmB:Int->Int->Bool)
 (pagesOn fpg muT huI ctL:af->Int->af)
 (hasB tableOk mgbI qtB rhB oiB mapB nhR clB ctB:af->Int->Bool)
 (ubB dnK dnI dnO:af->af->Int->Int)
 (framesOk layOk mailOk ftB:af->af->Bool)
 (machOk:af->af->af->Bool)
 (fnC fnU tnE mwB mwI:Int->af)
 (mnC mnU mnE frL:Int->Int->af)
 (kerOk ccB:af->af->af->Int->af->Bool)
 (knC knU knE knR:Int->Int->af->af)
 (knB plOk:Int->Int->af->Bool)
 (cnL:af)
 (hnC hnU hnE hnR hnF hnK hnM hnI:Int->Int->Int->Int->af->af)
 (hnQ hnL hnN:Int->Int->Int->Int->af->Int)
 (hnB:Int->Int->Int->Int->af->Bool)
 (saS saO aaI loI ltN ltS ltA ltL:Int->Int->Int->Int->Int)
 (lhB ltB:Int->Int->Int->Int->Bool)
 (iaL ifL ftU:af->af->af)
 (rgOk quarOk:Int->af->Bool)
 (mshB:Int->Int->Int->Int->Int->Int->Bool)
 (stlOk:af->Int->Int->Int->Bool)
 (caOk bgB:af->Bool)
 (jbOk:Int->Int->af->Int->Int->Bool)
 (objOk:af->af->af->af->Int->Bool)
 (hlB:af->af->Int->Int->Bool)
 (hoI:af->af->af->af->af->af->af->Int->Bool)
 (pgI:af->af->af->af->Bool)
 (dfC dfU:af->af->Int->af)
 (ktC ktU:Bool->af->af->Int->af)
 (ktE:Bool->af->Int->af)
 (ktB ctsB:Bool->af->Int->Bool)
 (rpL:Int->af->Int->Int->af)
 (rpB:Int->af->Int->Int->Bool)
 (ftI:af->af->Int)
 (kwU kwE:Bool->af->af->Int->af->Int->af)
 (kqN:Bool->Int->Int)
 (kwB:Bool->af->af->Int->af->Int->Bool)
 (delL tmL tmO:af->Int->Int->af)
 (tkL:Int->af->Int->af)
 (tkA:Int->af->Int->Int)
 (tkB:Int->af->Int->Bool)
 (hpI:af->af->af->Int->af->af->af->af->af->af->af->af->Int->af->Int->Int->Int->Int->Bool->Int->Int->af->Int->Int->Bool)
 (ooI:Bool->af->Int->Int)
 (ldV ldK smM smF:af->af->af->Int->Int)
 (bsB:Bool->Int->Int->Int->Bool)
 (duC duU duE stC:af->af->af->Int->Int->af)
 (inL:af->Int->af->af)
 (xpA xpK xlA:af->af->Int->af->af->Int->Int)
 (xpB:af->af->Int->af->af->Int->Bool)
 (xpC xpU xpE:af->af->af->Int->af->af->Int->af)
 (xpF:af->af->Int->af->af->Int->af)
 (isL:af->Int->Int->Int->af)
 (xcA xcD:af->af->Int->Int->Int)
 (xcB:af->af->Int->Bool)
 (xcS tcC clL:af->af->Int->Int->af)
 (xmA xmK xmD:af->af->af->Int->af->af->af->af->Int->Bool->Int->Int->Int->Int->Int)
 (xmB:af->af->af->Int->af->af->af->af->Int->Bool->Int->Int->Int->Int->Bool)
 (xmC xmU xmE xmF xmS xmX:af->af->af->Int->af->af->af->af->Int->Bool->Int->Int->Int->Int->af)
 (xlL:af->af->Int->af->af->af->Int->af)
 (ifR:Bool->af->af->af)
 (tvB:Bool->Int->af->Int->Int->Bool)
 (tmC tmU tmE:af->af->af->af->Int->Int->af)
 (tmF:af->af->af->af->af->Int->Int->af)
 (xaC xaU xaE xaF xaS xaL xaX:Bool->af->af->af->Int->af->af->af->af->af->Int->Bool->Int->Int->Int->Int->af)
 (xaO:Bool->Int->af->af->Int->Int->Int->Int->Bool)
 (xaK xaA xaD:Bool->af->af->af->Int->af->af->af->af->af->Int->Bool->Int->Int->Int->Int->Int)
 (xaP:af->Int->Int->Int->Int->af)
 (xaG:Bool->Int->af->af->Int->Int->Int->Int->Int)
 (hOk:HV->Bool)
 (hNw:Int->Int->Int->Int->af->HV)
 (hAl hTr hSt:HV->Int->Int->HV)
 (hAA hAR hS1:HV->Int->Int->Int)
 (stK:af->af->af->Int->Int->Int)
 (hsC:Bool->af->af->af->af->Int->Int->af)
 (hsK:Bool->af->af->af->af->Int->Int->Int)
 (hR1:HV->Int->Int->Bool)
 (ctsL:Bool->af->af->af->Int->af)
 (hCL:HV->Int->af)
 (hCB:HV->Int->Bool)
 (hLv hLk:HV->Int->Int)
abbrev F0:wC:=⟨l01h,lsI,qcI,zlI,rgS,bX,wI,bI,obI,spI,peM,peF,idxI,dnS,qtI,rhI,oiI,ofI,ctA,isI,lhI,bH,clsSz,clsOf,qnR,slN,pfN,c1N,hlK,nxS,wX,wH,hlV,cuI,cuS,wiN,xaN,xaR,dpl,srtL,inR,spOk,lgOk,rngIn,rh1,obD,eqB,mnB,slB,hsB,bmOk,pmB,pagesOn,fpg,muT,huI,ctL,hasB,tableOk,mgbI,qtB,rhB,oiB,mapB,nhR,clB,ctB,ubB,dnK,dnI,dnO,framesOk,layOk,mailOk,ftB,machOk,fnC,fnU,tnE,mwB,mwI,mnC,mnU,mnE,frL,kerOk,ccB,knC,knU,knE,knR,knB,plOk,cnL,hnC,hnU,hnE,hnR,hnF,hnK,hnM,hnI,hnQ,hnL,hnN,hnB,saS,saO,aaI,loI,ltN,ltS,ltA,ltL,lhB,ltB,iaL,ifL,ftU,rgOk,quarOk,mshB,stlOk,caOk,bgB,jbOk,objOk,hlB,hoI,pgI,dfC,dfU,ktC,ktU,ktE,ktB,ctsB,rpL,rpB,ftI,kwU,kwE,kqN,kwB,delL,tmL,tmO,tkL,tkA,tkB,hpI,ooI,ldV,ldK,smM,smF,bsB,duC,duU,duE,stC,inL,xpA,xpK,xlA,xpB,xpC,xpU,xpE,xpF,isL,xcA,xcD,xcB,xcS,tcC,clL,xmA,xmK,xmD,xmB,xmC,xmU,xmE,xmF,xmS,xmX,xlL,ifR,tvB,tmC,tmU,tmE,tmF,xaC,xaU,xaE,xaF,xaS,xaL,xaX,xaO,xaK,xaA,xaD,xaP,xaG,HV.hp,hvN,HV.al,HV.tr,HV.st,HV.aQ,HV.aR,HV.st1,stK,hsC,hsK,HV.tr1,ctsL,HV.cL,HV.cB,HV.lv,HV.lk⟩
abbrev Dl (a:Int):Prop:= -9223372036854775808<=a/\a<=9223372036854775807
abbrev EC :=wC->List DV->Option ((Unit->Prop)×List DV)
abbrev EM :=wC->MK
abbrev EP :=wC->PK
abbrev EN :=wC->NK
abbrev EO :=wC->MO
abbrev ec (n:FuncId)(e:EC):Prop:=∀ ds pre res,e F0 ds=some (pre,res)->pre ()->I1 n ds res
abbrev em (n:FuncId)(e:EM):Prop:=∀ ds pre outs res,e F0 ds=some (pre,outs,res)->pre ()->QO n ds outs res
abbrev ep (n:FuncId)(e:EP):Prop:=∀ ds pre outs res,e F0 ds=some (pre,outs,res)->pre ()->QP n ds outs res
abbrev en (n:FuncId)(e:EN):Prop:=∀ ds pre hs,e F0 ds=some (pre,hs)->pre ()->EI Tryz.prog n ds hs
abbrev eo (n:FuncId)(e:EO):Prop:=∀ ds pre res,e F0 ds=some (pre,res)->pre ()->BF Tryz.prog n ds res
def hL {α:Type}(l:ax)(k:af->af->af->Int->af->af->af->af->af->af->af->af->Int->af->Int->Int->Int->Int->Bool->Int->Int->af->Int->Int->α):Option α:=match l with
 |[.s 1 a0,.s 1 a1,.s 2 a2,.v (.int Za a3),.s 1 a4,.s 2 a5,.s 3 a6,.s 3 a7,.s 4 a8,.s 1 a9,.s 1 aA,.s 1 aB,.v (.int Za aC),.s 3 aD,.v (.int Za aE),.v (.int Za aF),.v (.int Za aG),.v (.int Za aH),.v (.bool aI),.v (.int Za aJ),.v (.int Za aK),.s 1 aL,.v (.int Za aM),.v (.int Za aN)]=>some (k a0 a1 a2 a3 a4 a5 a6 a7 a8 a9 aA aB aC aD aE aF aG aH aI aJ aK aL aM aN)
 |_=>none
def hM {α:Type}(l:List H)(k:af->af->af->Int->af->af->af->af->af->af->af->af->Int->af->Int->Int->Int->Int->Bool->Int->Int->af->Int->Int->α):Option α:=match l with
 |[.own (.s 1 a0),.own (.s 1 a1),.own (.s 2 a2),.own (.v (.int Za a3)),.own (.s 1 a4),.own (.s 2 a5),.own (.s 3 a6),.own (.s 3 a7),.own (.s 4 a8),.own (.s 1 a9),.own (.s 1 aA),.own (.s 1 aB),.own (.v (.int Za aC)),.own (.s 3 aD),.own (.v (.int Za aE)),.own (.v (.int Za aF)),.own (.v (.int Za aG)),.own (.v (.int Za aH)),.own (.v (.bool aI)),.own (.v (.int Za aJ)),.own (.v (.int Za aK)),.own (.s 1 aL),.own (.v (.int Za aM)),.own (.v (.int Za aN))]=>some (k a0 a1 a2 a3 a4 a5 a6 a7 a8 a9 aA aB aC aD aE aF aG aH aI aJ aK aL aM aN)
 |_=>none
def dy {f:FuncId}:∀ ds pre res,(none:Option ((Unit->Prop)×List DV))=some (pre,res)->pre ()->I1 f ds res:=fun _ _ _ h=>by cases h
abbrev nB:dq:={Φ:=wC,F0:=F0}
abbrev dP (c:wC->CT)(h:QJ (c F0)):dq:={Φ:=wC,F0:=F0,ct:=c,hc:=h}
end Go.V