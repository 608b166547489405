/-
  The functions that contracts name, and what a contract says.
-/
import Derived.Test.YtpldpilhgjpkjaaGreatZS15
import Derived.Test.YtpldpilhgjpkjaaGreatZHC
set_option linter.all false
open Go
open IntKind renaming i64->Za
noncomputable section
namespace Go.V
open Go Go.Proofs
structure tH where
 (l01h lsI qcI mpT zlI lenI:af->Int)
 (bX wI sqS jsX:af->Int->Int->Int)
 (bI obI spI peM peF idxI dnS qtI rhI oiI ctA isI lhI foT tnI:af->Int->Int)
 (bH clsSz clsOf qnR ctI slN pfN c1N nxS:Int->Int)
 (wX:af->Int->Int->Int->Int)
 (wH cuI cuS shuS woN ckN wiN xaN xaR:Int->Int->Int)
 (dpl srtL:af->af)
 (inR spOk lgOk rngIn rh1 tnP:Int->Int->Int->Bool)
 (eqB mnB slB hsB bmOk pmB:Int->Int->Bool)
 (pagesOn fpg muT huI dsS ctL lgL foO:af->Int->af)
 (hasB tableOk mgbI qtB rhB oiB mapB nhR clB ctB tnB:af->Int->Bool)
 (ubB dnK dnI dnO dzK dzI dzS dzO feI:af->af->Int->Int)
 (framesOk layOk mailOk ftB:af->af->Bool)
 (machOk:af->af->af->Bool)
 (fnC fnU tnE mwB mwI:Int->af)
 (mnC mnU mnE shuL frL:Int->Int->af)
 (kerOk ccB:af->af->af->Int->af->Bool)
 (knC knU knE knR:Int->Int->af->af)
 (knB plOk:Int->Int->af->Bool)
 (cnL:af)
 (hnC hnU hnE hnR hnF hnK hnM hnI:Int->Int->Int->Int->af->af)
 (hnQ hnL hnN:Int->Int->Int->Int->af->Int)
 (hnB:Int->Int->Int->Int->af->Bool)
 (msS iaL ifL ftU:af->af->af)
 (saS saO aaI loI snN:Int->Int->Int->Int->Int)
 (lhB snB:Int->Int->Int->Int->Bool)
 (rgOk quarOk:Int->af->Bool)
 (mshB:Int->Int->Int->Int->Int->Int->Bool)
 (stlOk:af->Int->Int->Int->Bool)
 (caOk bgB:af->Bool)
 (jbOk:Int->Int->af->Int->Int->Bool)
 (objOk:af->af->af->af->Int->Bool)
 (hlB:af->af->Int->Int->Bool)
 (hoI:af->af->af->af->af->af->af->Int->Bool)
 (pgI:af->af->af->af->Bool)
 (dfC dfU:af->af->Int->af)
 (ktC ktU:Bool->af->af->Int->af)
 (ktE:Bool->af->Int->af)
 (ktB fbL:Bool->af->Int->Bool)
 (rpL qeL qeR:Int->af->Int->Int->af)
 (rpB:Int->af->Int->Int->Bool)
 (kqE krE:Bool->af->Int->af->Int->Int->af)
 (kqN ifZ:Bool->Int->Int)
 (kqB krB:Bool->af->Int->af->Int->Int->Bool)
 (krC krU:Bool->af->af->Int->af->Int->Int->af)
 (ftI ufN:af->af->Int)
 (kwU kwE:Bool->af->af->Int->af->Int->af)
 (kwB:Bool->af->af->Int->af->Int->Bool)
 (delL cpLq sqL:af->Int->Int->af)
 (tkL:Int->af->Int->af)
 (tkA:Int->af->Int->Int)
 (tkB:Int->af->Int->Bool)
 (hpI:af->af->af->Int->af->af->af->af->af->af->af->af->Int->af->Int->Int->Int->Int->Bool->Int->Int->af->Int->Int->Bool)
 (sfI ifN:Bool->Int->Int->Int)
 (smM smF:af->af->af->Int->Int)
 (sclL:Int->Int->Int->af)
 (bsB tgB:Bool->Int->Int->Int->Bool)
 (duC duU duE stC:af->af->af->Int->Int->af)
 (dsC dsU dsE lgC lgU lgE:af->af->af->af->Int->af)
 (dsF lgF:af->af->af->af->af->Int->af)
 (fzC fzU fzE fzF fzS:Bool->Int->Int->af->af->af->af->af->Int->af)
 (ifR:Bool->af->af->af)
 (tkC tkU tkE tkF tkS:Bool->Int->Int->af->af->af->af->af->af->af)
 (inL:af->Int->af->af)
 (xpA xpK xlA:af->af->Int->af->af->Int->Int)
 (xpB:af->af->Int->af->af->Int->Bool)
 (xpC xpU xpE:af->af->af->Int->af->af->Int->af)
 (xpF:af->af->Int->af->af->Int->af)
 (isL sdU:af->Int->Int->Int->af)
 (xcA xcD:af->af->Int->Int->Int)
 (xcB htB:af->af->Int->Bool)
 (xcS tcC rcD:af->af->Int->Int->af)
 (xmA xmK xmD:af->af->af->Int->af->af->af->af->Int->Bool->Int->Int->Int->Int->Int)
 (xmB:af->af->af->Int->af->af->af->af->Int->Bool->Int->Int->Int->Int->Bool)
 (xmC xmU xmE xmF xmS xmX:af->af->af->Int->af->af->af->af->Int->Bool->Int->Int->Int->Int->af)
 (xlL:af->af->Int->af->af->af->Int->af)
 (xaC xaU xaE xaF xaS xaL xaX:Bool->af->af->af->Int->af->af->af->af->af->Int->Bool->Int->Int->Int->Int->af)
 (xaO:Bool->Int->af->af->Int->Int->Int->Int->Bool)
 (xaK xaA xaD:Bool->af->af->af->Int->af->af->af->af->af->Int->Bool->Int->Int->Int->Int->Int)
 (xaP:af->Int->Int->Int->Int->af)
 (xaG:Bool->Int->af->af->Int->Int->Int->Int->Int)
 (hOk hM1 hM3 fj2:HV->Bool)
 (hNw:Int->Int->Int->Int->af->HV)
 (hAl hFr:HV->Int->Int->HV)
 (hAA hAR hF1:HV->Int->Int->Int)
 (stK:af->af->af->Int->Int->Int)
 (cpBq:af->Int->Int->Bool)
 (sdL:af->af->Int->Int->Int->af)
 (sdB:af->af->Int->Int->Int->Bool)
 (rcC rcU rcE rcF rcS:Bool->Int->Int->af->af->af->af->af->af->Int->Int->af)
 (qaL qaR:Int->af->Int->Int->Int->af)
 (t0B:Bool->Int->Int->af->Bool)
 (fbP:Bool->af->af->af->af->Int->Int->Bool)
 (fcC:af->af->af->Int->af)
 (fbQ:Bool->af->af->Int->Int->Bool)
 (raC raU raE raF raS raD:Bool->Int->Int->af->af->af->af->af->af->Int->af->af)
 (fqR fqL:af->Int->af->Int->Int->af)
 (hfK:Bool->Int->af->af->af->af->af->af->af->Int->Int->Int)
 (ppK ppM:Int->Int->Int->Int->Int->Int->Int)
 (ppC:Int->Int->Int->Int->Int->Int->af)
 (mtD:Bool->af->af->Int->Int)
 (mtG meB:Bool->Bool->Bool)
 (mtO:Bool->af->af->Int->Bool->Bool)
 (mtJk mtJm mtJ0:Bool->af->af->Int->Int->Int)
 (mtJc:Bool->af->af->Int->af->af)
 (mtB:Bool->af->af->Int->Bool)
 (kdC:Bool->af->af->Int->Int->af->af)
 (kdB:Bool->af->Int->Int->af->Bool)
 (jmB:Bool->af->Int->Int->af->Int->Int->Bool)
 (jsC:af->af->af->Int->af->Int->Int->af->Int->Int->af)
 (jsU:af->af->Int->af->Int->Int->Int->af)
 (jsE:af->Int->af->Int->Int->Int->Int->af)
 (jsN:Int->Int->Int->Int)
 (jsP:af->Int->af->Int->Int->af->Int->Int->Int)
 (mcC mcU mcE:Bool->af->af->af->Int->af->Int->Int->af->Int->Int->af)
 (msB:Bool->Int->Bool->Bool)
 (mcN mphN mqhN:Bool->af->af->af->Int->af->Int->Int->af->Int->Int->Int)
 (moB:Bool->af->af->af->Int->af->Int->Int->af->Int->Int->Bool)
 (hCp hMt hMs fj1:HV->HV)
 (hTk hMa:HV->Int->HV)
 (hT1 hMN:HV->Int->Int)
 (hM2 hSf:HV->Int)
abbrev F0:tH:=⟨l01h,lsI,qcI,mpT,zlI,lenI,bX,wI,sqS,jsX,bI,obI,spI,peM,peF,idxI,dnS,qtI,rhI,oiI,ctA,isI,lhI,foT,tnI,bH,clsSz,clsOf,qnR,ctI,slN,pfN,c1N,nxS,wX,wH,cuI,cuS,shuS,woN,ckN,wiN,xaN,xaR,dpl,srtL,inR,spOk,lgOk,rngIn,rh1,tnP,eqB,mnB,slB,hsB,bmOk,pmB,pagesOn,fpg,muT,huI,dsS,ctL,lgL,foO,hasB,tableOk,mgbI,qtB,rhB,oiB,mapB,nhR,clB,ctB,tnB,ubB,dnK,dnI,dnO,dzK,dzI,dzS,dzO,feI,framesOk,layOk,mailOk,ftB,machOk,fnC,fnU,tnE,mwB,mwI,mnC,mnU,mnE,shuL,frL,kerOk,ccB,knC,knU,knE,knR,knB,plOk,cnL,hnC,hnU,hnE,hnR,hnF,hnK,hnM,hnI,hnQ,hnL,hnN,hnB,msS,iaL,ifL,ftU,saS,saO,aaI,loI,snN,lhB,snB,rgOk,quarOk,mshB,stlOk,caOk,bgB,jbOk,objOk,hlB,hoI,pgI,dfC,dfU,ktC,ktU,ktE,ktB,fbL,rpL,qeL,qeR,rpB,kqE,krE,kqN,ifZ,kqB,krB,krC,krU,ftI,ufN,kwU,kwE,kwB,delL,H0,sqL,tkL,tkA,tkB,hpI,sfI,ifN,smM,smF,sclL,bsB,tgB,duC,duU,duE,stC,dsC,dsU,dsE,lgC,lgU,lgE,dsF,lgF,fzC,fzU,fzE,fzF,fzS,ifR,tkC,tkU,tkE,tkF,tkS,inL,xpA,xpK,xlA,xpB,xpC,xpU,xpE,xpF,isL,sdU,xcA,xcD,xcB,htB,xcS,tcC,rcD,xmA,xmK,xmD,xmB,xmC,xmU,xmE,xmF,xmS,xmX,xlL,xaC,xaU,xaE,xaF,xaS,xaL,xaX,xaO,xaK,xaA,xaD,xaP,xaG,HV.hp,HV.mt1,HV.ms2,EY 100,hvN,HV.al,HV.fr,HV.aQ,HV.aR,HV.fr1,stK,qK,sdL,sdB,rcC,rcU,rcE,rcF,rcS,qaL,qaR,t0B,fbP,fcC,fbQ,raC,raU,raE,raF,raS,raD,fqR,fqL,hfK,ppK,ppM,ppC,mtD,mtG,meB,mtO,mtJk,mtJm,mtJ0,mtJc,mtB,kdC,kdB,jmB,jsC,jsU,jsE,jsN,jsP,mcC,mcU,mcE,msB,mcN,mphN,mqhN,moB,HV.cp,HV.mt,HV.ms,Bi 100,HV.tk,HV.ma,HV.tk1,HV.ma1,HV.ms1,HV.sf⟩
abbrev zk (a:Int):Prop:= -9223372036854775808<=a/\a<=9223372036854775807
abbrev EC :=tH->List DV->Option ((Unit->Prop)×List DV)
abbrev EM :=tH->MK
abbrev EP :=tH->PK
abbrev EN :=tH->NK
abbrev EO :=tH->RG
abbrev ec (n:FuncId)(e:EC):Prop:=∀ ds pre res,e F0 ds=some (pre,res)->pre ()->MF n ds res
abbrev em (n:FuncId)(e:EM):Prop:=∀ ds pre outs res,e F0 ds=some (pre,outs,res)->pre ()->abV n ds outs res
abbrev ep (n:FuncId)(e:EP):Prop:=∀ ds pre outs res,e F0 ds=some (pre,outs,res)->pre ()->abW n ds outs res
abbrev en (n:FuncId)(e:EN):Prop:=∀ ds pre hs,e F0 ds=some (pre,hs)->pre ()->HW Tryz.prog n ds hs
abbrev eo (n:FuncId)(e:EO):Prop:=∀ ds pre res,e F0 ds=some (pre,res)->pre ()->AU Tryz.prog n ds res
def hL {α:Type}(l:aT)(k:af->af->af->Int->af->af->af->af->af->af->af->af->Int->af->Int->Int->Int->Int->Bool->Int->Int->af->Int->Int->α):Option α:=match l with
 |[.s 1 a0,.s 1 a1,.s 2 a2,.v (.int Za a3),.s 1 a4,.s 2 a5,.s 3 a6,.s 3 a7,.s 4 a8,.s 1 a9,.s 1 aA,.s 1 aB,.v (.int Za aC),.s 3 aD,.v (.int Za aE),.v (.int Za aF),.v (.int Za aG),.v (.int Za aH),.v (.bool aI),.v (.int Za aJ),.v (.int Za aK),.s 1 aL,.v (.int Za aM),.v (.int Za aN)]=>some (k a0 a1 a2 a3 a4 a5 a6 a7 a8 a9 aA aB aC aD aE aF aG aH aI aJ aK aL aM aN)
 |_=>none
def hM {α:Type}(l:List H)(k:af->af->af->Int->af->af->af->af->af->af->af->af->Int->af->Int->Int->Int->Int->Bool->Int->Int->af->Int->Int->α):Option α:=match l with
 |[.own (.s 1 a0),.own (.s 1 a1),.own (.s 2 a2),.own (.v (.int Za a3)),.own (.s 1 a4),.own (.s 2 a5),.own (.s 3 a6),.own (.s 3 a7),.own (.s 4 a8),.own (.s 1 a9),.own (.s 1 aA),.own (.s 1 aB),.own (.v (.int Za aC)),.own (.s 3 aD),.own (.v (.int Za aE)),.own (.v (.int Za aF)),.own (.v (.int Za aG)),.own (.v (.int Za aH)),.own (.v (.bool aI)),.own (.v (.int Za aJ)),.own (.v (.int Za aK)),.own (.s 1 aL),.own (.v (.int Za aM)),.own (.v (.int Za aN))]=>some (k a0 a1 a2 a3 a4 a5 a6 a7 a8 a9 aA aB aC aD aE aF aG aH aI aJ aK aL aM aN)
 |_=>none
def dp {f:FuncId}:∀ ds pre res,(none:Option ((Unit->Prop)×List DV))=some (pre,res)->pre ()->MF f ds res:=fun _ _ _ h=>by cases h
abbrev nB:di:={Φ:=tH,F0:=F0}
abbrev dH (c:tH->CT)(h:abU (c F0)):di:={Φ:=tH,F0:=F0,ct:=c,hc:=h}
end Go.V