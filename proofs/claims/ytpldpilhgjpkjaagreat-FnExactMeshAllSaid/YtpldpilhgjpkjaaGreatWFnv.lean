/-
  The functions that contracts name, and what a contract says.
-/
import Derived.Test.YtpldpilhgjpkjaaGreatWS15
import Derived.Test.YtpldpilhgjpkjaaGreatWHC
set_option linter.all false
open Go
open IntKind renaming i64->Za
namespace Go.V
open Go Go.Proofs
structure sF where
 (szN kN:List ab->Int->Int)
 (mkN pagesOn fpg muT huI:ab->Int->ab)
 (inR spOk lgOk rngIn rh1 staB tnP:Int->Int->Int->Bool)
 (clsSz clsOf ctI slN pfN leK nxS c1N:Int->Int)
 (spI peM peF idxI dnS qtI rhI oiI leM leF tnI:ab->Int->Int)
 (eqB slB hsB bmOk:Int->Int->Bool)
 (hasB mgbI qtB rhB oiB mapB tableOk tnB nhR:ab->Int->Bool)
 (msS laL iaL ifL:ab->ab->ab)
 (saS saO aaI loI:Int->Int->Int->Int->Int)
 (lhB:Int->Int->Int->Int->Bool)
 (layOk mailOk smS framesOk:ab->ab->Bool)
 (dnK dnI dnO dzK dzI dzS dzO:ab->ab->Int->Int)
 (srtL:ab->ab)
 (rgOk quarOk:Int->ab->Bool)
 (mshB:Int->Int->Int->Int->Int->Int->Bool)
 (qcI:ab->Int)
 (stlOk:ab->Int->Int->Int->Bool)
 (caOk:ab->Bool)
 (plOk:Int->Int->ab->Bool)
 (jbOk jobZ:Int->Int->ab->Int->Int->Bool)
 (objOk:ab->ab->ab->ab->Int->Bool)
 (hlB:ab->ab->Int->Int->Bool)
 (hoI:ab->ab->ab->ab->ab->ab->ab->Int->Bool)
 (hoS:ab->ab->ab->ab->ab->ab->ab->Bool)
 (pgI pgS:ab->ab->ab->ab->Bool)
 (machOk:ab->ab->ab->Bool)
 (kerOk ccB:ab->ab->ab->Int->ab->Bool)
 (hpI:ab->ab->ab->Int->ab->ab->ab->ab->ab->ab->ab->ab->Int->ab->Int->Int->Int->Int->Bool->Int->Int->ab->Int->Int->Bool)
 (smM smF:ab->ab->ab->Int->Int)
 (sclL:Int->Int->Int->ab)
 (cuI cuS shuS:Int->Int->Int)
 (shuL:Int->Int->ab)
 (ppK ppM:Int->Int->Int->Int->Int->Int->Int)
 (ppC:Int->Int->Int->Int->Int->Int->ab)
 (ifZ kqN:Bool->Int->Int)
 (ifR:Bool->ab->ab->ab)
 (sqL:ab->Int->Int->ab)
 (sqS jsX:ab->Int->Int->Int)
 (mtD:Bool->ab->ab->Int->Int)
 (mtG meB:Bool->Bool->Bool)
 (mtO:Bool->ab->ab->Int->Bool->Bool)
 (mtJk mtJm mtJ0:Bool->ab->ab->Int->Int->Int)
 (mtJc:Bool->ab->ab->Int->ab->ab)
 (mtB:Bool->ab->ab->Int->Bool)
 (dfC dfU:ab->ab->Int->ab)
 (kqE krE:Bool->ab->Int->ab->Int->Int->ab)
 (kqB krB:Bool->ab->Int->ab->Int->Int->Bool)
 (kpB koB:ab->Int->ab->Int->Int->Bool)
 (kpE koE:ab->Int->ab->Int->Int->ab)
 (krC krU:Bool->ab->ab->Int->ab->Int->Int->ab)
 (koC koU:ab->ab->Int->ab->Int->Int->ab)
 (kdC:Bool->ab->ab->Int->Int->ab->ab)
 (kdB:Bool->ab->Int->Int->ab->Bool)
 (kcB:ab->Int->Int->ab->Bool)
 (kcC:ab->ab->Int->Int->ab->ab)
 (stC:ab->ab->ab->Int->Int->ab)
 (stK:ab->ab->ab->Int->Int->Int)
 (jmB:Bool->ab->Int->Int->ab->Int->Int->Bool)
 (jsC:ab->ab->ab->Int->ab->Int->Int->ab->Int->Int->ab)
 (jsU:ab->ab->Int->ab->Int->Int->Int->ab)
 (jsE:ab->Int->ab->Int->Int->Int->Int->ab)
 (ifN:Bool->Int->Int->Int)
 (jsN:Int->Int->Int->Int)
 (jsP:ab->Int->ab->Int->Int->ab->Int->Int->Int)
 (ovB mdB:Int->Bool)
 (mcC mcU mcE:Bool->ab->ab->ab->Int->ab->Int->Int->ab->Int->Int->ab)
 (msB:Bool->Int->Bool->Bool)
 (mcN mphN mqhN:Bool->ab->ab->ab->Int->ab->Int->Int->ab->Int->Int->Int)
 (moB:Bool->ab->ab->ab->Int->ab->Int->Int->ab->Int->Int->Bool)
 (hCp hMt hMs fj1 hMq hMu:HV->HV)
 (hOk hM1 hM3 fj2 hMQ hMU:HV->Bool)
 (hM2 fjN:HV->Int)
 (hMa:HV->Int->HV)
 (hMN:HV->Int->Int)
abbrev F0:sF:=⟨dF,bj,dL,pagesOn,fpg,muT,huI,inR,spOk,lgOk,rngIn,rh1,staB,tnP,clsSz,clsOf,ctI,slN,pfN,leK,nxS,c1N,spI,peM,peF,idxI,dnS,qtI,rhI,oiI,leM,leF,tnI,eqB,slB,hsB,bmOk,hasB,mgbI,qtB,rhB,oiB,mapB,tableOk,tnB,nhR,msS,laL,iaL,ifL,saS,saO,aaI,loI,lhB,layOk,mailOk,smS,framesOk,dnK,dnI,dnO,dzK,dzI,dzS,dzO,srtL,rgOk,quarOk,mshB,qcI,stlOk,caOk,plOk,jbOk,jobZ,objOk,hlB,hoI,hoS,pgI,pgS,machOk,kerOk,ccB,hpI,smM,smF,sclL,cuI,cuS,shuS,shuL,ppK,ppM,ppC,ifZ,kqN,ifR,sqL,sqS,jsX,mtD,mtG,meB,mtO,mtJk,mtJm,mtJ0,mtJc,mtB,dfC,dfU,kqE,krE,kqB,krB,kpB,koB,kpE,koE,krC,krU,koC,koU,kdC,kdB,kcB,kcC,stC,stK,jmB,jsC,jsU,jsE,ifN,jsN,jsP,wq,mdB,mcC,mcU,mcE,msB,mcN,mphN,mqhN,moB,HV.cp,HV.mt,HV.ms,uD 100,HV.mq,HV.mu,HV.hp,HV.mt1,HV.ms2,zf 100,HV.mq1,HV.mu1,HV.ms1,fjN,HV.ma,HV.ma1⟩
abbrev I64 (a:Int):Prop:= -9223372036854775808<=a/\a<=9223372036854775807
abbrev EC :=sF->List DV->Option ((Unit->Prop)×List DV)
abbrev EM :=sF->MK
abbrev EP :=sF->PK
abbrev EN :=sF->NK
abbrev EO :=sF->OK'
abbrev ec (n:FuncId)(e:EC):Prop:=∀ ds pre res,e F0 ds=some (pre,res)->pre ()->O9 n ds res
abbrev em (n:FuncId)(e:EM):Prop:=∀ ds pre outs res,e F0 ds=some (pre,outs,res)->pre ()->acD n ds outs res
abbrev ep (n:FuncId)(e:EP):Prop:=∀ ds pre outs res,e F0 ds=some (pre,outs,res)->pre ()->acH n ds outs res
abbrev en (n:FuncId)(e:EN):Prop:=∀ ds pre hs,e F0 ds=some (pre,hs)->pre ()->acG Tryz.prog n ds hs
abbrev eo (n:FuncId)(e:EO):Prop:=∀ ds pre res,e F0 ds=some (pre,res)->pre ()->KT Tryz.prog n ds res
def hL {α:Type}(l:ax)(k:ab->ab->ab->Int->ab->ab->ab->ab->ab->ab->ab->ab->Int->ab->Int->Int->Int->Int->Bool->Int->Int->ab->Int->Int->α):Option α:=match l with
 |[.s 1 a0,.s 1 a1,.s 2 a2,.v (.int Za a3),.s 1 a4,.s 2 a5,.s 3 a6,.s 3 a7,.s 4 a8,.s 1 a9,.s 1 aA,.s 1 aB,.v (.int Za aC),.s 3 aD,.v (.int Za aE),.v (.int Za aF),.v (.int Za aG),.v (.int Za aH),.v (.bool aI),.v (.int Za aJ),.v (.int Za aK),.s 1 aL,.v (.int Za aM),.v (.int Za aN)]=>some (k a0 a1 a2 a3 a4 a5 a6 a7 a8 a9 aA aB aC aD aE aF aG aH aI aJ aK aL aM aN)
 |_=>none
def hM {α:Type}(l:List H)(k:ab->ab->ab->Int->ab->ab->ab->ab->ab->ab->ab->ab->Int->ab->Int->Int->Int->Int->Bool->Int->Int->ab->Int->Int->α):Option α:=match l with
 |[.own (.s 1 a0),.own (.s 1 a1),.own (.s 2 a2),.own (.v (.int Za a3)),.own (.s 1 a4),.own (.s 2 a5),.own (.s 3 a6),.own (.s 3 a7),.own (.s 4 a8),.own (.s 1 a9),.own (.s 1 aA),.own (.s 1 aB),.own (.v (.int Za aC)),.own (.s 3 aD),.own (.v (.int Za aE)),.own (.v (.int Za aF)),.own (.v (.int Za aG)),.own (.v (.int Za aH)),.own (.v (.bool aI)),.own (.v (.int Za aJ)),.own (.v (.int Za aK)),.own (.s 1 aL),.own (.v (.int Za aM)),.own (.v (.int Za aN))]=>some (k a0 a1 a2 a3 a4 a5 a6 a7 a8 a9 aA aB aC aD aE aF aG aH aI aJ aK aL aM aN)
 |_=>none
def cX {f:FuncId}:∀ ds pre res,(none:Option ((Unit->Prop)×List DV))=some (pre,res)->pre ()->O9 f ds res:=fun _ _ _ h=>by cases h
abbrev nB:cT:={Φ:=sF,F0:=F0}
abbrev dG (c:sF->CT)(h:acC (c F0)):cT:={Φ:=sF,F0:=F0,ct:=c,hc:=h}
end Go.V