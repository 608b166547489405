/- Contracts. -/
import Derived.Test.YtbedjnlfdopeeaaGreatXHoKu
import Derived.Test.YtbedjnlfdopeeaaGreatXHoDu
set_option linter.all false
open Go
open And renaming intro->Zb
open IntKind renaming i64->Za
open True renaming intro->Zk
namespace Go.V
open Go Go.Proofs
set_option maxRecDepth 1000000
set_option maxHeartbeats 8000000
namespace Zl0
structure aP where
 dnK:aa->aa->Int->Int
 dnI:aa->aa->Int->Int
 dnS:aa->Int->Int
 dnO:aa->aa->Int->Int
 snN:Int->Int->Int->Int->Int
 snB:Int->Int->Int->Int->Bool
 bsB:Bool->Int->Int->Int->Bool
 dsC:aa->aa->aa->aa->Int->aa
 dsU:aa->aa->aa->aa->Int->aa
 dsE:aa->aa->aa->aa->Int->aa
 dsF:aa->aa->aa->aa->aa->Int->aa
 dsS:aa->Int->aa
 spI:aa->Int->Int
 saS:Int->Int->Int->Int->Int
 saO:Int->Int->Int->Int->Int
abbrev F0:aP:=⟨dnK,dnI,dnS,dnO,snN,snB,bsB,dsC,dsU,dsE,dsF,dsS,spI,saS,saO⟩
def ct (F:aP):CT:=fun f ds=>match f with
 | 137=>match ds with
   |[.one (.s 3 sp),.one (.s 3 lg),.one (.v (.int Za a))]=>some (fun _=>Rw [tI,tI,tI] sp/\Rw [tI,tI,tI] lg,[.agg [.i (F.dnK sp lg a),.i (F.dnI sp lg a),.i (F.dnS sp a),.i (F.dnO sp lg a)]])
   |_=>none
 | 138=>match ds with
   |[.agg [.v (.int Za p),.v (.int Za k),.v (.int Za b)],.one (.v (.int Za s))]=>some (fun _=>True,[.agg [.i p,.i k,.i (F.snN p k b s)],.k (F.snB p k b s)])
   |_=>none
 | 139=>match ds with
   |[.agg [.s 1 a0,.s 1 a1,.s 2 a2,.v (.int Za a3),.s 1 a4,.s 2 a5,.s 3 a6,.s 3 a7,.s 4 a8,.s 1 a9,.s 1 aA,.s 1 aB,.v (.int Za aC),.s 3 aD,.v (.int Za aE),.v (.int Za aF),.v (.int Za aG),.v (.int Za aH),.v (.bool aI),.v (.int Za aJ),.v (.int Za aK),.s 1 aL,.v (.int Za aM),.v (.int Za aN)],.one (.v (.int Za p))]=>some (fun _=>True,[.k (F.bsB aI aJ aK p)])
   |_=>none
 | 176=>match ds with
   |[.agg [.s 1 a0,.s 1 a1,.s 2 a2,.v (.int Za a3),.s 1 a4,.s 2 a5,.s 3 a6,.s 3 a7,.s 4 a8,.s 1 a9,.s 1 aA,.s 1 aB,.v (.int Za aC),.s 3 aD,.v (.int Za aE),.v (.int Za aF),.v (.int Za aG),.v (.int Za aH),.v (.bool aI),.v (.int Za aJ),.v (.int Za aK),.s 1 aL,.v (.int Za aM),.v (.int Za aN)],.one (.v (.int Za pg))]=>some (fun _=>Rw [tI,tI,tI] a6/\a6.length<=1099511627776,[.j (F.spI a6 pg)])
   |_=>none
 | 213=>match ds with
   |[.agg [.v (.int Za p),.v (.int Za k),.v (.int Za b)],.one (.v (.int Za a))]=>some (fun _=>(-9223372036854775808<=a/\a<=9223372036854775807),[.j (F.saS p k b a),.j (F.saO p k b a)])
   |_=>none
 | 214=>match ds with
   |[.agg [.v (.int Za p),.v (.int Za k),.v (.int Za b)],.one (.v (.int Za s))]=>some (fun _=>True,[.agg [.i p,.i k,.i (F.snN p k b s)],.k (F.snB p k b s)])
   |_=>none
 | 215=>match ds with
   |[.ptr [.s 1 a0,.s 1 a1,.s 2 a2,.v (.int Za a3),.s 1 a4,.s 2 a5,.s 3 a6,.s 3 a7,.s 4 a8,.s 1 a9,.s 1 aA,.s 1 aB,.v (.int Za aC),.s 3 aD,.v (.int Za aE),.v (.int Za aF),.v (.int Za aG),.v (.int Za aH),.v (.bool aI),.v (.int Za aJ),.v (.int Za aK),.s 1 aL,.v (.int Za aM),.v (.int Za aN)],.one (.v (.int Za p))]=>some (fun _=>True,[.k (F.bsB aI aJ aK p)])
   |_=>none
 |_=>none
theorem aj:aT (ct F0):=by
 intro f ds pre res h hp;unfold ct at h;split at h<;>(try split at h)<;>cases h
 exact gu hp;exact qn hp;exact zQ hp;exact io hp;exact lK hp;exact rD hp;exact wD hp
def pt (F:aP):PT:=fun f=>match f with
 | 140=>some fun ds=>match ds with
   |[.mp [.own (.s 1 a0),.own (.s 1 a1),.own (.s 2 a2),.own (.v (.int Za a3)),.own (.s 1 a4),.own (.s 2 a5),.own (.s 3 a6),.own (.s 3 a7),.own (.s 4 a8),.own (.s 1 a9),.own (.s 1 aA),.own (.s 1 aB),.own (.v (.int Za aC)),.own (.s 3 aD),.own (.v (.int Za aE)),.own (.v (.int Za aF)),.own (.v (.int Za aG)),.own (.v (.int Za aH)),.own (.v (.bool aI)),.own (.v (.int Za aJ)),.own (.v (.int Za aK)),.own (.s 1 aL),.own (.v (.int Za aM)),.own (.v (.int Za aN))],.one (.v (.int Za i))]=>some (fun _=>iI a0 a1 a2 a4 a5 a6 a7 a8 a9 aA aB aD aL/\kerOk a0 a1 a2 a3 a4=true/\a3≠100000/\a5.length<=536870911/\0<=i/\i<a6.length/\0<=ag a6 i 0/\ag a6 i 0<=31,[(zz (F.dsC a0 a1 a2 a6 i) (F.dsU a0 a1 a2 a6 i) (F.dsE a0 a1 a2 a6 i) a3 a4 (F.dsF a0 a1 a2 a5 a6 i) (F.dsS a6 i) a7 a8 a9 aA aB aC aD aE aF aG aH aI aJ aK aL aM aN)],[])
   |_=>none
 | 216=>some fun ds=>match ds with
   |[.mp [.own (.s 1 a0),.own (.s 1 a1),.own (.s 2 a2),.own (.v (.int Za a3)),.own (.s 1 a4),.own (.s 2 a5),.own (.s 3 a6),.own (.s 3 a7),.own (.s 4 a8),.own (.s 1 a9),.own (.s 1 aA),.own (.s 1 aB),.own (.v (.int Za aC)),.own (.s 3 aD),.own (.v (.int Za aE)),.own (.v (.int Za aF)),.own (.v (.int Za aG)),.own (.v (.int Za aH)),.own (.v (.bool aI)),.own (.v (.int Za aJ)),.own (.v (.int Za aK)),.own (.s 1 aL),.own (.v (.int Za aM)),.own (.v (.int Za aN))],.one (.v (.int Za i))]=>some (fun _=>iI a0 a1 a2 a4 a5 a6 a7 a8 a9 aA aB aD aL/\kerOk a0 a1 a2 a3 a4=true/\a3≠100000/\a5.length<=536870911/\0<=i/\i<a6.length/\0<=ag a6 i 0/\ag a6 i 0<=31,[(zz (F.dsC a0 a1 a2 a6 i) (F.dsU a0 a1 a2 a6 i) (F.dsE a0 a1 a2 a6 i) a3 a4 (F.dsF a0 a1 a2 a5 a6 i) (F.dsS a6 i) a7 a8 a9 aA aB aC aD aE aF aG aH aI aJ aK aL aM aN)],[])
   |_=>none
 |_=>none
theorem gJ:pE (pt F0):=by
 intro f mk h ds pre outs res hm hp;unfold pt at h;split at h
 ·cases h;dsimp only at hm;split at hm
  ·cases hm;exact qu hp
  ·cases hm
 ·cases h;dsimp only at hm;split at hm
  ·cases hm;exact tV hp
  ·cases hm
 ·cases h
abbrev B:cF:={Φ:=aP,F0:=F0,ct:=ct,hc:=aj,pt:=pt,hp:=gJ}
end Zl0
theorem mH {a0 a1 a2:aa}{a3:Int}{a4 a5 a6 a7 a8 a9 aA aB:aa}{aC:Int}{aD:aa}{aE aF aG aH:Int}{aI:Bool}{aJ aK:Int}{aL:aa}{aM aN ad:Int}(hp:iI a0 a1 a2 a4 a5 a6 a7 a8 a9 aA aB aD aL/\kerOk a0 a1 a2 a3 a4=true/\a3≠100000/\a5.length<=65/\oh a6/\(∃ i,my a6 ad i)):jV 43 [.mp (zz a0 a1 a2 a3 a4 a5 a6 a7 a8 a9 aA aB aC aD aE aF aG aH aI aJ aK aL aM aN),.j ad] [(zz (fzC aI aJ aK a0 a1 a2 a5 a6 ad) (fzU aI aJ aK a0 a1 a2 a5 a6 ad) (fzE aI aJ aK a0 a1 a2 a5 a6 ad) a3 a4 (fzF aI aJ aK a0 a1 a2 a5 a6 ad) (fzS aI aJ aK a0 a1 a2 a5 a6 ad) a7 a8 a9 aA aB aC aD aE aF aG aH aI aJ aK aL aM aN)] []:=by
 obtain⟨hp,hk,hn,h5,g,ix,v⟩:=hp;have l6:=aO (es:=a6);have c6:=hp.c6;have dn:=Gg (L:=a7) g v;have vi:=Gi g v;have fs:=gI g v;have vl:=v.l;have up:=Kd hp.r6 g v;have pg:=yi g v;have pl:=pg.2;have w1:=Fi hp.r6 g v;have x0:(0:Int)<=ix:=(by omega);have x1:(ix:Int)<a6.length:=(by omega);have x2:(ix:Int)<(eZ a6 ad).length:=(by omega);refine pb Zl0.B Tryz.func43 ?_
 intro O r os F hO hr hos hF;cbv
 repeat' first|apply Zb|(apply bu<;>intro hb<;>cbv)
 all_goals((try subst hos);subst hO hr hF;(try simp only[nc]at*);(try simp only[ak,SS,sa,az]at*);(try simp only[dn.1]at*);(try simp only[dn.2.1,dn.2.2]at*);(try simp only[jm (l:=a6) (sz:=3) (j:=0) (i:=ix) x0,jm (l:=a6) (sz:=3) (j:=1) (i:=ix) x0,jm (l:=a6) (sz:=3) (j:=2) (i:=ix) x0]at*);(try simp only[show saS (ag a6 ix 0) (ag a6 ix 1) (ag a6 ix 2) ad=sy a6 ad ix from rfl]at*);(try simp only[up]at*);(try simp only[jm (l:=eZ a6 ad) (sz:=3) (j:=0) (i:=ix) x0,jm (l:=eZ a6 ad) (sz:=3) (j:=1) (i:=ix) x0,jm (l:=eZ a6 ad) (sz:=3) (j:=2) (i:=ix) x0]at*))
 all_goals first
  | (show(_:List DV)=_
     first
      |done)
  | (show(_:List H)=_
     first
      |(exfalso;have q:(1:Int)≠1:=(by assumption);exact q rfl)
      |(have b:=Ka (me:=aI) (kp:=aJ) (mv:=aK) g v (by assumption);have z:=Ir (c:=a0) (u:=a1) (e:=a2) (f:=a5) b;rw[z.1,z.2.1,z.2.2.1,z.2.2.2.1,z.2.2.2.2];exact rfl)
      |(have b:=Kb (me:=aI) (kp:=aJ) (mv:=aK) g v (by assumption);have z:=Ir (c:=a0) (u:=a1) (e:=a2) (f:=a5) b;rw[z.1,z.2.1,z.2.2.1,z.2.2.2.1,z.2.2.2.2];exact rfl)
      |(have b:=Kc (me:=aI) (kp:=aJ) (mv:=aK) g v (by assumption) (by assumption);have z:=Pp (c:=a0) (u:=a1) (e:=a2) (f:=a5) g v b;rw[z.1,z.2.1,z.2.2.1,z.2.2.2.1,z.2.2.2.2];exact rfl)
      |done)
  |omega
  |exact eF
  |exact⟨hp.r6,hp.r7⟩
  |exact⟨Kn hp g v,hk,hn,by omega,by omega,by omega,by omega,by omega⟩
  |exact xt hp.r6 x0 x1
  |exact Le hp.r6 x0 x1
  |exact xt w1 x0 x2
  |exact uI hp.r6 x0 x1 (by decide)
  |exact uI w1 x0 x2 (by decide)
  |(show aV _ _=true;kernel_rfl)
  |exact⟨Zk,Zk⟩
  |exact Zk
  |done
theorem tW {a0 a1 a2:aa}{a3:Int}{a4 a5 a6 a7 a8 a9 aA aB:aa}{aC:Int}{aD:aa}{aE aF aG aH:Int}{aI:Bool}{aJ aK:Int}{aL:aa}{aM aN ad:Int}(hp:iI a0 a1 a2 a4 a5 a6 a7 a8 a9 aA aB aD aL/\kerOk a0 a1 a2 a3 a4=true/\a3≠100000/\a5.length<=65/\oh a6/\(∃ i,my a6 ad i)):jV 106 [.mp (zz a0 a1 a2 a3 a4 a5 a6 a7 a8 a9 aA aB aC aD aE aF aG aH aI aJ aK aL aM aN),.j ad] [(zz (fzC aI aJ aK a0 a1 a2 a5 a6 ad) (fzU aI aJ aK a0 a1 a2 a5 a6 ad) (fzE aI aJ aK a0 a1 a2 a5 a6 ad) a3 a4 (fzF aI aJ aK a0 a1 a2 a5 a6 ad) (fzS aI aJ aK a0 a1 a2 a5 a6 ad) a7 a8 a9 aA aB aC aD aE aF aG aH aI aJ aK aL aM aN)] []:=by
 obtain⟨hp,hk,hn,h5,g,ix,v⟩:=hp;have l6:=aO (es:=a6);have c6:=hp.c6;have dn:=Gg (L:=a7) g v;have vi:=Gi g v;have fs:=gI g v;have vl:=v.l;have up:=Kd hp.r6 g v;have pg:=yi g v;have pl:=pg.2;have w1:=Fi hp.r6 g v;have x0:(0:Int)<=ix:=(by omega);have x1:(ix:Int)<a6.length:=(by omega);have x2:(ix:Int)<(eZ a6 ad).length:=(by omega);have e1:bK .quo Za ad 16=ad/16:=xD (by omega) (by omega) (by omega);refine pb Zl0.B Tryz.func106 ?_
 intro O r os F hO hr hos hF;cbv
 repeat' first|apply Zb|(apply bu<;>intro hb<;>cbv)
 all_goals((try subst hos);subst hO hr hF;(try simp only[nc]at*);(try simp only[ak,SS,sa,az]at*);(try simp only[e1]at*);(try simp only[fs.2.1]at*);(try simp only[show saS (ag a6 ix 0) (ag a6 ix 1) (ag a6 ix 2) ad=sy a6 ad ix from rfl]at*);(try simp only[jm (l:=a6) (sz:=3) (j:=0) (i:=ix) x0,jm (l:=a6) (sz:=3) (j:=1) (i:=ix) x0,jm (l:=a6) (sz:=3) (j:=2) (i:=ix) x0]at*);(try simp only[show saS (ag a6 ix 0) (ag a6 ix 1) (ag a6 ix 2) ad=sy a6 ad ix from rfl]at*);(try simp only[up]at*);(try simp only[jm (l:=eZ a6 ad) (sz:=3) (j:=0) (i:=ix) x0,jm (l:=eZ a6 ad) (sz:=3) (j:=1) (i:=ix) x0,jm (l:=eZ a6 ad) (sz:=3) (j:=2) (i:=ix) x0]at*))
 all_goals first
  | (show(_:List DV)=_
     first
      |done)
  | (show(_:List H)=_
     first
      |(exfalso;have q:(1:Int)≠1:=(by assumption);exact q rfl)
      |(have b:=Ka (me:=aI) (kp:=aJ) (mv:=aK) g v (by assumption);have z:=Ir (c:=a0) (u:=a1) (e:=a2) (f:=a5) b;rw[z.1,z.2.1,z.2.2.1,z.2.2.2.1,z.2.2.2.2];exact rfl)
      |(have b:=Kb (me:=aI) (kp:=aJ) (mv:=aK) g v (by assumption);have z:=Ir (c:=a0) (u:=a1) (e:=a2) (f:=a5) b;rw[z.1,z.2.1,z.2.2.1,z.2.2.2.1,z.2.2.2.2];exact rfl)
      |(have b:=Kc (me:=aI) (kp:=aJ) (mv:=aK) g v (by assumption) (by assumption);have z:=Pp (c:=a0) (u:=a1) (e:=a2) (f:=a5) g v b;rw[z.1,z.2.1,z.2.2.1,z.2.2.2.1,z.2.2.2.2];exact rfl)
      |done)
  |omega
  |exact eF
  |exact⟨hp.r6,by omega⟩
  |exact⟨by omega,by omega⟩
  |exact⟨Kn hp g v,hk,hn,by omega,by omega,by omega,by omega,by omega⟩
  |exact xt hp.r6 x0 x1
  |exact Le hp.r6 x0 x1
  |exact xt w1 x0 x2
  |exact uI hp.r6 x0 x1 (by decide)
  |exact uI w1 x0 x2 (by decide)
  |(show aV _ _=true;kernel_rfl)
  |exact⟨Zk,Zk⟩
  |exact Zk
  |done
namespace Zl1
structure aP where
 hpI:aa->aa->aa->Int->aa->aa->aa->aa->aa->aa->aa->aa->Int->aa->Int->Int->Int->Int->Bool->Int->Int->aa->Int->Int->Bool
 ccB:aa->aa->aa->Int->aa->Bool
 inR:Int->Int->Int->Bool
 qeL:Int->aa->Int->Int->aa
 qeR:Int->aa->Int->Int->aa
 fzC:Bool->Int->Int->aa->aa->aa->aa->aa->Int->aa
 fzU:Bool->Int->Int->aa->aa->aa->aa->aa->Int->aa
 fzE:Bool->Int->Int->aa->aa->aa->aa->aa->Int->aa
 fzF:Bool->Int->Int->aa->aa->aa->aa->aa->Int->aa
 fzS:Bool->Int->Int->aa->aa->aa->aa->aa->Int->aa
abbrev F0:aP:=⟨hpI,ccB,inR,qeL,qeR,fzC,fzU,fzE,fzF,fzS⟩
def ct (F:aP):CT:=fun f ds=>match f with
 | 71=>match ds with
   |[.agg [.s 1 a0,.s 1 a1,.s 2 a2,.v (.int Za a3),.s 1 a4,.s 2 a5,.s 3 a6,.s 3 a7,.s 4 a8,.s 1 a9,.s 1 aA,.s 1 aB,.v (.int Za aC),.s 3 aD,.v (.int Za aE),.v (.int Za aF),.v (.int Za aG),.v (.int Za aH),.v (.bool aI),.v (.int Za aJ),.v (.int Za aK),.s 1 aL,.v (.int Za aM),.v (.int Za aN)]]=>some (fun _=>OC a0 a1 a2 a4 a5 a6 a7 a8 a9 aA aB aD aL,[.k (F.hpI a0 a1 a2 a3 a4 a5 a6 a7 a8 a9 aA aB aC aD aE aF aG aH aI aJ aK aL aM aN)])
   |_=>none
 | 72=>match ds with
   |[.agg [.s 1 cs,.s 1 us,.s 2 es,.v (.int Za c),.s 1 rs]]=>some (fun _=>Rw [.sl [tI]] cs/\Rw [tB] us/\Rw [tI,tI] es/\Rw [tI] rs,[.k (F.ccB cs us es c rs)])
   |_=>none
 | 28=>match ds with
   |[.one (.v (.int Za x)),.one (.v (.int Za a)),.one (.v (.int Za b))]=>some (fun _=>True,[.k (F.inR x a b)])
   |_=>none
 | 39=>match ds with
   |[.agg [.s 1 a0,.s 1 a1,.s 2 a2,.v (.int Za a3),.s 1 a4,.s 2 a5,.s 3 a6,.s 3 a7,.s 4 a8,.s 1 a9,.s 1 aA,.s 1 aB,.v (.int Za aC),.s 3 aD,.v (.int Za aE),.v (.int Za aF),.v (.int Za aG),.v (.int Za aH),.v (.bool aI),.v (.int Za aJ),.v (.int Za aK),.s 1 aL,.v (.int Za aM),.v (.int Za aN)]]=>some (fun _=>iI a0 a1 a2 a4 a5 a6 a7 a8 a9 aA aB aD aL,[.agg (iF a0 a1 a2 a3 a4 a5 a6 a7 a8 a9 aA aB aC aD aE aF aG aH aI aJ aK aL aM aN)])
   |_=>none
 | 40=>match ds with
   |[.agg [.s 1 a0,.s 1 a1,.s 2 a2,.v (.int Za a3),.s 1 a4,.s 2 a5,.s 3 a6,.s 3 a7,.s 4 a8,.s 1 a9,.s 1 aA,.s 1 aB,.v (.int Za aC),.s 3 aD,.v (.int Za aE),.v (.int Za aF),.v (.int Za aG),.v (.int Za aH),.v (.bool aI),.v (.int Za aJ),.v (.int Za aK),.s 1 aL,.v (.int Za aM),.v (.int Za aN)]]=>some (fun _=>OC a0 a1 a2 a4 a5 a6 a7 a8 a9 aA aB aD aL,[.k (F.hpI a0 a1 a2 a3 a4 a5 a6 a7 a8 a9 aA aB aC aD aE aF aG aH aI aJ aK aL aM aN)])
   |_=>none
 | 41=>match ds with
   |[.one (.v (.int Za x)),.one (.v (.int Za a)),.one (.v (.int Za b))]=>some (fun _=>True,[.k (F.inR x a b)])
   |_=>none
 | 42=>match ds with
   |[.agg [.v (.int Za rm),.s 3 qs],.one (.v (.int Za now)),.one (.v (.int Za age))]=>some (fun _=>Rw [tI,tI,tI] qs/\qs.length<=1073741824,[.agg [.i rm,.s 3 (F.qeL rm qs now age)],.one (.s 3 (F.qeR rm qs now age))])
   |_=>none
 | 26=>match ds with
   |[.agg [.s 1 a0,.s 1 a1,.s 2 a2,.v (.int Za a3),.s 1 a4,.s 2 a5,.s 3 a6,.s 3 a7,.s 4 a8,.s 1 a9,.s 1 aA,.s 1 aB,.v (.int Za aC),.s 3 aD,.v (.int Za aE),.v (.int Za aF),.v (.int Za aG),.v (.int Za aH),.v (.bool aI),.v (.int Za aJ),.v (.int Za aK),.s 1 aL,.v (.int Za aM),.v (.int Za aN)]]=>some (fun _=>iI a0 a1 a2 a4 a5 a6 a7 a8 a9 aA aB aD aL,[.agg (iF a0 a1 a2 a3 a4 a5 a6 a7 a8 a9 aA aB aC aD aE aF aG aH aI aJ aK aL aM aN)])
   |_=>none
 | 105=>match ds with
   |[.agg [.v (.int Za rm),.s 3 qs],.one (.v (.int Za now)),.one (.v (.int Za age))]=>some (fun _=>Rw [tI,tI,tI] qs/\qs.length<=1073741824,[.agg [.i rm,.s 3 (F.qeL rm qs now age)],.one (.s 3 (F.qeR rm qs now age))])
   |_=>none
 |_=>none
theorem aj:aT (ct F0):=by
 intro f ds pre res h hp;unfold ct at h;split at h<;>(try split at h)<;>cases h
 exact wy hp;exact wA hp;exact be hp;exact qp hp;exact vQ hp;exact bc hp;exact mE hp;exact j9 hp;exact mZ hp
def pt (F:aP):PT:=fun f=>match f with
 | 43=>some fun ds=>match ds with
   |[.mp [.own (.s 1 a0),.own (.s 1 a1),.own (.s 2 a2),.own (.v (.int Za a3)),.own (.s 1 a4),.own (.s 2 a5),.own (.s 3 a6),.own (.s 3 a7),.own (.s 4 a8),.own (.s 1 a9),.own (.s 1 aA),.own (.s 1 aB),.own (.v (.int Za aC)),.own (.s 3 aD),.own (.v (.int Za aE)),.own (.v (.int Za aF)),.own (.v (.int Za aG)),.own (.v (.int Za aH)),.own (.v (.bool aI)),.own (.v (.int Za aJ)),.own (.v (.int Za aK)),.own (.s 1 aL),.own (.v (.int Za aM)),.own (.v (.int Za aN))],.one (.v (.int Za ad))]=>some (fun _=>iI a0 a1 a2 a4 a5 a6 a7 a8 a9 aA aB aD aL/\kerOk a0 a1 a2 a3 a4=true/\a3≠100000/\a5.length<=65/\oh a6/\(∃ i,my a6 ad i),[(zz (F.fzC aI aJ aK a0 a1 a2 a5 a6 ad) (F.fzU aI aJ aK a0 a1 a2 a5 a6 ad) (F.fzE aI aJ aK a0 a1 a2 a5 a6 ad) a3 a4 (F.fzF aI aJ aK a0 a1 a2 a5 a6 ad) (F.fzS aI aJ aK a0 a1 a2 a5 a6 ad) a7 a8 a9 aA aB aC aD aE aF aG aH aI aJ aK aL aM aN)],[])
   |_=>none
 | 106=>some fun ds=>match ds with
   |[.mp [.own (.s 1 a0),.own (.s 1 a1),.own (.s 2 a2),.own (.v (.int Za a3)),.own (.s 1 a4),.own (.s 2 a5),.own (.s 3 a6),.own (.s 3 a7),.own (.s 4 a8),.own (.s 1 a9),.own (.s 1 aA),.own (.s 1 aB),.own (.v (.int Za aC)),.own (.s 3 aD),.own (.v (.int Za aE)),.own (.v (.int Za aF)),.own (.v (.int Za aG)),.own (.v (.int Za aH)),.own (.v (.bool aI)),.own (.v (.int Za aJ)),.own (.v (.int Za aK)),.own (.s 1 aL),.own (.v (.int Za aM)),.own (.v (.int Za aN))],.one (.v (.int Za ad))]=>some (fun _=>iI a0 a1 a2 a4 a5 a6 a7 a8 a9 aA aB aD aL/\kerOk a0 a1 a2 a3 a4=true/\a3≠100000/\a5.length<=65/\oh a6/\(∃ i,my a6 ad i),[(zz (F.fzC aI aJ aK a0 a1 a2 a5 a6 ad) (F.fzU aI aJ aK a0 a1 a2 a5 a6 ad) (F.fzE aI aJ aK a0 a1 a2 a5 a6 ad) a3 a4 (F.fzF aI aJ aK a0 a1 a2 a5 a6 ad) (F.fzS aI aJ aK a0 a1 a2 a5 a6 ad) a7 a8 a9 aA aB aC aD aE aF aG aH aI aJ aK aL aM aN)],[])
   |_=>none
 |_=>none
theorem gJ:pE (pt F0):=by
 intro f mk h ds pre outs res hm hp;unfold pt at h;split at h
 ·cases h;dsimp only at hm;split at hm
  ·cases hm;exact mH hp
  ·cases hm
 ·cases h;dsimp only at hm;split at hm
  ·cases hm;exact tW hp
  ·cases hm
 ·cases h
abbrev B:cF:={Φ:=aP,F0:=F0,ct:=ct,hc:=aj,pt:=pt,hp:=gJ}
end Zl1
theorem x9 {a0 a1 a2:aa}{a3:Int}{a4 a5 a6 a7 a8 a9 aA aB:aa}{aC:Int}{aD:aa}{aE aF aG aH:Int}{aI:Bool}{aJ aK:Int}{aL:aa}{aM aN t:Int}(hp:iI a0 a1 a2 a4 a5 a6 a7 a8 a9 aA aB aD aL):ap 27 [.agg (iF a0 a1 a2 a3 a4 a5 a6 a7 a8 a9 aA aB aC aD aE aF aG aH aI aJ aK aL aM aN),.j t] [.k (t0B (hpI a0 a1 a2 a3 a4 a5 a6 a7 a8 a9 aA aB aC aD aE aF aG aH aI aJ aK aL aM aN) a3 t a9)]:=by
 have l9:=aO (es:=a9);have c9:=hp.c9;have e1:bK .sub Za (a9.length:Int) 1=a9.length-1:=cN (by omega);refine cb Zl1.B Tryz.func27 ?_
 intro O r F hO hr hF;cbv
 repeat' first|apply Zb|(apply bu<;>intro hb<;>cbv)
 all_goals(subst hO hr hF;(try simp only[nc]at*);(try simp only[ak,SS,sa,az]at*);(try simp only[e1]at*);(try have hk:hpI a0 a1 a2 a3 a4 a5 a6 a7 a8 a9 aA aB aC aD aE aF aG aH aI aJ aK aL aM aN=true:=(by assumption));(try have kk:=(nC hk).k))
 all_goals first
  | (show(_:List DV)=_
     first
      |exact ai (U4 (by assumption)).symm
      |exact ai (U5 (OX (by assumption) kk)).symm
      |exact ai (R2 hk (JZ (by assumption)).1)
      |done)
  | (show(_:List H)=_
     first
      |done)
  |omega
  |exact eF
  |exact hp
  |exact hp.hp
  |exact⟨hp.r0,hp.r1,hp.r2,hp.r4⟩
  |(show aV _ _=true;kernel_rfl)
  |exact⟨Zk,Zk⟩
  |exact Zk
  |done
theorem tX {a0 a1 a2:aa}{a3:Int}{a4 a5 a6 a7 a8 a9 aA aB:aa}{aC:Int}{aD:aa}{aE aF aG aH:Int}{aI:Bool}{aJ aK:Int}{aL:aa}{aM aN n:Int}(hp:iI a0 a1 a2 a4 a5 a6 a7 a8 a9 aA aB aD aL/\hpI a0 a1 a2 a3 a4 a5 a6 a7 a8 a9 aA aB aC aD aE aF aG aH aI aJ aK aL aM aN=true/\a3≠100000/\0<=n/\aF+n<=1000000):jV 29 [.mp (zz a0 a1 a2 a3 a4 a5 a6 a7 a8 a9 aA aB aC aD aE aF aG aH aI aJ aK aL aM aN),.j n] [(zz (tkC aI aJ aK a0 a1 a2 a5 a6 (qeR aC aD (ckN aF n) 100)) (tkU aI aJ aK a0 a1 a2 a5 a6 (qeR aC aD (ckN aF n) 100)) (tkE aI aJ aK a0 a1 a2 a5 a6 (qeR aC aD (ckN aF n) 100)) a3 a4 (tkF aI aJ aK a0 a1 a2 a5 a6 (qeR aC aD (ckN aF n) 100)) (tkS aI aJ aK a0 a1 a2 a5 a6 (qeR aC aD (ckN aF n) 100)) a7 a8 a9 aA aB aC (qeL aC aD (ckN aF n) 100) aE (ckN aF n) aG aH aI aJ aK aL aM aN)] [.j (lenI (qeR aC aD (ckN aF n) 100))]:=by
 obtain⟨hp,hk,hn,n0,n1⟩:=hp;have r15:=bB.1 (nC hk).t;have l13:=aO (es:=aD);have c13:=hp.c13;have e1:bK .add Za aF n=ckN aF n:=bh (by omega);have TT:=yV hp hk n0 n1;have wr:=TT.r;have lm:=TT.m;refine pb Zl1.B Tryz.func29 ?_
 intro O r os F hO hr hos hF;cbv
 repeat' first|apply Zb|(apply bu<;>intro hb<;>cbv)|(refine⟨[0,6,7],[0,26],Int×aa×aa×aa×aa×aa,fun s_=>match s_ with|(i,c,u,e,f,t)=>[.reg 7 (.j i),.leaf 0 0 ⟨0,0,none,.own (.s 1 c)⟩,.leaf 0 1 ⟨0,0,none,.own (.s 1 u)⟩,.leaf 0 2 ⟨0,0,none,.own (.s 2 e)⟩,.leaf 0 5 ⟨0,0,none,.own (.s 2 f)⟩,.leaf 0 6 ⟨0,0,none,.own (.s 3 t)⟩],fun s_=>match s_ with|(i,c,u,e,f,t)=>0<=i/\i<=((qeR aC aD (ckN aF n) 100).length:Int)/\HJ aI aJ aK (qeR aC aD (ckN aF n) 100) ⟨a0,a1,a2,a5,a6⟩ i c u e f t,fun s_=>match s_ with|(i,c,u,e,f,t)=>((qeR aC aD (ckN aF n) 100).length-i).toNat,⟨(0,a0,a1,a2,a5,a6),?_,?_⟩,?_⟩;rotate_left;(focus (cbv;done));intro s_ hi;obtain⟨i,c,u,e,f,t⟩:=s_;replace hi:0<=i/\i<=((qeR aC aD (ckN aF n) 100).length:Int)/\HJ aI aJ aK (qeR aC aD (ckN aF n) 100) ⟨a0,a1,a2,a5,a6⟩ i c u e f t:=hi;obtain⟨i0,i1,i2⟩:=hi;cbv)|(refine ab (O.ar .add Za i 1,F.fzC aI aJ aK c u e f t (O.pi (.s 3 (F.qeR aC (O.sub aD 0 (O.ln aD)) (O.ar .add Za aF n) 100)) [(O.ad 0 i,0)]),F.fzU aI aJ aK c u e f t (O.pi (.s 3 (F.qeR aC (O.sub aD 0 (O.ln aD)) (O.ar .add Za aF n) 100)) [(O.ad 0 i,0)]),F.fzE aI aJ aK c u e f t (O.pi (.s 3 (F.qeR aC (O.sub aD 0 (O.ln aD)) (O.ar .add Za aF n) 100)) [(O.ad 0 i,0)]),F.fzF aI aJ aK c u e f t (O.pi (.s 3 (F.qeR aC (O.sub aD 0 (O.ln aD)) (O.ar .add Za aF n) 100)) [(O.ad 0 i,0)]),F.fzS aI aJ aK c u e f t (O.pi (.s 3 (F.qeR aC (O.sub aD 0 (O.ln aD)) (O.ar .add Za aF n) 100)) [(O.ad 0 i,0)])) ?_ ?_ ?_;focus (cbv;done))
 all_goals((try subst hos);subst hO hr hF;(try simp only[nc]at*);(try simp only[ak,SS,sa,az]at*);(try simp only[e1]at*);(try rw[cy (by omega) (by omega)]);(try simp only[jm (l:=qeR aC aD (ckN aF n) 100) (sz:=3) (j:=0) (i:=i) i0]at*);(try have ht:=yW hp hk hn TT i2 i0 (by omega));(try have E:=DW i2 (by omega)))
 all_goals first
  | (show(_:List DV)=_
     first
      |exact rfl
      |done)
  | (show(_:List H)=_
     first
      |(rw[<-E.1, <-E.2.1, <-E.2.2.1, <-E.2.2.2.1, <-E.2.2.2.2];exact rfl)
      |done)
  |omega
  |exact eF
  |exact⟨hp.r13,by omega⟩
  |exact xt wr i0 (by omega)
  |exact uI wr i0 (by omega) (by decide)
  |exact yW hp hk hn TT i2 i0 (by omega)
  |exact Lh
  |exact Hr i2 i0
  |(show aV _ _=true;kernel_rfl)
  |exact⟨Zk,Zk⟩
  |exact Zk
  |done
theorem qe {a0 a1 a2:aa}{a3:Int}{a4 a5 a6 a7 a8 a9 aA aB:aa}{aC:Int}{aD:aa}{aE aF aG aH:Int}{aI:Bool}{aJ aK:Int}{aL:aa}{aM aN n:Int}(hp:iI a0 a1 a2 a4 a5 a6 a7 a8 a9 aA aB aD aL/\(-9223372036854775808<=n/\n<=9223372036854775807)):ap 9 [.agg (iF a0 a1 a2 a3 a4 a5 a6 a7 a8 a9 aA aB aC aD aE aF aG aH aI aJ aK aL aM aN),.j n] [.agg (iF (ifR (tgB (hpI a0 a1 a2 a3 a4 a5 a6 a7 a8 a9 aA aB aC aD aE aF aG aH aI aJ aK aL aM aN) a3 n aF) (tkC aI aJ aK a0 a1 a2 a5 a6 (qeR aC aD (ckN aF n) 100)) a0) (ifR (tgB (hpI a0 a1 a2 a3 a4 a5 a6 a7 a8 a9 aA aB aC aD aE aF aG aH aI aJ aK aL aM aN) a3 n aF) (tkU aI aJ aK a0 a1 a2 a5 a6 (qeR aC aD (ckN aF n) 100)) a1) (ifR (tgB (hpI a0 a1 a2 a3 a4 a5 a6 a7 a8 a9 aA aB aC aD aE aF aG aH aI aJ aK aL aM aN) a3 n aF) (tkE aI aJ aK a0 a1 a2 a5 a6 (qeR aC aD (ckN aF n) 100)) a2) a3 a4 (ifR (tgB (hpI a0 a1 a2 a3 a4 a5 a6 a7 a8 a9 aA aB aC aD aE aF aG aH aI aJ aK aL aM aN) a3 n aF) (tkF aI aJ aK a0 a1 a2 a5 a6 (qeR aC aD (ckN aF n) 100)) a5) (ifR (tgB (hpI a0 a1 a2 a3 a4 a5 a6 a7 a8 a9 aA aB aC aD aE aF aG aH aI aJ aK aL aM aN) a3 n aF) (tkS aI aJ aK a0 a1 a2 a5 a6 (qeR aC aD (ckN aF n) 100)) a6) a7 a8 a9 aA aB aC (ifR (tgB (hpI a0 a1 a2 a3 a4 a5 a6 a7 a8 a9 aA aB aC aD aE aF aG aH aI aJ aK aL aM aN) a3 n aF) (qeL aC aD (ckN aF n) 100) aD) aE (ifN (tgB (hpI a0 a1 a2 a3 a4 a5 a6 a7 a8 a9 aA aB aC aD aE aF aG aH aI aJ aK aL aM aN) a3 n aF) (ckN aF n) aF) aG aH aI aJ aK aL aM aN),.j (ifN (tgB (hpI a0 a1 a2 a3 a4 a5 a6 a7 a8 a9 aA aB aC aD aE aF aG aH aI aJ aK aL aM aN) a3 n aF) (lenI (qeR aC aD (ckN aF n) 100)) 0)]:=by
 obtain⟨hp,hA⟩:=hp;have l13:=aO (es:=aD);have c13:=hp.c13;refine cb Zl1.B Tryz.func9 ?_
 intro O r F hO hr hF;cbv
 repeat' first|apply Zb|(apply bu<;>intro hb<;>cbv)|(refine⟨[4,6,8,50,51,52],[4,6,45],Int×aa×aa×aa×aa×aa,fun s_=>match s_ with|(i,c,u,e,f,t)=>[.reg 52 (.j i),.leaf 6 0 ⟨0,0,none,.own (.s 1 c)⟩,.leaf 6 1 ⟨0,0,none,.own (.s 1 u)⟩,.leaf 6 2 ⟨0,0,none,.own (.s 2 e)⟩,.leaf 6 5 ⟨0,0,none,.own (.s 2 f)⟩,.leaf 6 6 ⟨0,0,none,.own (.s 3 t)⟩],fun s_=>match s_ with|(i,c,u,e,f,t)=>0<=i/\i<=((qeR aC aD (ckN aF n) 100).length:Int)/\HJ aI aJ aK (qeR aC aD (ckN aF n) 100) ⟨a0,a1,a2,a5,a6⟩ i c u e f t,fun s_=>match s_ with|(i,c,u,e,f,t)=>((qeR aC aD (ckN aF n) 100).length-i).toNat,⟨(0,a0,a1,a2,a5,a6),?_,?_⟩,?_⟩;rotate_left;(focus (cbv;done));intro s_ hi;obtain⟨i,c,u,e,f,t⟩:=s_;replace hi:0<=i/\i<=((qeR aC aD (ckN aF n) 100).length:Int)/\HJ aI aJ aK (qeR aC aD (ckN aF n) 100) ⟨a0,a1,a2,a5,a6⟩ i c u e f t:=hi;obtain⟨i0,i1,i2⟩:=hi;cbv)|(refine ab (O.ar .add Za i 1,F.fzC aI aJ aK c u e f t (O.pi (.s 3 (F.qeR aC aD (O.ar .add Za aF n) 100)) [(O.ad 0 i,0)]),F.fzU aI aJ aK c u e f t (O.pi (.s 3 (F.qeR aC aD (O.ar .add Za aF n) 100)) [(O.ad 0 i,0)]),F.fzE aI aJ aK c u e f t (O.pi (.s 3 (F.qeR aC aD (O.ar .add Za aF n) 100)) [(O.ad 0 i,0)]),F.fzF aI aJ aK c u e f t (O.pi (.s 3 (F.qeR aC aD (O.ar .add Za aF n) 100)) [(O.ad 0 i,0)]),F.fzS aI aJ aK c u e f t (O.pi (.s 3 (F.qeR aC aD (O.ar .add Za aF n) 100)) [(O.ad 0 i,0)])) ?_ ?_ ?_;focus (cbv;done))
 all_goals(subst hO hr hF;(try simp only[nc]at*);(try simp only[ak,SS,sa,az]at*);(try have hk:hpI a0 a1 a2 a3 a4 a5 a6 a7 a8 a9 aA aB aC aD aE aF aG aH aI aJ aK aL aM aN=true:=(by assumption));(try have hk:=(DT (by assumption:t0B (hpI a0 a1 a2 a3 a4 a5 a6 a7 a8 a9 aA aB aC aD aE aF aG aH aI aJ aK aL aM aN) a3 0 a9=true)).1);(try have c3:=(DT (by assumption:t0B (hpI a0 a1 a2 a3 a4 a5 a6 a7 a8 a9 aA aB aC aD aE aF aG aH aI aJ aK aL aM aN) a3 0 a9=true)).2.1);(try have c3:a3≠100000:=(by assumption));(try have hn:=c3);(try have r15:=bB.1 (nC hk).t);(try have rn:=bB.1 (by assumption:inR n 0 1000=true));(try have e1:bK .add Za aF n=ckN aF n:=bh (by omega));(try simp only[e1]at*);(try have n1:ckN aF n<=1000000:=(by omega));(try have n0:1000000<ckN aF n:=(by omega));(try have n1:aF+n<=1000000:=n1);(try have n0:1000000<aF+n:=n0);(try have TT:=yV hp hk rn.1 n1);(try have wr:=TT.r);(try have lm:=TT.m);(try rw[cy (by omega) (by omega)]);(try simp only[jm (l:=qeR aC aD (ckN aF n) 100) (sz:=3) (j:=0) (i:=i) i0]at*);(try have ht:=yW hp hk hn TT i2 i0 (by omega));(try have E:=DW i2 (by omega)))
 all_goals first
  | (show(_:List DV)=_
     first
      |(rw[NU (k:=hpI a0 a1 a2 a3 a4 a5 a6 a7 a8 a9 aA aB aC aD aE aF aG aH aI aJ aK aL aM aN) (c:=a3) (n:=n) (ck:=aF) (by assumption)];exact rfl)
      |(rw[NV (k:=hpI a0 a1 a2 a3 a4 a5 a6 a7 a8 a9 aA aB aC aD aE aF aG aH aI aJ aK aL aM aN) (c:=a3) (n:=n) (ck:=aF) (by assumption)];exact rfl)
      |(rw[R5 (k:=hpI a0 a1 a2 a3 a4 a5 a6 a7 a8 a9 aA aB aC aD aE aF aG aH aI aJ aK aL aM aN) (c:=a3) (n:=n) (ck:=aF) (by assumption)];exact rfl)
      |(rw[R6 (k:=hpI a0 a1 a2 a3 a4 a5 a6 a7 a8 a9 aA aB aC aD aE aF aG aH aI aJ aK aL aM aN) (c:=a3) (n:=n) (ck:=aF) (by omega)];exact rfl)
      |(have gt:=NW (k:=hpI a0 a1 a2 a3 a4 a5 a6 a7 a8 a9 aA aB aC aD aE aF aG aH aI aJ aK aL aM aN) (c:=a3) (n:=n) (ck:=aF) hk c3 (by assumption) n1;rw[gt,E.1,E.2.1,E.2.2.1,E.2.2.2.1,E.2.2.2.2];exact rfl)
      |done)
  | (show(_:List H)=_
     first
      |done)
  |omega
  |exact eF
  |exact hp
  |exact hp.hp
  |exact⟨hp.r0,hp.r1,hp.r2,hp.r4⟩
  |exact⟨hp.r13,by omega⟩
  |exact xt wr i0 (by omega)
  |exact uI wr i0 (by omega) (by decide)
  |exact yW hp hk hn TT i2 i0 (by omega)
  |exact Lh
  |exact Hr i2 i0
  |(show aV _ _=true;kernel_rfl)
  |exact⟨Zk,Zk⟩
  |exact Zk
  |done
namespace Zl2
structure aP where
 t0B:Bool->Int->Int->aa->Bool
 hpI:aa->aa->aa->Int->aa->aa->aa->aa->aa->aa->aa->aa->Int->aa->Int->Int->Int->Int->Bool->Int->Int->aa->Int->Int->Bool
 inR:Int->Int->Int->Bool
 lenI:aa->Int
 qeR:Int->aa->Int->Int->aa
 ckN:Int->Int->Int
 tkC:Bool->Int->Int->aa->aa->aa->aa->aa->aa->aa
 tkU:Bool->Int->Int->aa->aa->aa->aa->aa->aa->aa
 tkE:Bool->Int->Int->aa->aa->aa->aa->aa->aa->aa
 tkF:Bool->Int->Int->aa->aa->aa->aa->aa->aa->aa
 tkS:Bool->Int->Int->aa->aa->aa->aa->aa->aa->aa
 qeL:Int->aa->Int->Int->aa
abbrev F0:aP:=⟨t0B,hpI,inR,lenI,qeR,ckN,tkC,tkU,tkE,tkF,tkS,qeL⟩
def ct (F:aP):CT:=fun f ds=>match f,ds with
 |27,[.agg [.s 1 a0,.s 1 a1,.s 2 a2,.v (.int Za a3),.s 1 a4,.s 2 a5,.s 3 a6,.s 3 a7,.s 4 a8,.s 1 a9,.s 1 aA,.s 1 aB,.v (.int Za aC),.s 3 aD,.v (.int Za aE),.v (.int Za aF),.v (.int Za aG),.v (.int Za aH),.v (.bool aI),.v (.int Za aJ),.v (.int Za aK),.s 1 aL,.v (.int Za aM),.v (.int Za aN)],.one (.v (.int Za t))]=>some (fun _=>iI a0 a1 a2 a4 a5 a6 a7 a8 a9 aA aB aD aL,[.k (F.t0B (F.hpI a0 a1 a2 a3 a4 a5 a6 a7 a8 a9 aA aB aC aD aE aF aG aH aI aJ aK aL aM aN) a3 t a9)])
 |28,[.one (.v (.int Za x)),.one (.v (.int Za a)),.one (.v (.int Za b))]=>some (fun _=>True,[.k (F.inR x a b)])
 |26,[.agg [.s 1 a0,.s 1 a1,.s 2 a2,.v (.int Za a3),.s 1 a4,.s 2 a5,.s 3 a6,.s 3 a7,.s 4 a8,.s 1 a9,.s 1 aA,.s 1 aB,.v (.int Za aC),.s 3 aD,.v (.int Za aE),.v (.int Za aF),.v (.int Za aG),.v (.int Za aH),.v (.bool aI),.v (.int Za aJ),.v (.int Za aK),.s 1 aL,.v (.int Za aM),.v (.int Za aN)]]=>some (fun _=>iI a0 a1 a2 a4 a5 a6 a7 a8 a9 aA aB aD aL,[.agg (iF a0 a1 a2 a3 a4 a5 a6 a7 a8 a9 aA aB aC aD aE aF aG aH aI aJ aK aL aM aN)])
 |_,_=>none
theorem aj:aT (ct F0):=by
 intro f ds pre res h hp;unfold ct at h;split at h<;>cases h
 exact x9 hp;exact be hp;exact j9 hp
def pt (F:aP):PT:=fun f=>match f with
 | 29=>some fun ds=>match ds with
   |[.mp [.own (.s 1 a0),.own (.s 1 a1),.own (.s 2 a2),.own (.v (.int Za a3)),.own (.s 1 a4),.own (.s 2 a5),.own (.s 3 a6),.own (.s 3 a7),.own (.s 4 a8),.own (.s 1 a9),.own (.s 1 aA),.own (.s 1 aB),.own (.v (.int Za aC)),.own (.s 3 aD),.own (.v (.int Za aE)),.own (.v (.int Za aF)),.own (.v (.int Za aG)),.own (.v (.int Za aH)),.own (.v (.bool aI)),.own (.v (.int Za aJ)),.own (.v (.int Za aK)),.own (.s 1 aL),.own (.v (.int Za aM)),.own (.v (.int Za aN))],.one (.v (.int Za n))]=>some (fun _=>iI a0 a1 a2 a4 a5 a6 a7 a8 a9 aA aB aD aL/\hpI a0 a1 a2 a3 a4 a5 a6 a7 a8 a9 aA aB aC aD aE aF aG aH aI aJ aK aL aM aN=true/\a3≠100000/\0<=n/\aF+n<=1000000,[(zz (F.tkC aI aJ aK a0 a1 a2 a5 a6 (F.qeR aC aD (F.ckN aF n) 100)) (F.tkU aI aJ aK a0 a1 a2 a5 a6 (F.qeR aC aD (F.ckN aF n) 100)) (F.tkE aI aJ aK a0 a1 a2 a5 a6 (F.qeR aC aD (F.ckN aF n) 100)) a3 a4 (F.tkF aI aJ aK a0 a1 a2 a5 a6 (F.qeR aC aD (F.ckN aF n) 100)) (F.tkS aI aJ aK a0 a1 a2 a5 a6 (F.qeR aC aD (F.ckN aF n) 100)) a7 a8 a9 aA aB aC (F.qeL aC aD (F.ckN aF n) 100) aE (F.ckN aF n) aG aH aI aJ aK aL aM aN)],[.j (F.lenI (F.qeR aC aD (F.ckN aF n) 100))])
   |_=>none
 |_=>none
theorem gJ:pE (pt F0):=by
 intro f mk h ds pre outs res hm hp;unfold pt at h;split at h
 ·cases h;dsimp only at hm;split at hm
  ·cases hm;exact tX hp
  ·cases hm
 ·cases h
abbrev B:cF:={Φ:=aP,F0:=F0,ct:=ct,hc:=aj,pt:=pt,hp:=gJ}
end Zl2
theorem rx {a0 a1 a2:aa}{a3:Int}{a4 a5 a6 a7 a8 a9 aA aB:aa}{aC:Int}{aD:aa}{aE aF aG aH:Int}{aI:Bool}{aJ aK:Int}{aL:aa}{aM aN n:Int}(hp:iI a0 a1 a2 a4 a5 a6 a7 a8 a9 aA aB aD aL/\(-9223372036854775808<=n/\n<=9223372036854775807)):ap 7 [.agg (iF a0 a1 a2 a3 a4 a5 a6 a7 a8 a9 aA aB aC aD aE aF aG aH aI aJ aK aL aM aN),.j n] [.agg (iF (ifR (tgB (hpI a0 a1 a2 a3 a4 a5 a6 a7 a8 a9 aA aB aC aD aE aF aG aH aI aJ aK aL aM aN) a3 n aF) (tkC aI aJ aK a0 a1 a2 a5 a6 (qeR aC aD (ckN aF n) 100)) a0) (ifR (tgB (hpI a0 a1 a2 a3 a4 a5 a6 a7 a8 a9 aA aB aC aD aE aF aG aH aI aJ aK aL aM aN) a3 n aF) (tkU aI aJ aK a0 a1 a2 a5 a6 (qeR aC aD (ckN aF n) 100)) a1) (ifR (tgB (hpI a0 a1 a2 a3 a4 a5 a6 a7 a8 a9 aA aB aC aD aE aF aG aH aI aJ aK aL aM aN) a3 n aF) (tkE aI aJ aK a0 a1 a2 a5 a6 (qeR aC aD (ckN aF n) 100)) a2) a3 a4 (ifR (tgB (hpI a0 a1 a2 a3 a4 a5 a6 a7 a8 a9 aA aB aC aD aE aF aG aH aI aJ aK aL aM aN) a3 n aF) (tkF aI aJ aK a0 a1 a2 a5 a6 (qeR aC aD (ckN aF n) 100)) a5) (ifR (tgB (hpI a0 a1 a2 a3 a4 a5 a6 a7 a8 a9 aA aB aC aD aE aF aG aH aI aJ aK aL aM aN) a3 n aF) (tkS aI aJ aK a0 a1 a2 a5 a6 (qeR aC aD (ckN aF n) 100)) a6) a7 a8 a9 aA aB aC (ifR (tgB (hpI a0 a1 a2 a3 a4 a5 a6 a7 a8 a9 aA aB aC aD aE aF aG aH aI aJ aK aL aM aN) a3 n aF) (qeL aC aD (ckN aF n) 100) aD) aE (ifN (tgB (hpI a0 a1 a2 a3 a4 a5 a6 a7 a8 a9 aA aB aC aD aE aF aG aH aI aJ aK aL aM aN) a3 n aF) (ckN aF n) aF) aG aH aI aJ aK aL aM aN),.j (ifN (tgB (hpI a0 a1 a2 a3 a4 a5 a6 a7 a8 a9 aA aB aC aD aE aF aG aH aI aJ aK aL aM aN) a3 n aF) (lenI (qeR aC aD (ckN aF n) 100)) 0)]:=by
 obtain⟨hp,hA⟩:=hp;refine cb Zl2.B Tryz.func7 ?_
 intro O r F hO hr hF;cbv
 repeat' first|apply Zb|(apply bu<;>intro hb<;>cbv)
 all_goals(subst hO hr hF;(try simp only[nc]at*);(try simp only[ak,SS,sa,az]at*);(try have hk:hpI a0 a1 a2 a3 a4 a5 a6 a7 a8 a9 aA aB aC aD aE aF aG aH aI aJ aK aL aM aN=true:=(by assumption));(try have hk:=(DT (by assumption:t0B (hpI a0 a1 a2 a3 a4 a5 a6 a7 a8 a9 aA aB aC aD aE aF aG aH aI aJ aK aL aM aN) a3 0 a9=true)).1);(try have c3:=(DT (by assumption:t0B (hpI a0 a1 a2 a3 a4 a5 a6 a7 a8 a9 aA aB aC aD aE aF aG aH aI aJ aK aL aM aN) a3 0 a9=true)).2.1);(try have c3:a3≠100000:=(by assumption));(try have hn:=c3);(try have r15:=bB.1 (nC hk).t);(try have rn:=bB.1 (by assumption:inR n 0 1000=true));(try have e1:bK .add Za aF n=ckN aF n:=bh (by omega));(try simp only[e1]at*);(try have n1:ckN aF n<=1000000:=(by omega));(try have n0:1000000<ckN aF n:=(by omega));(try have n1:aF+n<=1000000:=n1);(try have n0:1000000<aF+n:=n0);(try have TT:=yV hp hk rn.1 n1);(try have wr:=TT.r);(try have lm:=TT.m))
 all_goals first
  | (show(_:List DV)=_
     first
      |(rw[U8 (by assumption)];exact rfl)
      |(rw[NU (k:=hpI a0 a1 a2 a3 a4 a5 a6 a7 a8 a9 aA aB aC aD aE aF aG aH aI aJ aK aL aM aN) (c:=a3) (n:=n) (ck:=aF) (by assumption)];exact rfl)
      |(rw[NV (k:=hpI a0 a1 a2 a3 a4 a5 a6 a7 a8 a9 aA aB aC aD aE aF aG aH aI aJ aK aL aM aN) (c:=a3) (n:=n) (ck:=aF) (by assumption)];exact rfl)
      |(rw[R5 (k:=hpI a0 a1 a2 a3 a4 a5 a6 a7 a8 a9 aA aB aC aD aE aF aG aH aI aJ aK aL aM aN) (c:=a3) (n:=n) (ck:=aF) (by assumption)];exact rfl)
      |(rw[R6 (k:=hpI a0 a1 a2 a3 a4 a5 a6 a7 a8 a9 aA aB aC aD aE aF aG aH aI aJ aK aL aM aN) (c:=a3) (n:=n) (ck:=aF) (by omega)];exact rfl)
      |(have gt:=NW (k:=hpI a0 a1 a2 a3 a4 a5 a6 a7 a8 a9 aA aB aC aD aE aF aG aH aI aJ aK aL aM aN) (c:=a3) (n:=n) (ck:=aF) hk c3 (by assumption) n1;rw[gt];exact rfl)
      |done)
  | (show(_:List H)=_
     first
      |done)
  |omega
  |exact eF
  |exact⟨hp,hk,c3,rn.1,n1⟩
  |(have h:=Lg (b:=tgB (hpI a0 a1 a2 a3 a4 a5 a6 a7 a8 a9 aA aB aC aD aE aF aG aH aI aJ aK aL aM aN) a3 n aF) hp rfl;rw[NW (k:=hpI a0 a1 a2 a3 a4 a5 a6 a7 a8 a9 aA aB aC aD aE aF aG aH aI aJ aK aL aM aN) (c:=a3) (n:=n) (ck:=aF) hk c3 (by assumption) n1]at h;exact h)
  |exact hp
  |exact hp.hp
  |exact⟨hp.r0,hp.r1,hp.r2,hp.r4⟩
  |(show aV _ _=true;kernel_rfl)
  |exact⟨Zk,Zk⟩
  |exact Zk
  |done
end Go.V