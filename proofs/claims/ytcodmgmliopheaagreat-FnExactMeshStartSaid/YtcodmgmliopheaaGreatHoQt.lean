/- Contracts. -/
import Derived.Test.YtcodmgmliopheaaGreatHoPt
set_option linter.all false
namespace Go.V
open Go Go.Proofs
set_option maxRecDepth 1000000
set_option maxHeartbeats 8000000
namespace Mt0
structure aQ where
 hpI:aa->aa->aa->Int->aa->aa->aa->aa->aa->aa->aa->aa->Int->aa->Int->Int->Int->Int->Bool->Int->Int->aa->Int->Int->Bool
 msS:aa->aa->aa
 sqL:aa->Int->Int->aa
 sqS:aa->Int->Int->Int
 ppK:Int->Int->Int->Int->Int->Int->Int
 ppM:Int->Int->Int->Int->Int->Int->Int
 ppC:Int->Int->Int->Int->Int->Int->aa
 mshB:Int->Int->Int->Int->Int->Int->Bool
 ifZ:Bool->Int->Int
 plOk:Int->Int->aa->Bool
 ifR:Bool->aa->aa->aa
abbrev F0 :aQ:=⟨hpI,msS,sqL,sqS,ppK,ppM,ppC,mshB,ifZ,plOk,ifR⟩
def ct (F:aQ):CT:=fun f ds=>match f with
 | 53=>match ds with
   |[.agg [.s 1 a0,.s 1 a1,.s 2 a2,.v (.int .i64 a3),.s 1 a4,.s 2 a5,.s 3 a6,.s 3 a7,.s 4 a8,.s 1 a9,.s 1 aA,.s 1 aB,.v (.int .i64 aC),.s 3 aD,.v (.int .i64 aE),.v (.int .i64 aF),.v (.int .i64 aG),.v (.int .i64 aH),.v (.bool aI),.v (.int .i64 aJ),.v (.int .i64 aK),.s 1 aL,.v (.int .i64 aM),.v (.int .i64 aN)]]=>some (fun _=>pJ a0 a1 a2 a4 a5 a6 a7 a8 a9 aA aB aD aL,[.agg (fU a0 a1 a2 a3 a4 a5 a6 a7 a8 a9 aA aB aC aD aE aF aG aH aI aJ aK aL aM aN)])
   |_=>none
 | 55=>match ds with
   |[.agg [.s 1 a0,.s 1 a1,.s 2 a2,.v (.int .i64 a3),.s 1 a4,.s 2 a5,.s 3 a6,.s 3 a7,.s 4 a8,.s 1 a9,.s 1 aA,.s 1 aB,.v (.int .i64 aC),.s 3 aD,.v (.int .i64 aE),.v (.int .i64 aF),.v (.int .i64 aG),.v (.int .i64 aH),.v (.bool aI),.v (.int .i64 aJ),.v (.int .i64 aK),.s 1 aL,.v (.int .i64 aM),.v (.int .i64 aN)]]=>some (fun _=>LB a0 a1 a2 a4 a5 a6 a7 a8 a9 aA aB aD aL,[.k (F.hpI a0 a1 a2 a3 a4 a5 a6 a7 a8 a9 aA aB aC aD aE aF aG aH aI aJ aK aL aM aN)])
   |_=>none
 | 84=>match ds with
   |[.agg [.s 1 a0,.s 1 a1,.s 2 a2,.v (.int .i64 a3),.s 1 a4,.s 2 a5,.s 3 a6,.s 3 a7,.s 4 a8,.s 1 a9,.s 1 aA,.s 1 aB,.v (.int .i64 aC),.s 3 aD,.v (.int .i64 aE),.v (.int .i64 aF),.v (.int .i64 aG),.v (.int .i64 aH),.v (.bool aI),.v (.int .i64 aJ),.v (.int .i64 aK),.s 1 aL,.v (.int .i64 aM),.v (.int .i64 aN)]]=>some (fun _=>Rw [tI,tI] a2/\Rw [tI,tI,tI] a6/\a2.length<=1099511627776/\a6.length<=1099511627776,[.one (.s 3 (F.msS a2 a6))])
   |_=>none
 | 85=>match ds with
   |[.one (.s 3 sp),.one (.v (.int .i64 s)),.one (.v (.int .i64 k))]=>some (fun _=>Rw [tI,tI,tI] sp/\sp.length<=1073741824,[.one (.s 2 (F.sqL sp s k)),.j (F.sqS sp s k)])
   |_=>none
 | 86=>match ds with
   |[.agg [.v (.int .i64 p),.v (.int .i64 k),.v (.int .i64 b)],.agg [.v (.int .i64 q),.v (.int .i64 l),.v (.int .i64 c)]]=>some (fun _=>True,[.agg [.i (F.ppK p k b q l c),.i (F.ppM p k b q l c),.s 1 (F.ppC p k b q l c)],.k (F.mshB p k b q l c)])
   |_=>none
 | 87=>match ds with
   |[.agg [.v (.int .i64 k),.v (.int .i64 m),.s 1 cs]]=>some (fun _=>Rw [tI] cs/\cs.length<=1099511627776,[.agg [.i (F.ifZ (F.plOk k m cs) k),.i (F.ifZ (F.plOk k m cs) m),.s 1 (F.ifR (F.plOk k m cs) cs []),.i 0,.i 0],.k (F.plOk k m cs)])
   |_=>none
 | 201=>match ds with
   |[.agg [.s 1 a0,.s 1 a1,.s 2 a2,.v (.int .i64 a3),.s 1 a4,.s 2 a5,.s 3 a6,.s 3 a7,.s 4 a8,.s 1 a9,.s 1 aA,.s 1 aB,.v (.int .i64 aC),.s 3 aD,.v (.int .i64 aE),.v (.int .i64 aF),.v (.int .i64 aG),.v (.int .i64 aH),.v (.bool aI),.v (.int .i64 aJ),.v (.int .i64 aK),.s 1 aL,.v (.int .i64 aM),.v (.int .i64 aN)]]=>some (fun _=>Rw [tI,tI] a2/\Rw [tI,tI,tI] a6/\a2.length<=1099511627776/\a6.length<=1099511627776,[.one (.s 3 (F.msS a2 a6))])
   |_=>none
 | 202=>match ds with
   |[.one (.s 3 sp),.one (.v (.int .i64 s)),.one (.v (.int .i64 k))]=>some (fun _=>Rw [tI,tI,tI] sp/\sp.length<=1073741824,[.one (.s 2 (F.sqL sp s k)),.j (F.sqS sp s k)])
   |_=>none
 | 203=>match ds with
   |[.agg [.v (.int .i64 p),.v (.int .i64 k),.v (.int .i64 b)],.agg [.v (.int .i64 q),.v (.int .i64 l),.v (.int .i64 c)]]=>some (fun _=>True,[.agg [.i (F.ppK p k b q l c),.i (F.ppM p k b q l c),.s 1 (F.ppC p k b q l c)],.k (F.mshB p k b q l c)])
   |_=>none
 | 204=>match ds with
   |[.agg [.v (.int .i64 k),.v (.int .i64 m),.s 1 cs]]=>some (fun _=>Rw [tI] cs/\cs.length<=1099511627776,[.agg [.i (F.ifZ (F.plOk k m cs) k),.i (F.ifZ (F.plOk k m cs) m),.s 1 (F.ifR (F.plOk k m cs) cs []),.i 0,.i 0],.k (F.plOk k m cs)])
   |_=>none
 |_=>none
theorem ah :aR (ct F0):=by
 intro f ds pre res h hp;unfold ct at h;split at h<;>(try split at h)<;>cases h
 exact ju hp;exact kX hp;exact oz hp;exact mw hp;exact qq hp;exact vP hp;exact oU hp;exact mT hp;exact rB hp;exact wn hp
abbrev B :cq:=tb ah
end Mt0
theorem oA {a0 a1 a2:aa}{a3:Int}{a4 a5 a6 a7 a8 a9 aA aB:aa}{aC:Int}{aD:aa}{aE aF aG aH:Int}{aI:Bool}{aJ aK:Int}{aL:aa}{aM aN:Int}(hp:pJ a0 a1 a2 a4 a5 a6 a7 a8 a9 aA aB aD aL):ap 19 [.agg (fU a0 a1 a2 a3 a4 a5 a6 a7 a8 a9 aA aB aC aD aE aF aG aH aI aJ aK aL aM aN)] [.agg (fU a0 a1 a2 a3 a4 a5 a6 a7 a8 a9 aA aB aC aD (mtD (mtG (hpI a0 a1 a2 a3 a4 a5 a6 a7 a8 a9 aA aB aC aD aE aF aG aH aI aJ aK aL aM aN) aI) a2 a6 aE) aF aG aH (mtO (mtG (hpI a0 a1 a2 a3 a4 a5 a6 a7 a8 a9 aA aB aC aD aE aF aG aH aI aJ aK aL aM aN) aI) a2 a6 aE aI) (mtJk (mtG (hpI a0 a1 a2 a3 a4 a5 a6 a7 a8 a9 aA aB aC aD aE aF aG aH aI aJ aK aL aM aN) aI) a2 a6 aE aJ) (mtJm (mtG (hpI a0 a1 a2 a3 a4 a5 a6 a7 a8 a9 aA aB aC aD aE aF aG aH aI aJ aK aL aM aN) aI) a2 a6 aE aK) (mtJc (mtG (hpI a0 a1 a2 a3 a4 a5 a6 a7 a8 a9 aA aB aC aD aE aF aG aH aI aJ aK aL aM aN) aI) a2 a6 aE aL) (mtJ0 (mtG (hpI a0 a1 a2 a3 a4 a5 a6 a7 a8 a9 aA aB aC aD aE aF aG aH aI aJ aK aL aM aN) aI) a2 a6 aE aM) (mtJ0 (mtG (hpI a0 a1 a2 a3 a4 a5 a6 a7 a8 a9 aA aB aC aD aE aF aG aH aI aJ aK aL aM aN) aI) a2 a6 aE aN)),.k (mtB (mtG (hpI a0 a1 a2 a3 a4 a5 a6 a7 a8 a9 aA aB aC aD aE aF aG aH aI aJ aK aL aM aN) aI) a2 a6 aE)]:=by
 have l2:=aP (es:=a2);have c2:=hp.c2;have l6:=aP (es:=a6);have c6:=hp.c6;have ml:=sr (e:=a2) (s:=a6);have mlm:=GE (e:=a2) (s:=a6);have mr:=(C6 (es:=a2) hp.r6).1;have mtr:=BD (e:=a2) hp.r6;have P:=yz (e:=a2) (s:=a6) (d:=aE);have Pr:=P.1.r;refine cb Mt0.B Tryz.func19 ?_
 intro O r F hO hr hF;cbv
 repeat' first|apply And.intro|(apply bi<;>intro hb<;>cbv)
 all_goals(subst hO hr hF;(try simp only[nc]at*);(try simp only[ai,SS,sa,az]at*))
 all_goals exact V7
theorem rH {a0 a1 a2:aa}{a3:Int}{a4 a5 a6 a7 a8 a9 aA aB:aa}{aC:Int}{aD:aa}{aE aF aG aH:Int}{aI:Bool}{aJ aK:Int}{aL:aa}{aM aN:Int}(hp:pJ a0 a1 a2 a4 a5 a6 a7 a8 a9 aA aB aD aL):EI 83 [.mp (Uj a0 a1 a2 a3 a4 a5 a6 a7 a8 a9 aA aB aC aD aE aF aG aH aI aJ aK aL aM aN)] [(Uj a0 a1 a2 a3 a4 a5 a6 a7 a8 a9 aA aB aC aD (mtD true a2 a6 aE) aF aG aH (mtO true a2 a6 aE aI) (mtJk true a2 a6 aE aJ) (mtJm true a2 a6 aE aK) (mtJc true a2 a6 aE aL) (mtJ0 true a2 a6 aE aM) (mtJ0 true a2 a6 aE aN))] [.k (mtB true a2 a6 aE)]:=by
 have l2:=aP (es:=a2);have c2:=hp.c2;have l6:=aP (es:=a6);have c6:=hp.c6;have ml:=sr (e:=a2) (s:=a6);have mlm:=GE (e:=a2) (s:=a6);have mr:=(C6 (es:=a2) hp.r6).1;have mtr:=BD (e:=a2) hp.r6;have P:=yz (e:=a2) (s:=a6) (d:=aE);have Pr:=P.1.r;refine pb Mt0.B Tryz.func83 ?_
 intro O r os F hO hr hos hF;cbv
 repeat' first|apply And.intro|(apply bi<;>intro hb<;>cbv)
 all_goals((try subst hos);subst hO hr hF;(try simp only[nc]at*);(try simp only[ai,SS,sa,az]at*))
 all_goals exact V7
namespace Mt1
structure aQ where
 hpI:aa->aa->aa->Int->aa->aa->aa->aa->aa->aa->aa->aa->Int->aa->Int->Int->Int->Int->Bool->Int->Int->aa->Int->Int->Bool
 mtB:Bool->aa->aa->Int->Bool
 mtD:Bool->aa->aa->Int->Int
 mtO:Bool->aa->aa->Int->Bool->Bool
 mtJk:Bool->aa->aa->Int->Int->Int
 mtJm:Bool->aa->aa->Int->Int->Int
 mtJc:Bool->aa->aa->Int->aa->aa
 mtJ0:Bool->aa->aa->Int->Int->Int
abbrev F0 :aQ:=⟨hpI,mtB,mtD,mtO,mtJk,mtJm,mtJc,mtJ0⟩
def ct (F:aQ):CT:=fun f ds=>match f,ds with
 |41,[.agg [.s 1 a0,.s 1 a1,.s 2 a2,.v (.int .i64 a3),.s 1 a4,.s 2 a5,.s 3 a6,.s 3 a7,.s 4 a8,.s 1 a9,.s 1 aA,.s 1 aB,.v (.int .i64 aC),.s 3 aD,.v (.int .i64 aE),.v (.int .i64 aF),.v (.int .i64 aG),.v (.int .i64 aH),.v (.bool aI),.v (.int .i64 aJ),.v (.int .i64 aK),.s 1 aL,.v (.int .i64 aM),.v (.int .i64 aN)]]=>some (fun _=>pJ a0 a1 a2 a4 a5 a6 a7 a8 a9 aA aB aD aL,[.agg (fU a0 a1 a2 a3 a4 a5 a6 a7 a8 a9 aA aB aC aD aE aF aG aH aI aJ aK aL aM aN)])
 |42,[.agg [.s 1 a0,.s 1 a1,.s 2 a2,.v (.int .i64 a3),.s 1 a4,.s 2 a5,.s 3 a6,.s 3 a7,.s 4 a8,.s 1 a9,.s 1 aA,.s 1 aB,.v (.int .i64 aC),.s 3 aD,.v (.int .i64 aE),.v (.int .i64 aF),.v (.int .i64 aG),.v (.int .i64 aH),.v (.bool aI),.v (.int .i64 aJ),.v (.int .i64 aK),.s 1 aL,.v (.int .i64 aM),.v (.int .i64 aN)]]=>some (fun _=>LB a0 a1 a2 a4 a5 a6 a7 a8 a9 aA aB aD aL,[.k (F.hpI a0 a1 a2 a3 a4 a5 a6 a7 a8 a9 aA aB aC aD aE aF aG aH aI aJ aK aL aM aN)])
 |_,_=>none
theorem ah :aR (ct F0):=by
 intro f ds pre res h hp;unfold ct at h;split at h<;>cases h
 exact jY hp;exact k9 hp
def pt (F:aQ):PT:=fun f=>match f with
 | 83=>some fun ds=>match ds with
   |[.mp [.own (.s 1 a0),.own (.s 1 a1),.own (.s 2 a2),.own (.v (.int .i64 a3)),.own (.s 1 a4),.own (.s 2 a5),.own (.s 3 a6),.own (.s 3 a7),.own (.s 4 a8),.own (.s 1 a9),.own (.s 1 aA),.own (.s 1 aB),.own (.v (.int .i64 aC)),.own (.s 3 aD),.own (.v (.int .i64 aE)),.own (.v (.int .i64 aF)),.own (.v (.int .i64 aG)),.own (.v (.int .i64 aH)),.own (.v (.bool aI)),.own (.v (.int .i64 aJ)),.own (.v (.int .i64 aK)),.own (.s 1 aL),.own (.v (.int .i64 aM)),.own (.v (.int .i64 aN))]]=>some (fun _=>pJ a0 a1 a2 a4 a5 a6 a7 a8 a9 aA aB aD aL,[(Uj a0 a1 a2 a3 a4 a5 a6 a7 a8 a9 aA aB aC aD (F.mtD true a2 a6 aE) aF aG aH (F.mtO true a2 a6 aE aI) (F.mtJk true a2 a6 aE aJ) (F.mtJm true a2 a6 aE aK) (F.mtJc true a2 a6 aE aL) (F.mtJ0 true a2 a6 aE aM) (F.mtJ0 true a2 a6 aE aN))],[.k (F.mtB true a2 a6 aE)])
   |_=>none
 |_=>none
theorem Ap :EK (pt F0):=by
 intro f mk h ds pre outs res hm hp;unfold pt at h;split at h
 ·cases h;dsimp only at hm;split at hm
  ·cases hm;exact rH hp
  ·cases hm
 ·cases h
abbrev B :cq:={Φ:=aQ,F0:=F0,ct:=ct,hc:=ah,pt:=pt,hp:=Ap}
end Mt1
theorem oV {a0 a1 a2:aa}{a3:Int}{a4 a5 a6 a7 a8 a9 aA aB:aa}{aC:Int}{aD:aa}{aE aF aG aH:Int}{aI:Bool}{aJ aK:Int}{aL:aa}{aM aN:Int}(hp:pJ a0 a1 a2 a4 a5 a6 a7 a8 a9 aA aB aD aL):ap 18 [.agg (fU a0 a1 a2 a3 a4 a5 a6 a7 a8 a9 aA aB aC aD aE aF aG aH aI aJ aK aL aM aN)] [.agg (fU a0 a1 a2 a3 a4 a5 a6 a7 a8 a9 aA aB aC aD (mtD (mtG (hpI a0 a1 a2 a3 a4 a5 a6 a7 a8 a9 aA aB aC aD aE aF aG aH aI aJ aK aL aM aN) aI) a2 a6 aE) aF aG aH (mtO (mtG (hpI a0 a1 a2 a3 a4 a5 a6 a7 a8 a9 aA aB aC aD aE aF aG aH aI aJ aK aL aM aN) aI) a2 a6 aE aI) (mtJk (mtG (hpI a0 a1 a2 a3 a4 a5 a6 a7 a8 a9 aA aB aC aD aE aF aG aH aI aJ aK aL aM aN) aI) a2 a6 aE aJ) (mtJm (mtG (hpI a0 a1 a2 a3 a4 a5 a6 a7 a8 a9 aA aB aC aD aE aF aG aH aI aJ aK aL aM aN) aI) a2 a6 aE aK) (mtJc (mtG (hpI a0 a1 a2 a3 a4 a5 a6 a7 a8 a9 aA aB aC aD aE aF aG aH aI aJ aK aL aM aN) aI) a2 a6 aE aL) (mtJ0 (mtG (hpI a0 a1 a2 a3 a4 a5 a6 a7 a8 a9 aA aB aC aD aE aF aG aH aI aJ aK aL aM aN) aI) a2 a6 aE aM) (mtJ0 (mtG (hpI a0 a1 a2 a3 a4 a5 a6 a7 a8 a9 aA aB aC aD aE aF aG aH aI aJ aK aL aM aN) aI) a2 a6 aE aN)),.k (mtB (mtG (hpI a0 a1 a2 a3 a4 a5 a6 a7 a8 a9 aA aB aC aD aE aF aG aH aI aJ aK aL aM aN) aI) a2 a6 aE)]:=by
 have l2:=aP (es:=a2);have c2:=hp.c2;have l6:=aP (es:=a6);have c6:=hp.c6;have ml:=sr (e:=a2) (s:=a6);have mlm:=GE (e:=a2) (s:=a6);have mr:=(C6 (es:=a2) hp.r6).1;have mtr:=BD (e:=a2) hp.r6;have P:=yz (e:=a2) (s:=a6) (d:=aE);have Pr:=P.1.r;refine cb Mt1.B Tryz.func18 ?_
 intro O r F hO hr hF;cbv
 repeat' first|apply And.intro|(apply bi<;>intro hb<;>cbv)
 all_goals(subst hO hr hF;(try simp only[nc]at*);(try simp only[ai,SS,sa,az]at*);(try have hk:hpI a0 a1 a2 a3 a4 a5 a6 a7 a8 a9 aA aB aC aD aE aF aG aH aI aJ aK aL aM aN=true:=(by assumption)))
 all_goals first
  | (show(_:List DV)=_
     first
      |(have g0:mtG (hpI a0 a1 a2 a3 a4 a5 a6 a7 a8 a9 aA aB aC aD aE aF aG aH aI aJ aK aL aM aN) aI=false:=KP (by assumption);rw[g0];exact rfl)
      |(have g0:mtG (hpI a0 a1 a2 a3 a4 a5 a6 a7 a8 a9 aA aB aC aD aE aF aG aH aI aJ aK aL aM aN) aI=false:=(by rw[show aI=true by assumption];exact KO);rw[g0];exact rfl)
      |(have g1:mtG (hpI a0 a1 a2 a3 a4 a5 a6 a7 a8 a9 aA aB aC aD aE aF aG aH aI aJ aK aL aM aN) aI=true:=GH (by assumption) (by assumption);rw[g1];exact rfl)
      |done)
  | (show(_:List H)=_
     first
      |done)
  |omega
  |exact eQ
  |exact hp
  |exact hp.hp
  |exact⟨hp.r2,hp.r6,by omega,by omega⟩
  |(show aZ _ _=true;kernel_rfl)
  |exact⟨True.intro,True.intro⟩
  |exact True.intro
  |done
end Go.V