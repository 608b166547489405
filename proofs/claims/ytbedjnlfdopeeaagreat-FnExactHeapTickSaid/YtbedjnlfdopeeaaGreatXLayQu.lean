/- Contracts. -/
import Derived.Test.YtbedjnlfdopeeaaGreatXLayPu
import Derived.Test.YtbedjnlfdopeeaaGreatXKerBu
set_option linter.all false
open Go
open And renaming intro->Zb
open IntKind renaming i64->Za
namespace Go.V
open Go Go.Proofs
set_option maxRecDepth 1000000
set_option maxHeartbeats 8000000
theorem wC {k m:Int}{cs:aa}{ph nx:Int}(hp:True):ap 174 [.agg [.i k,.i m,.s 1 cs,.i ph,.i nx]] [.k (jobZ k m cs ph nx)]:=by
 refine cb nB Tryz.func174 ?_
 intro O r F hO hr hF;cbv
 repeat' first|apply Zb|(apply bu<;>intro hb<;>cbv)
 all_goals(subst hO hr hF;(try simp only[nc]at*);(try simp only[ak,SS,sa,az]at*))
 all_goals first|(show(_:List DV)=_;refine ai ?_;unfold jobZ;simp[*,cmp_eq];done)|(show(_:List DV)=_;refine ai ?_;unfold jobZ;rw[aa0 (p:=cs.length=0) (by omega),cmp_eq];simp[*];done)|(show(_:List DV)=_;refine ai ?_;unfold jobZ;rw[aa1 (p:=cs.length=0) (by omega)];simp;done)|done
namespace Qa1
structure aP where
 kerOk:aa->aa->aa->Int->aa->Bool
 rgOk:Int->aa->Bool
 layOk:aa->aa->Bool
 pgI:aa->aa->aa->aa->Bool
 mailOk:aa->aa->Bool
 quarOk:Int->aa->Bool
 caOk:aa->Bool
 objOk:aa->aa->aa->aa->Int->Bool
 hoI:aa->aa->aa->aa->aa->aa->aa->Int->Bool
 inR:Int->Int->Int->Bool
 jbOk:Int->Int->aa->Int->Int->Bool
 spI:aa->Int->Int
abbrev F0:aP:=⟨kerOk,rgOk,layOk,pgI,mailOk,quarOk,caOk,objOk,hoI,inR,jbOk,spI⟩
def ct (F:aP):CT:=fun f ds=>match f with
 | 124=>match ds with
   |[.agg [.s 1 cs,.s 1 us,.s 2 es,.v (.int Za c),.s 1 rs]]=>some (fun _=>Rw [.sl [tI]] cs/\Rw [tB] us/\Rw [tI,tI] es/\Rw [tI] rs,[.k (F.kerOk cs us es c rs)])
   |_=>none
 | 125=>match ds with
   |[.one (.v (.int Za n)),.one (.s 2 rs)]=>some (fun _=>0<=n/\n<=1099511627776/\Rw [tI,tI] rs/\rs.length<=1099511627776,[.k (F.rgOk n rs)])
   |_=>none
 | 126=>match ds with
   |[.one (.s 3 sp),.one (.s 3 lg)]=>some (fun _=>Rw [tI,tI,tI] sp/\Rw [tI,tI,tI] lg/\sp.length<=1073741824/\lg.length<=1073741824,[.k (F.layOk sp lg)])
   |_=>none
 | 127=>match ds with
   |[.agg [.s 1 a0,.s 1 a1,.s 2 a2,.v (.int Za a3),.s 1 a4,.s 2 a5,.s 3 a6,.s 3 a7,.s 4 a8,.s 1 a9,.s 1 aA,.s 1 aB,.v (.int Za aC),.s 3 aD,.v (.int Za aE),.v (.int Za aF),.v (.int Za aG),.v (.int Za aH),.v (.bool aI),.v (.int Za aJ),.v (.int Za aK),.s 1 aL,.v (.int Za aM),.v (.int Za aN)]]=>some (fun _=>zx a6 a7 a8 a9 aA aB aD/\layOk a6 a7=true/\Rw [tI,tI] a2/\a2.length<=1099511627776/\Rw [tI,tI] a5/\a5.length<=1099511627776,[.k (F.pgI a2 a5 a6 a7)])
   |_=>none
 | 128=>match ds with
   |[.agg [.s 1 b,.s 1 x]]=>some (fun _=>zy b x,[.k (F.mailOk b x)])
   |_=>none
 | 129=>match ds with
   |[.agg [.v (.int Za rm),.s 3 qs]]=>some (fun _=>Rw [tI,tI,tI] qs/\qs.length<=1073741824,[.k (F.quarOk rm qs)])
   |_=>none
 | 130=>match ds with
   |[.agg [.s 1 ls]]=>some (fun _=>JI ls,[.k (F.caOk ls)])
   |_=>none
 | 131=>match ds with
   |[.agg [.s 1 a0,.s 1 a1,.s 2 a2,.v (.int Za a3),.s 1 a4,.s 2 a5,.s 3 a6,.s 3 a7,.s 4 a8,.s 1 a9,.s 1 aA,.s 1 aB,.v (.int Za aC),.s 3 aD,.v (.int Za aE),.v (.int Za aF),.v (.int Za aG),.v (.int Za aH),.v (.bool aI),.v (.int Za aJ),.v (.int Za aK),.s 1 aL,.v (.int Za aM),.v (.int Za aN)]]=>some (fun _=>zx a6 a7 a8 a9 aA aB aD/\layOk a6 a7=true,[.k (F.objOk a6 a7 a8 a9 aH)])
   |_=>none
 | 132=>match ds with
   |[.agg [.s 1 a0,.s 1 a1,.s 2 a2,.v (.int Za a3),.s 1 a4,.s 2 a5,.s 3 a6,.s 3 a7,.s 4 a8,.s 1 a9,.s 1 aA,.s 1 aB,.v (.int Za aC),.s 3 aD,.v (.int Za aE),.v (.int Za aF),.v (.int Za aG),.v (.int Za aH),.v (.bool aI),.v (.int Za aJ),.v (.int Za aK),.s 1 aL,.v (.int Za aM),.v (.int Za aN)]]=>some (fun _=>zx a6 a7 a8 a9 aA aB aD/\layOk a6 a7=true,[.k (F.hoI a6 a7 a8 a9 aA aB aD aF)])
   |_=>none
 | 133=>match ds with
   |[.one (.v (.int Za c))]=>some (fun _=>True,[.k (F.inR c 0 1073741823)])
   |_=>none
 | 41=>match ds with
   |[.one (.v (.int Za x)),.one (.v (.int Za a)),.one (.v (.int Za b))]=>some (fun _=>True,[.k (F.inR x a b)])
   |_=>none
 | 134=>match ds with
   |[.agg [.v (.int Za k),.v (.int Za m),.s 1 cs,.v (.int Za ph),.v (.int Za nx)]]=>some (fun _=>Rw [tI] cs/\cs.length<=1099511627776,[.k (F.jbOk k m cs ph nx)])
   |_=>none
 | 135=>match ds with
   |[.agg [.s 1 a0,.s 1 a1,.s 2 a2,.v (.int Za a3),.s 1 a4,.s 2 a5,.s 3 a6,.s 3 a7,.s 4 a8,.s 1 a9,.s 1 aA,.s 1 aB,.v (.int Za aC),.s 3 aD,.v (.int Za aE),.v (.int Za aF),.v (.int Za aG),.v (.int Za aH),.v (.bool aI),.v (.int Za aJ),.v (.int Za aK),.s 1 aL,.v (.int Za aM),.v (.int Za aN)],.one (.v (.int Za pg))]=>some (fun _=>Rw [tI,tI,tI] a6/\a6.length<=1099511627776,[.j (F.spI a6 pg)])
   |_=>none
 |_=>none
theorem aj:aT (ct F0):=by
 intro f ds pre res h hp;unfold ct at h;split at h<;>(try split at h)<;>cases h
 exact jD hp;exact jG hp;exact jF hp;exact sQ hp;exact lD hp;exact lE hp;exact sK hp;exact vW hp;exact oB hp;exact vX hp;exact bc hp;exact xX hp;exact vU hp
abbrev B:cF:=tb aj
end Qa1
theorem vQ {a0 a1 a2:aa}{a3:Int}{a4 a5 a6 a7 a8 a9 aA aB:aa}{aC:Int}{aD:aa}{aE aF aG aH:Int}{aI:Bool}{aJ aK:Int}{aL:aa}{aM aN:Int}(hp:OC a0 a1 a2 a4 a5 a6 a7 a8 a9 aA aB aD aL):ap 40 [.agg (iF a0 a1 a2 a3 a4 a5 a6 a7 a8 a9 aA aB aC aD aE aF aG aH aI aJ aK aL aM aN)] [.k (hpI a0 a1 a2 a3 a4 a5 a6 a7 a8 a9 aA aB aC aD aE aF aG aH aI aJ aK aL aM aN)]:=by
 have N:=hp.n;have hcc:=N.c;have hcw:=N.cw;have hel:=hp.el;have hfl:=hp.fl;have hsl:=N.sl;have hcl:=N.cl;have hlc:=aO (es:=a9);refine cb Qa1.B Tryz.func40 ?_
 intro O r F hO hr hF;cbv
 repeat' first|apply Zb|(apply bu<;>intro hb<;>cbv)|(refine⟨[1,57,58,59],[1],Int,fun i=>[.reg 59 (.j i)],fun i=>0<=i/\i<=((a9.length:Nat):Int)/\upto (JY a9) i,fun i=>(a9.length)-i.toNat,⟨0,?_,?_⟩,?_⟩;rotate_left;(focus (cbv;done));intro i hi;replace hi:0<=i/\i<=((a9.length:Nat):Int)/\upto (JY a9) i:=hi;obtain⟨i0,i1,i2⟩:=hi;cbv)|(refine ab (O.ar .add Za i 1) ?_ ?_ ?_;focus (cbv;done))
 all_goals(subst hO hr hF;(try simp only[nc]at*);(try simp only[ak,SS,sa,az]at*);(try rw[cy (by omega) (by omega)]))
 all_goals first
  | (show(_:List DV)=_
     first
      |(refine ai ?_;symm;exact PD (by assumption))
      |(refine ai ?_;symm;exact PM (by assumption))
      |(refine ai ?_;symm;exact PE (by assumption))
      |(refine ai ?_;symm;exact Mu (by assumption))
      |(refine ai ?_;symm;exact PG (by assumption))
      |(refine ai ?_;symm;exact Kp (by assumption))
      |(refine ai ?_;symm;exact PL (by assumption))
      |(refine ai ?_;symm;exact Ko i0 (by assumption) (by assumption))
      |(refine ai ?_;symm;exact Mt (by assumption))
      |(refine ai ?_;symm;exact Ms (by assumption))
      |(refine ai ?_;symm;exact PN (by assumption))
      |(refine ai ?_;symm;exact PP (by assumption))
      |(refine ai ?_;symm;exact PQ (by assumption))
      |(refine ai ?_;symm;exact PR (by assumption))
      |(refine ai ?_;rw[FC (by assumption) (by assumption) (by assumption) (by assumption) (by assumption) (aa0 (by omega)) (by assumption) (bD i2 (by omega)) (by assumption) (by assumption) (by assumption) (by assumption) (by assumption) (by assumption)];subst_vars;first|exact Ks (by assumption)|exact Kt (by assumption)|exact Ku (by assumption) (by assumption)|exact rfl|((try rw[cmp_eq]);unfold uF jobZ;simp[*];done))
      |done)
  |omega
  |exact eF
  |exact⟨hp.c,hp.u,hp.e,hp.r⟩
  |exact⟨by omega,by omega,hp.f,by omega⟩
  |exact⟨N.sw,N.lw,N.sl,N.ll⟩
  |exact⟨N,by assumption,hp.e,by omega,hp.f,by omega⟩
  |exact N.m
  |exact⟨N.qw,N.ql⟩
  |exact hcc.n i i0 (by assumption)
  |exact⟨N,by assumption⟩
  |exact⟨hp.j,by have:=hp.jl;omega⟩
  |exact⟨N.sw,by omega⟩
  |exact bC
  |exact aW i2 (by assumption)
  |done
namespace Qa2
structure aP where
 kerOk:aa->aa->aa->Int->aa->Bool
 rgOk:Int->aa->Bool
 layOk:aa->aa->Bool
 pgS:aa->aa->aa->aa->Bool
 smS:aa->aa->Bool
 mailOk:aa->aa->Bool
 quarOk:Int->aa->Bool
 caOk:aa->Bool
 objOk:aa->aa->aa->aa->Int->Bool
 hoS:aa->aa->aa->aa->aa->aa->aa->Bool
 inR:Int->Int->Int->Bool
 jbOk:Int->Int->aa->Int->Int->Bool
 spI:aa->Int->Int
 jobZ:Int->Int->aa->Int->Int->Bool
abbrev F0:aP:=⟨kerOk,rgOk,layOk,pgS,smS,mailOk,quarOk,caOk,objOk,hoS,inR,jbOk,spI,jobZ⟩
def ct (F:aP):CT:=fun f ds=>match f with
 | 164=>match ds with
   |[.agg [.s 1 cs,.s 1 us,.s 2 es,.v (.int Za c),.s 1 rs]]=>some (fun _=>Rw [.sl [tI]] cs/\Rw [tB] us/\Rw [tI,tI] es/\Rw [tI] rs,[.k (F.kerOk cs us es c rs)])
   |_=>none
 | 165=>match ds with
   |[.one (.v (.int Za n)),.one (.s 2 rs)]=>some (fun _=>0<=n/\n<=1099511627776/\Rw [tI,tI] rs/\rs.length<=1099511627776,[.k (F.rgOk n rs)])
   |_=>none
 | 166=>match ds with
   |[.one (.s 3 sp),.one (.s 3 lg)]=>some (fun _=>Rw [tI,tI,tI] sp/\Rw [tI,tI,tI] lg/\sp.length<=1073741824/\lg.length<=1073741824,[.k (F.layOk sp lg)])
   |_=>none
 | 167=>match ds with
   |[.agg [.s 1 a0,.s 1 a1,.s 2 a2,.v (.int Za a3),.s 1 a4,.s 2 a5,.s 3 a6,.s 3 a7,.s 4 a8,.s 1 a9,.s 1 aA,.s 1 aB,.v (.int Za aC),.s 3 aD,.v (.int Za aE),.v (.int Za aF),.v (.int Za aG),.v (.int Za aH),.v (.bool aI),.v (.int Za aJ),.v (.int Za aK),.s 1 aL,.v (.int Za aM),.v (.int Za aN)]]=>some (fun _=>zx a6 a7 a8 a9 aA aB aD/\layOk a6 a7=true/\Rw [tI,tI] a2/\a2.length<=1099511627776/\Rw [tI,tI] a5/\a5.length<=1099511627776,[.k (F.pgS a2 a5 a6 a7)])
   |_=>none
 | 168=>match ds with
   |[.agg [.s 1 a0,.s 1 a1,.s 2 a2,.v (.int Za a3),.s 1 a4,.s 2 a5,.s 3 a6,.s 3 a7,.s 4 a8,.s 1 a9,.s 1 aA,.s 1 aB,.v (.int Za aC),.s 3 aD,.v (.int Za aE),.v (.int Za aF),.v (.int Za aG),.v (.int Za aH),.v (.bool aI),.v (.int Za aJ),.v (.int Za aK),.s 1 aL,.v (.int Za aM),.v (.int Za aN)]]=>some (fun _=>zx a6 a7 a8 a9 aA aB aD/\Rw [tI,tI] a2/\a2.length<=1099511627776,[.k (F.smS a2 a6)])
   |_=>none
 | 169=>match ds with
   |[.agg [.s 1 b,.s 1 x]]=>some (fun _=>zy b x,[.k (F.mailOk b x)])
   |_=>none
 | 170=>match ds with
   |[.agg [.v (.int Za rm),.s 3 qs]]=>some (fun _=>Rw [tI,tI,tI] qs/\qs.length<=1073741824,[.k (F.quarOk rm qs)])
   |_=>none
 | 171=>match ds with
   |[.agg [.s 1 ls]]=>some (fun _=>JI ls,[.k (F.caOk ls)])
   |_=>none
 | 172=>match ds with
   |[.agg [.s 1 a0,.s 1 a1,.s 2 a2,.v (.int Za a3),.s 1 a4,.s 2 a5,.s 3 a6,.s 3 a7,.s 4 a8,.s 1 a9,.s 1 aA,.s 1 aB,.v (.int Za aC),.s 3 aD,.v (.int Za aE),.v (.int Za aF),.v (.int Za aG),.v (.int Za aH),.v (.bool aI),.v (.int Za aJ),.v (.int Za aK),.s 1 aL,.v (.int Za aM),.v (.int Za aN)]]=>some (fun _=>zx a6 a7 a8 a9 aA aB aD/\layOk a6 a7=true,[.k (F.objOk a6 a7 a8 a9 aH)])
   |_=>none
 | 173=>match ds with
   |[.agg [.s 1 a0,.s 1 a1,.s 2 a2,.v (.int Za a3),.s 1 a4,.s 2 a5,.s 3 a6,.s 3 a7,.s 4 a8,.s 1 a9,.s 1 aA,.s 1 aB,.v (.int Za aC),.s 3 aD,.v (.int Za aE),.v (.int Za aF),.v (.int Za aG),.v (.int Za aH),.v (.bool aI),.v (.int Za aJ),.v (.int Za aK),.s 1 aL,.v (.int Za aM),.v (.int Za aN)]]=>some (fun _=>zx a6 a7 a8 a9 aA aB aD/\layOk a6 a7=true,[.k (F.hoS a6 a7 a8 a9 aA aB aD)])
   |_=>none
 | 28=>match ds with
   |[.one (.v (.int Za x)),.one (.v (.int Za a)),.one (.v (.int Za b))]=>some (fun _=>True,[.k (F.inR x a b)])
   |_=>none
 | 175=>match ds with
   |[.agg [.v (.int Za k),.v (.int Za m),.s 1 cs,.v (.int Za ph),.v (.int Za nx)]]=>some (fun _=>Rw [tI] cs/\cs.length<=1099511627776,[.k (F.jbOk k m cs ph nx)])
   |_=>none
 | 176=>match ds with
   |[.agg [.s 1 a0,.s 1 a1,.s 2 a2,.v (.int Za a3),.s 1 a4,.s 2 a5,.s 3 a6,.s 3 a7,.s 4 a8,.s 1 a9,.s 1 aA,.s 1 aB,.v (.int Za aC),.s 3 aD,.v (.int Za aE),.v (.int Za aF),.v (.int Za aG),.v (.int Za aH),.v (.bool aI),.v (.int Za aJ),.v (.int Za aK),.s 1 aL,.v (.int Za aM),.v (.int Za aN)],.one (.v (.int Za pg))]=>some (fun _=>Rw [tI,tI,tI] a6/\a6.length<=1099511627776,[.j (F.spI a6 pg)])
   |_=>none
 | 174=>match ds with
   |[.agg [.v (.int Za k),.v (.int Za m),.s 1 cs,.v (.int Za ph),.v (.int Za nx)]]=>some (fun _=>True,[.k (F.jobZ k m cs ph nx)])
   |_=>none
 |_=>none
theorem aj:aT (ct F0):=by
 intro f ds pre res h hp;unfold ct at h;split at h<;>(try split at h)<;>cases h
 exact jJ hp;exact fV hp;exact fU hp;exact rG hp;exact oQ hp;exact lI hp;exact lJ hp;exact tC hp;exact tR hp;exact tT hp;exact be hp;exact x8 hp;exact io hp;exact wC hp
abbrev B:cF:=tb aj
end Qa2
theorem wy {a0 a1 a2:aa}{a3:Int}{a4 a5 a6 a7 a8 a9 aA aB:aa}{aC:Int}{aD:aa}{aE aF aG aH:Int}{aI:Bool}{aJ aK:Int}{aL:aa}{aM aN:Int}(hp:OC a0 a1 a2 a4 a5 a6 a7 a8 a9 aA aB aD aL):ap 71 [.agg (iF a0 a1 a2 a3 a4 a5 a6 a7 a8 a9 aA aB aC aD aE aF aG aH aI aJ aK aL aM aN)] [.k (hpI a0 a1 a2 a3 a4 a5 a6 a7 a8 a9 aA aB aC aD aE aF aG aH aI aJ aK aL aM aN)]:=by
 have N:=hp.n;have hcc:=N.c;have hcw:=N.cw;have hqw:=N.qw;have hql:=N.ql;have hel:=hp.el;have hfl:=hp.fl;have hsl:=N.sl;have hcl:=N.cl;have hlc:=aO (es:=a9);refine cb Qa2.B Tryz.func71 ?_
 intro O r F hO hr hF;cbv
 repeat' first|apply Zb|(apply bu<;>intro hb<;>cbv)|(refine⟨[1,3],[1],Int,fun q=>[.reg 3 (.j q)],fun q=>0<=q/\q<=(aD.length:Int)/\upto (sA aD aF) q,fun q=>aD.length-q.toNat,⟨0,?_,?_⟩,?_⟩;rotate_left;(focus (cbv;done));intro q hq;replace hq:0<=q/\q<=(aD.length:Int)/\upto (sA aD aF) q:=hq;obtain⟨q0,q1,q2⟩:=hq;cbv)|(refine⟨[1,4],[1],Int,fun i=>[.reg 4 (.j i)],fun i=>0<=i/\i<=(a9.length:Int)/\upto (JY a9) i,fun i=>a9.length-i.toNat,⟨0,?_,?_⟩,?_⟩;rotate_left;(focus (cbv;done));intro i hi;replace hi:0<=i/\i<=(a9.length:Int)/\upto (JY a9) i:=hi;obtain⟨i0,i1,i2⟩:=hi;cbv)|(refine ab (O.ar .add Za i 1) ?_ ?_ ?_;focus (cbv;done))|(refine ab (O.ar .add Za q 1) ?_ ?_ ?_;focus (cbv;done))
 all_goals(subst hO hr hF;(try simp only[nc]at*);(try simp only[ak,SS,sa,az]at*);(try rw[cy (by omega) (by omega)]))
 all_goals first
  | (show(_:List DV)=_
     first
      |(refine ai ?_;symm;exact PD (by assumption))
      |(refine ai ?_;symm;exact PM (by assumption))
      |(refine ai ?_;symm;exact PE (by assumption))
      |(refine ai ?_;symm;exact PI (by assumption) (by assumption))
      |(refine ai ?_;symm;exact PH (by assumption) (by assumption))
      |(refine ai ?_;symm;exact PG (by assumption))
      |(refine ai ?_;symm;exact Kp (by assumption))
      |(refine ai ?_;symm;exact PL (by assumption))
      |(refine ai ?_;symm;exact PO q0 (by assumption) (by assumption) (by assumption))
      |(refine ai ?_;symm;exact Ko i0 (by assumption) (by assumption))
      |(refine ai ?_;symm;exact Mt (by assumption))
      |(refine ai ?_;symm;exact PC (by assumption) (by assumption) (by assumption))
      |(refine ai ?_;symm;exact PN (by assumption))
      |(refine ai ?_;symm;exact PP (by assumption))
      |(refine ai ?_;symm;exact PQ (by assumption))
      |(refine ai ?_;symm;exact PR (by assumption))
      |(refine ai ?_;rw[FC (by assumption) (by assumption) (by assumption) (Uo (by assumption) (by assumption) (by assumption)) (by assumption) (aa0 (by omega)) (by assumption) (bD i2 (by omega)) (by assumption) (TU (by assumption) (by assumption) (by assumption) (by omega) q2) (by assumption) (by assumption) (by assumption) (by assumption)];subst_vars;first|exact Ks (by assumption)|exact Kt (by assumption)|exact Ku (by assumption) (by assumption)|exact rfl|((try rw[cmp_eq]);unfold uF jobZ;simp[*];done))
      |done)
  |omega
  |exact eF
  |(show aV _ _=true;kernel_rfl)
  |exact⟨hp.c,hp.u,hp.e,hp.r⟩
  |exact⟨by omega,by omega,hp.f,by omega⟩
  |exact⟨N.sw,N.lw,N.sl,N.ll⟩
  |exact⟨N,by assumption,hp.e,by omega,hp.f,by omega⟩
  |exact⟨N,hp.e,by omega⟩
  |exact N.m
  |exact⟨N.qw,N.ql⟩
  |exact hcc.n i i0 (by assumption)
  |exact⟨N,by assumption⟩
  |exact⟨hp.j,by have:=hp.jl;omega⟩
  |exact⟨N.sw,by omega⟩
  |exact bC
  |exact aW i2 (by assumption)
  |exact aW q2 (UU (by assumption))
  |done
end Go.V