/- Contracts. -/
import Derived.Test.YtniaaknbbceigaaGreatLayPq
import Derived.Test.YtniaaknbbceigaaGreatKerBq
set_option linter.all false
namespace Go.V
open Go Go.Proofs
set_option maxRecDepth 1000000
set_option maxHeartbeats 8000000
theorem vq {k m:Int}{cs:aa}{ph nx:Int}(hp:True):ap 129 [.agg [.i k,.i m,.s 1 cs,.i ph,.i nx]] [.k (jobZ k m cs ph nx)]:=by
 refine cb nB Tryz.func129 ?_
 intro O r F hO hr hF;cbv
 repeat' first|apply And.intro|(apply be<;>intro hb<;>cbv)
 all_goals(subst hO hr hF;(try simp only[nc]at*);(try simp only[ai,SS,sa,az]at*))
 all_goals first|(show(_:List DV)=_;refine ag ?_;unfold jobZ;simp[*,cmp_eq];done)|(show(_:List DV)=_;refine ag ?_;unfold jobZ;rw[decide_eq_true (p:=cs.length=0) (by omega),cmp_eq];simp[*];done)|(show(_:List DV)=_;refine ag ?_;unfold jobZ;rw[decide_eq_false (p:=cs.length=0) (by omega)];simp;done)|done
namespace Qa1
structure av where
 kerOk:aa->aa->aa->Int->aa->Bool
 rgOk:Int->aa->Bool
 layOk:aa->aa->Bool
 pgI:aa->aa->aa->aa->Bool
 mailOk:aa->aa->Bool
 quarOk:Int->aa->Bool
 caOk:aa->Bool
 objOk:aa->aa->aa->aa->Int->Bool
 hoI:aa->aa->aa->aa->aa->aa->aa->Int->Bool
 inR:Int->Int->Int->Bool
 jbOk:Int->Int->aa->Int->Int->Bool
 spI:aa->Int->Int
abbrev F0 :av:=⟨kerOk,rgOk,layOk,pgI,mailOk,quarOk,caOk,objOk,hoI,inR,jbOk,spI⟩
def ct (F:av):CT:=fun f ds=>match f with
 | 142=>match ds with
   |[.agg [.s 1 cs,.s 1 us,.s 2 es,.v (.int .i64 c),.s 1 rs]]=>some (fun _=>Rw [.sl [tI]] cs/\Rw [tB] us/\Rw [tI,tI] es/\Rw [tI] rs,[.k (F.kerOk cs us es c rs)])
   |_=>none
 | 143=>match ds with
   |[.one (.v (.int .i64 n)),.one (.s 2 rs)]=>some (fun _=>0<=n/\n<=1099511627776/\Rw [tI,tI] rs/\rs.length<=1099511627776,[.k (F.rgOk n rs)])
   |_=>none
 | 144=>match ds with
   |[.one (.s 3 sp),.one (.s 3 lg)]=>some (fun _=>Rw [tI,tI,tI] sp/\Rw [tI,tI,tI] lg/\sp.length<=1073741824/\lg.length<=1073741824,[.k (F.layOk sp lg)])
   |_=>none
 | 145=>match ds with
   |[.agg [.s 1 a0,.s 1 a1,.s 2 a2,.v (.int .i64 a3),.s 1 a4,.s 2 a5,.s 3 a6,.s 3 a7,.s 4 a8,.s 1 a9,.s 1 aA,.s 1 aB,.v (.int .i64 aC),.s 3 aD,.v (.int .i64 aE),.v (.int .i64 aF),.v (.int .i64 aG),.v (.int .i64 aH),.v (.bool aI),.v (.int .i64 aJ),.v (.int .i64 aK),.s 1 aL,.v (.int .i64 aM),.v (.int .i64 aN)]]=>some (fun _=>wx a6 a7 a8 a9 aA aB aD/\layOk a6 a7=true/\Rw [tI,tI] a2/\a2.length<=1099511627776/\Rw [tI,tI] a5/\a5.length<=1099511627776,[.k (F.pgI a2 a5 a6 a7)])
   |_=>none
 | 146=>match ds with
   |[.agg [.s 1 b,.s 1 x]]=>some (fun _=>vI b x,[.k (F.mailOk b x)])
   |_=>none
 | 147=>match ds with
   |[.agg [.v (.int .i64 rm),.s 3 qs]]=>some (fun _=>Rw [tI,tI,tI] qs/\qs.length<=1073741824,[.k (F.quarOk rm qs)])
   |_=>none
 | 148=>match ds with
   |[.agg [.s 1 ls]]=>some (fun _=>Bj ls,[.k (F.caOk ls)])
   |_=>none
 | 149=>match ds with
   |[.agg [.s 1 a0,.s 1 a1,.s 2 a2,.v (.int .i64 a3),.s 1 a4,.s 2 a5,.s 3 a6,.s 3 a7,.s 4 a8,.s 1 a9,.s 1 aA,.s 1 aB,.v (.int .i64 aC),.s 3 aD,.v (.int .i64 aE),.v (.int .i64 aF),.v (.int .i64 aG),.v (.int .i64 aH),.v (.bool aI),.v (.int .i64 aJ),.v (.int .i64 aK),.s 1 aL,.v (.int .i64 aM),.v (.int .i64 aN)]]=>some (fun _=>wx a6 a7 a8 a9 aA aB aD/\layOk a6 a7=true,[.k (F.objOk a6 a7 a8 a9 aH)])
   |_=>none
 | 150=>match ds with
   |[.agg [.s 1 a0,.s 1 a1,.s 2 a2,.v (.int .i64 a3),.s 1 a4,.s 2 a5,.s 3 a6,.s 3 a7,.s 4 a8,.s 1 a9,.s 1 aA,.s 1 aB,.v (.int .i64 aC),.s 3 aD,.v (.int .i64 aE),.v (.int .i64 aF),.v (.int .i64 aG),.v (.int .i64 aH),.v (.bool aI),.v (.int .i64 aJ),.v (.int .i64 aK),.s 1 aL,.v (.int .i64 aM),.v (.int .i64 aN)]]=>some (fun _=>wx a6 a7 a8 a9 aA aB aD/\layOk a6 a7=true,[.k (F.hoI a6 a7 a8 a9 aA aB aD aF)])
   |_=>none
 | 151=>match ds with
   |[.one (.v (.int .i64 c))]=>some (fun _=>True,[.k (F.inR c 0 1073741823)])
   |_=>none
 | 152=>match ds with
   |[.one (.v (.int .i64 x)),.one (.v (.int .i64 a)),.one (.v (.int .i64 b))]=>some (fun _=>True,[.k (F.inR x a b)])
   |_=>none
 | 153=>match ds with
   |[.agg [.v (.int .i64 k),.v (.int .i64 m),.s 1 cs,.v (.int .i64 ph),.v (.int .i64 nx)]]=>some (fun _=>Rw [tI] cs/\cs.length<=1099511627776,[.k (F.jbOk k m cs ph nx)])
   |_=>none
 | 154=>match ds with
   |[.agg [.s 1 a0,.s 1 a1,.s 2 a2,.v (.int .i64 a3),.s 1 a4,.s 2 a5,.s 3 a6,.s 3 a7,.s 4 a8,.s 1 a9,.s 1 aA,.s 1 aB,.v (.int .i64 aC),.s 3 aD,.v (.int .i64 aE),.v (.int .i64 aF),.v (.int .i64 aG),.v (.int .i64 aH),.v (.bool aI),.v (.int .i64 aJ),.v (.int .i64 aK),.s 1 aL,.v (.int .i64 aM),.v (.int .i64 aN)],.one (.v (.int .i64 pg))]=>some (fun _=>Rw [tI,tI,tI] a6/\a6.length<=1099511627776,[.j (F.spI a6 pg)])
   |_=>none
 |_=>none
theorem ah :aO (ct F0):=by
 intro f ds pre res h hp;unfold ct at h;split at h<;>(try split at h)<;>cases h
 exact pS hp;exact pX hp;exact fM hp;exact si hp;exact lE hp;exact uL hp;exact j3 hp;exact uR hp;exact nW hp;exact uT hp;exact aV hp;exact wC hp;exact uN hp
abbrev B :ce:=tb ah
end Qa1
theorem cK {a0 a1 a2:aa}{a3:Int}{a4 a5 a6 a7 a8 a9 aA aB:aa}{aC:Int}{aD:aa}{aE aF aG aH:Int}{aI:Bool}{aJ aK:Int}{aL:aa}{aM aN:Int}(hp:eR a0 a1 a2 a4 a5 a6 a7 a8 a9 aA aB aD aL):ap 55 [.agg (ez a0 a1 a2 a3 a4 a5 a6 a7 a8 a9 aA aB aC aD aE aF aG aH aI aJ aK aL aM aN)] [.k (hpI a0 a1 a2 a3 a4 a5 a6 a7 a8 a9 aA aB aC aD aE aF aG aH aI aJ aK aL aM aN)]:=by
 have N:=hp.n;have hcc:=N.c;have hcw:=N.cw;have hel:=hp.el;have hfl:=hp.fl;have hsl:=N.sl;have hcl:=N.cl;have hlc:=fx (es:=a9);refine cb Qa1.B Tryz.func55 ?_
 intro O r F hO hr hF;cbv
 repeat' first|apply And.intro|(apply be<;>intro hb<;>cbv)|(refine⟨[1,57,58,59],[1],Int,fun i=>[.reg 59 (.j i)],fun i=>0<=i/\i<=((a9.length:Nat):Int)/\upto (Jz a9) i,fun i=>(a9.length)-i.toNat,⟨0,?_,?_⟩,?_⟩;rotate_left;(focus (cbv;done));intro i hi;replace hi:0<=i/\i<=((a9.length:Nat):Int)/\upto (Jz a9) i:=hi;obtain⟨i0,i1,i2⟩:=hi;cbv)|(refine ab (O.ar .add .i64 i 1) ?_ ?_ ?_;focus (cbv;done))
 all_goals(subst hO hr hF;(try simp only[nc]at*);(try simp only[ai,SS,sa,az]at*);(try rw[bX (by omega) (by omega)]))
 all_goals first
  | (show(_:List DV)=_
     first
      |(refine ag ?_;symm;exact Ov (by assumption))
      |(refine ag ?_;symm;exact OB (by assumption))
      |(refine ag ?_;symm;exact Ow (by assumption))
      |(refine ag ?_;symm;exact LN (by assumption))
      |(refine ag ?_;symm;exact Ox (by assumption))
      |(refine ag ?_;symm;exact JY (by assumption))
      |(refine ag ?_;symm;exact OA (by assumption))
      |(refine ag ?_;symm;exact JX i0 (by assumption) (by assumption))
      |(refine ag ?_;symm;exact LM (by assumption))
      |(refine ag ?_;symm;exact LL (by assumption))
      |(refine ag ?_;symm;exact OD (by assumption))
      |(refine ag ?_;symm;exact OG (by assumption))
      |(refine ag ?_;symm;exact OH (by assumption))
      |(refine ag ?_;symm;exact OI (by assumption))
      |(refine ag ?_;rw[ES (by assumption) (by assumption) (by assumption) (by assumption) (by assumption) (decide_eq_true (by omega)) (by assumption) (bg i2 (by omega)) (by assumption) (by assumption) (by assumption) (by assumption) (by assumption) (by assumption)];subst_vars;first|exact J0 (by assumption)|exact J1 (by assumption)|exact J2 (by assumption) (by assumption)|exact rfl|((try rw[cmp_eq]);unfold tM jobZ;simp[*];done))
      |done)
  |omega
  |exact d9
  |exact⟨hp.c,hp.u,hp.e,hp.r⟩
  |exact⟨by omega,by omega,hp.f,by omega⟩
  |exact⟨N.sw,N.lw,N.sl,N.ll⟩
  |exact⟨N,by assumption,hp.e,by omega,hp.f,by omega⟩
  |exact N.m
  |exact⟨N.qw,N.ql⟩
  |exact hcc.n i i0 (by assumption)
  |exact⟨N,by assumption⟩
  |exact⟨hp.j,by have:=hp.jl;omega⟩
  |exact⟨N.sw,by omega⟩
  |exact aX
  |exact aP i2 (by assumption)
  |done
namespace Qa2
structure av where
 kerOk:aa->aa->aa->Int->aa->Bool
 rgOk:Int->aa->Bool
 layOk:aa->aa->Bool
 pgS:aa->aa->aa->aa->Bool
 smS:aa->aa->Bool
 mailOk:aa->aa->Bool
 quarOk:Int->aa->Bool
 caOk:aa->Bool
 objOk:aa->aa->aa->aa->Int->Bool
 hoS:aa->aa->aa->aa->aa->aa->aa->Bool
 inR:Int->Int->Int->Bool
 jbOk:Int->Int->aa->Int->Int->Bool
 spI:aa->Int->Int
 jobZ:Int->Int->aa->Int->Int->Bool
abbrev F0 :av:=⟨kerOk,rgOk,layOk,pgS,smS,mailOk,quarOk,caOk,objOk,hoS,inR,jbOk,spI,jobZ⟩
def ct (F:av):CT:=fun f ds=>match f with
 | 118=>match ds with
   |[.agg [.s 1 cs,.s 1 us,.s 2 es,.v (.int .i64 c),.s 1 rs]]=>some (fun _=>Rw [.sl [tI]] cs/\Rw [tB] us/\Rw [tI,tI] es/\Rw [tI] rs,[.k (F.kerOk cs us es c rs)])
   |_=>none
 | 119=>match ds with
   |[.one (.v (.int .i64 n)),.one (.s 2 rs)]=>some (fun _=>0<=n/\n<=1099511627776/\Rw [tI,tI] rs/\rs.length<=1099511627776,[.k (F.rgOk n rs)])
   |_=>none
 | 120=>match ds with
   |[.one (.s 3 sp),.one (.s 3 lg)]=>some (fun _=>Rw [tI,tI,tI] sp/\Rw [tI,tI,tI] lg/\sp.length<=1073741824/\lg.length<=1073741824,[.k (F.layOk sp lg)])
   |_=>none
 | 121=>match ds with
   |[.agg [.s 1 a0,.s 1 a1,.s 2 a2,.v (.int .i64 a3),.s 1 a4,.s 2 a5,.s 3 a6,.s 3 a7,.s 4 a8,.s 1 a9,.s 1 aA,.s 1 aB,.v (.int .i64 aC),.s 3 aD,.v (.int .i64 aE),.v (.int .i64 aF),.v (.int .i64 aG),.v (.int .i64 aH),.v (.bool aI),.v (.int .i64 aJ),.v (.int .i64 aK),.s 1 aL,.v (.int .i64 aM),.v (.int .i64 aN)]]=>some (fun _=>wx a6 a7 a8 a9 aA aB aD/\layOk a6 a7=true/\Rw [tI,tI] a2/\a2.length<=1099511627776/\Rw [tI,tI] a5/\a5.length<=1099511627776,[.k (F.pgS a2 a5 a6 a7)])
   |_=>none
 | 122=>match ds with
   |[.agg [.s 1 a0,.s 1 a1,.s 2 a2,.v (.int .i64 a3),.s 1 a4,.s 2 a5,.s 3 a6,.s 3 a7,.s 4 a8,.s 1 a9,.s 1 aA,.s 1 aB,.v (.int .i64 aC),.s 3 aD,.v (.int .i64 aE),.v (.int .i64 aF),.v (.int .i64 aG),.v (.int .i64 aH),.v (.bool aI),.v (.int .i64 aJ),.v (.int .i64 aK),.s 1 aL,.v (.int .i64 aM),.v (.int .i64 aN)]]=>some (fun _=>wx a6 a7 a8 a9 aA aB aD/\Rw [tI,tI] a2/\a2.length<=1099511627776,[.k (F.smS a2 a6)])
   |_=>none
 | 123=>match ds with
   |[.agg [.s 1 b,.s 1 x]]=>some (fun _=>vI b x,[.k (F.mailOk b x)])
   |_=>none
 | 124=>match ds with
   |[.agg [.v (.int .i64 rm),.s 3 qs]]=>some (fun _=>Rw [tI,tI,tI] qs/\qs.length<=1073741824,[.k (F.quarOk rm qs)])
   |_=>none
 | 125=>match ds with
   |[.agg [.s 1 ls]]=>some (fun _=>Bj ls,[.k (F.caOk ls)])
   |_=>none
 | 127=>match ds with
   |[.agg [.s 1 a0,.s 1 a1,.s 2 a2,.v (.int .i64 a3),.s 1 a4,.s 2 a5,.s 3 a6,.s 3 a7,.s 4 a8,.s 1 a9,.s 1 aA,.s 1 aB,.v (.int .i64 aC),.s 3 aD,.v (.int .i64 aE),.v (.int .i64 aF),.v (.int .i64 aG),.v (.int .i64 aH),.v (.bool aI),.v (.int .i64 aJ),.v (.int .i64 aK),.s 1 aL,.v (.int .i64 aM),.v (.int .i64 aN)]]=>some (fun _=>wx a6 a7 a8 a9 aA aB aD/\layOk a6 a7=true,[.k (F.objOk a6 a7 a8 a9 aH)])
   |_=>none
 | 128=>match ds with
   |[.agg [.s 1 a0,.s 1 a1,.s 2 a2,.v (.int .i64 a3),.s 1 a4,.s 2 a5,.s 3 a6,.s 3 a7,.s 4 a8,.s 1 a9,.s 1 aA,.s 1 aB,.v (.int .i64 aC),.s 3 aD,.v (.int .i64 aE),.v (.int .i64 aF),.v (.int .i64 aG),.v (.int .i64 aH),.v (.bool aI),.v (.int .i64 aJ),.v (.int .i64 aK),.s 1 aL,.v (.int .i64 aM),.v (.int .i64 aN)]]=>some (fun _=>wx a6 a7 a8 a9 aA aB aD/\layOk a6 a7=true,[.k (F.hoS a6 a7 a8 a9 aA aB aD)])
   |_=>none
 | 126=>match ds with
   |[.one (.v (.int .i64 x)),.one (.v (.int .i64 a)),.one (.v (.int .i64 b))]=>some (fun _=>True,[.k (F.inR x a b)])
   |_=>none
 | 130=>match ds with
   |[.agg [.v (.int .i64 k),.v (.int .i64 m),.s 1 cs,.v (.int .i64 ph),.v (.int .i64 nx)]]=>some (fun _=>Rw [tI] cs/\cs.length<=1099511627776,[.k (F.jbOk k m cs ph nx)])
   |_=>none
 | 73=>match ds with
   |[.agg [.s 1 a0,.s 1 a1,.s 2 a2,.v (.int .i64 a3),.s 1 a4,.s 2 a5,.s 3 a6,.s 3 a7,.s 4 a8,.s 1 a9,.s 1 aA,.s 1 aB,.v (.int .i64 aC),.s 3 aD,.v (.int .i64 aE),.v (.int .i64 aF),.v (.int .i64 aG),.v (.int .i64 aH),.v (.bool aI),.v (.int .i64 aJ),.v (.int .i64 aK),.s 1 aL,.v (.int .i64 aM),.v (.int .i64 aN)],.one (.v (.int .i64 pg))]=>some (fun _=>Rw [tI,tI,tI] a6/\a6.length<=1099511627776,[.j (F.spI a6 pg)])
   |_=>none
 | 129=>match ds with
   |[.agg [.v (.int .i64 k),.v (.int .i64 m),.s 1 cs,.v (.int .i64 ph),.v (.int .i64 nx)]]=>some (fun _=>True,[.k (F.jobZ k m cs ph nx)])
   |_=>none
 |_=>none
theorem ah :aO (ct F0):=by
 intro f ds pre res h hp;unfold ct at h;split at h<;>(try split at h)<;>cases h
 exact qU hp;exact qY hp;exact eg hp;exact ra hp;exact oD hp;exact lG hp;exact vl hp;exact j7 hp;exact sW hp;exact sX hp;exact bh hp;exact wI hp;exact fq hp;exact vq hp
abbrev B :ce:=tb ah
end Qa2
theorem dE {a0 a1 a2:aa}{a3:Int}{a4 a5 a6 a7 a8 a9 aA aB:aa}{aC:Int}{aD:aa}{aE aF aG aH:Int}{aI:Bool}{aJ aK:Int}{aL:aa}{aM aN:Int}(hp:eR a0 a1 a2 a4 a5 a6 a7 a8 a9 aA aB aD aL):ap 44 [.agg (ez a0 a1 a2 a3 a4 a5 a6 a7 a8 a9 aA aB aC aD aE aF aG aH aI aJ aK aL aM aN)] [.k (hpI a0 a1 a2 a3 a4 a5 a6 a7 a8 a9 aA aB aC aD aE aF aG aH aI aJ aK aL aM aN)]:=by
 have N:=hp.n;have hcc:=N.c;have hcw:=N.cw;have hqw:=N.qw;have hql:=N.ql;have hel:=hp.el;have hfl:=hp.fl;have hsl:=N.sl;have hcl:=N.cl;have hlc:=fx (es:=a9);refine cb Qa2.B Tryz.func44 ?_
 intro O r F hO hr hF;cbv
 repeat' first|apply And.intro|(apply be<;>intro hb<;>cbv)|(refine⟨[1,3],[1],Int,fun q=>[.reg 3 (.j q)],fun q=>0<=q/\q<=(aD.length:Int)/\upto (sA aD aF) q,fun q=>aD.length-q.toNat,⟨0,?_,?_⟩,?_⟩;rotate_left;(focus (cbv;done));intro q hq;replace hq:0<=q/\q<=(aD.length:Int)/\upto (sA aD aF) q:=hq;obtain⟨q0,q1,q2⟩:=hq;cbv)|(refine⟨[1,4],[1],Int,fun i=>[.reg 4 (.j i)],fun i=>0<=i/\i<=(a9.length:Int)/\upto (Jz a9) i,fun i=>a9.length-i.toNat,⟨0,?_,?_⟩,?_⟩;rotate_left;(focus (cbv;done));intro i hi;replace hi:0<=i/\i<=(a9.length:Int)/\upto (Jz a9) i:=hi;obtain⟨i0,i1,i2⟩:=hi;cbv)|(refine ab (O.ar .add .i64 i 1) ?_ ?_ ?_;focus (cbv;done))|(refine ab (O.ar .add .i64 q 1) ?_ ?_ ?_;focus (cbv;done))
 all_goals(subst hO hr hF;(try simp only[nc]at*);(try simp only[ai,SS,sa,az]at*);(try rw[bX (by omega) (by omega)]))
 all_goals first
  | (show(_:List DV)=_
     first
      |(refine ag ?_;symm;exact Ov (by assumption))
      |(refine ag ?_;symm;exact OB (by assumption))
      |(refine ag ?_;symm;exact Ow (by assumption))
      |(refine ag ?_;symm;exact Oz (by assumption) (by assumption))
      |(refine ag ?_;symm;exact Oy (by assumption) (by assumption))
      |(refine ag ?_;symm;exact Ox (by assumption))
      |(refine ag ?_;symm;exact JY (by assumption))
      |(refine ag ?_;symm;exact OA (by assumption))
      |(refine ag ?_;symm;exact OE q0 (by assumption) (by assumption) (by assumption))
      |(refine ag ?_;symm;exact JX i0 (by assumption) (by assumption))
      |(refine ag ?_;symm;exact LM (by assumption))
      |(refine ag ?_;symm;exact Ou (by assumption) (by assumption) (by assumption))
      |(refine ag ?_;symm;exact OD (by assumption))
      |(refine ag ?_;symm;exact OG (by assumption))
      |(refine ag ?_;symm;exact OH (by assumption))
      |(refine ag ?_;symm;exact OI (by assumption))
      |(refine ag ?_;rw[ES (by assumption) (by assumption) (by assumption) (SY (by assumption) (by assumption) (by assumption)) (by assumption) (decide_eq_true (by omega)) (by assumption) (bg i2 (by omega)) (by assumption) (Sg (by assumption) (by assumption) (by assumption) (by omega) q2) (by assumption) (by assumption) (by assumption) (by assumption)];subst_vars;first|exact J0 (by assumption)|exact J1 (by assumption)|exact J2 (by assumption) (by assumption)|exact rfl|((try rw[cmp_eq]);unfold tM jobZ;simp[*];done))
      |done)
  |omega
  |exact d9
  |(show aU _ _=true;kernel_rfl)
  |exact⟨hp.c,hp.u,hp.e,hp.r⟩
  |exact⟨by omega,by omega,hp.f,by omega⟩
  |exact⟨N.sw,N.lw,N.sl,N.ll⟩
  |exact⟨N,by assumption,hp.e,by omega,hp.f,by omega⟩
  |exact⟨N,hp.e,by omega⟩
  |exact N.m
  |exact⟨N.qw,N.ql⟩
  |exact hcc.n i i0 (by assumption)
  |exact⟨N,by assumption⟩
  |exact⟨hp.j,by have:=hp.jl;omega⟩
  |exact⟨N.sw,by omega⟩
  |exact aX
  |exact aP i2 (by assumption)
  |exact aP q2 (TA (by assumption))
  |done
end Go.V