/- Contracts. -/
import Derived.Test.YtcodmgmliopheaaGreatLayPt
import Derived.Test.YtcodmgmliopheaaGreatKerBt
set_option linter.all false
open Go
open And renaming intro->AT
namespace Go.V
open Go Go.Proofs
set_option maxRecDepth 1000000
set_option maxHeartbeats 8000000
theorem wX {k m:Int}{cs:aa}{ph nx:Int}(hp:True):aw 144 [.agg [.i k,.i m,.s 1 cs,.i ph,.i nx]] [.k (jobZ k m cs ph nx)]:=by
 refine cb nB Tryz.func144 ?_
 intro O r F hO hr hF;cbv
 repeat' first|apply AT|(apply bi<;>intro hb<;>cbv)
 all_goals(subst hO hr hF;(try simp only[nc]at*);(try simp only[ah,SS,sa,az]at*))
 all_goals first|(show(_:List DV)=_;refine ai ?_;unfold jobZ;simp[*,cmp_eq];done)|(show(_:List DV)=_;refine ai ?_;unfold jobZ;rw[decide_eq_true (p:=cs.length=0) (by omega),cmp_eq];simp[*];done)|(show(_:List DV)=_;refine ai ?_;unfold jobZ;rw[decide_eq_false (p:=cs.length=0) (by omega)];simp;done)|done
namespace Qa1
structure aQ where
 kerOk:aa->aa->aa->Int->aa->Bool
 rgOk:Int->aa->Bool
 layOk:aa->aa->Bool
 pgI:aa->aa->aa->aa->Bool
 mailOk:aa->aa->Bool
 quarOk:Int->aa->Bool
 caOk:aa->Bool
 objOk:aa->aa->aa->aa->Int->Bool
 hoI:aa->aa->aa->aa->aa->aa->aa->Int->Bool
 inR:Int->Int->Int->Bool
 jbOk:Int->Int->aa->Int->Int->Bool
 spI:aa->Int->Int
abbrev F0 :aQ:=⟨kerOk,rgOk,layOk,pgI,mailOk,quarOk,caOk,objOk,hoI,inR,jbOk,spI⟩
def ct (F:aQ):CT:=fun f ds=>match f with
 | 166=>match ds with
   |[.agg [.s 1 cs,.s 1 us,.s 2 es,.v (.int .i64 c),.s 1 rs]]=>some (fun _=>Rw [.sl [tI]] cs/\Rw [tB] us/\Rw [tI,tI] es/\Rw [tI] rs,[.k (F.kerOk cs us es c rs)])
   |_=>none
 | 167=>match ds with
   |[.one (.v (.int .i64 n)),.one (.s 2 rs)]=>some (fun _=>0<=n/\n<=1099511627776/\Rw [tI,tI] rs/\rs.length<=1099511627776,[.k (F.rgOk n rs)])
   |_=>none
 | 168=>match ds with
   |[.one (.s 3 sp),.one (.s 3 lg)]=>some (fun _=>Rw [tI,tI,tI] sp/\Rw [tI,tI,tI] lg/\sp.length<=1073741824/\lg.length<=1073741824,[.k (F.layOk sp lg)])
   |_=>none
 | 169=>match ds with
   |[.agg [.s 1 a0,.s 1 a1,.s 2 a2,.v (.int .i64 a3),.s 1 a4,.s 2 a5,.s 3 a6,.s 3 a7,.s 4 a8,.s 1 a9,.s 1 aA,.s 1 aB,.v (.int .i64 aC),.s 3 aD,.v (.int .i64 aE),.v (.int .i64 aF),.v (.int .i64 aG),.v (.int .i64 aH),.v (.bool aI),.v (.int .i64 aJ),.v (.int .i64 aK),.s 1 aL,.v (.int .i64 aM),.v (.int .i64 aN)]]=>some (fun _=>zZ a6 a7 a8 a9 aA aB aD/\layOk a6 a7=true/\Rw [tI,tI] a2/\a2.length<=1099511627776/\Rw [tI,tI] a5/\a5.length<=1099511627776,[.k (F.pgI a2 a5 a6 a7)])
   |_=>none
 | 170=>match ds with
   |[.agg [.s 1 b,.s 1 x]]=>some (fun _=>Aa b x,[.k (F.mailOk b x)])
   |_=>none
 | 171=>match ds with
   |[.agg [.v (.int .i64 rm),.s 3 qs]]=>some (fun _=>Rw [tI,tI,tI] qs/\qs.length<=1073741824,[.k (F.quarOk rm qs)])
   |_=>none
 | 172=>match ds with
   |[.agg [.s 1 ls]]=>some (fun _=>Jr ls,[.k (F.caOk ls)])
   |_=>none
 | 173=>match ds with
   |[.agg [.s 1 a0,.s 1 a1,.s 2 a2,.v (.int .i64 a3),.s 1 a4,.s 2 a5,.s 3 a6,.s 3 a7,.s 4 a8,.s 1 a9,.s 1 aA,.s 1 aB,.v (.int .i64 aC),.s 3 aD,.v (.int .i64 aE),.v (.int .i64 aF),.v (.int .i64 aG),.v (.int .i64 aH),.v (.bool aI),.v (.int .i64 aJ),.v (.int .i64 aK),.s 1 aL,.v (.int .i64 aM),.v (.int .i64 aN)]]=>some (fun _=>zZ a6 a7 a8 a9 aA aB aD/\layOk a6 a7=true,[.k (F.objOk a6 a7 a8 a9 aH)])
   |_=>none
 | 174=>match ds with
   |[.agg [.s 1 a0,.s 1 a1,.s 2 a2,.v (.int .i64 a3),.s 1 a4,.s 2 a5,.s 3 a6,.s 3 a7,.s 4 a8,.s 1 a9,.s 1 aA,.s 1 aB,.v (.int .i64 aC),.s 3 aD,.v (.int .i64 aE),.v (.int .i64 aF),.v (.int .i64 aG),.v (.int .i64 aH),.v (.bool aI),.v (.int .i64 aJ),.v (.int .i64 aK),.s 1 aL,.v (.int .i64 aM),.v (.int .i64 aN)]]=>some (fun _=>zZ a6 a7 a8 a9 aA aB aD/\layOk a6 a7=true,[.k (F.hoI a6 a7 a8 a9 aA aB aD aF)])
   |_=>none
 | 175=>match ds with
   |[.one (.v (.int .i64 c))]=>some (fun _=>True,[.k (F.inR c 0 1073741823)])
   |_=>none
 | 91=>match ds with
   |[.one (.v (.int .i64 x)),.one (.v (.int .i64 a)),.one (.v (.int .i64 b))]=>some (fun _=>True,[.k (F.inR x a b)])
   |_=>none
 | 176=>match ds with
   |[.agg [.v (.int .i64 k),.v (.int .i64 m),.s 1 cs,.v (.int .i64 ph),.v (.int .i64 nx)]]=>some (fun _=>Rw [tI] cs/\cs.length<=1099511627776,[.k (F.jbOk k m cs ph nx)])
   |_=>none
 | 177=>match ds with
   |[.agg [.s 1 a0,.s 1 a1,.s 2 a2,.v (.int .i64 a3),.s 1 a4,.s 2 a5,.s 3 a6,.s 3 a7,.s 4 a8,.s 1 a9,.s 1 aA,.s 1 aB,.v (.int .i64 aC),.s 3 aD,.v (.int .i64 aE),.v (.int .i64 aF),.v (.int .i64 aG),.v (.int .i64 aH),.v (.bool aI),.v (.int .i64 aJ),.v (.int .i64 aK),.s 1 aL,.v (.int .i64 aM),.v (.int .i64 aN)],.one (.v (.int .i64 pg))]=>some (fun _=>Rw [tI,tI,tI] a6/\a6.length<=1099511627776,[.j (F.spI a6 pg)])
   |_=>none
 |_=>none
theorem aj :aR (ct F0):=by
 intro f ds pre res h hp;unfold ct at h;split at h<;>(try split at h)<;>cases h
 exact jO hp;exact qN hp;exact jQ hp;exact tc hp;exact lQ hp;exact wm hp;exact sY hp;exact wq hp;exact oZ hp;exact wt hp;exact bc hp;exact mP hp;exact wo hp
abbrev B :cy:=tb aj
end Qa1
theorem wi {a0 a1 a2:aa}{a3:Int}{a4 a5 a6 a7 a8 a9 aA aB:aa}{aC:Int}{aD:aa}{aE aF aG aH:Int}{aI:Bool}{aJ aK:Int}{aL:aa}{aM aN:Int}(hp:NY a0 a1 a2 a4 a5 a6 a7 a8 a9 aA aB aD aL):aw 55 [.agg (ji a0 a1 a2 a3 a4 a5 a6 a7 a8 a9 aA aB aC aD aE aF aG aH aI aJ aK aL aM aN)] [.k (hpI a0 a1 a2 a3 a4 a5 a6 a7 a8 a9 aA aB aC aD aE aF aG aH aI aJ aK aL aM aN)]:=by
 have N:=hp.n;have hcc:=N.c;have hcw:=N.cw;have hel:=hp.el;have hfl:=hp.fl;have hsl:=N.sl;have hcl:=N.cl;have hlc:=aU (es:=a9);refine cb Qa1.B Tryz.func55 ?_
 intro O r F hO hr hF;cbv
 repeat' first|apply AT|(apply bi<;>intro hb<;>cbv)|(refine⟨[1,57,58,59],[1],Int,fun i=>[.reg 59 (.j i)],fun i=>0<=i/\i<=((a9.length:Nat):Int)/\upto (JF a9) i,fun i=>(a9.length)-i.toNat,⟨0,?_,?_⟩,?_⟩;rotate_left;(focus (cbv;done));intro i hi;replace hi:0<=i/\i<=((a9.length:Nat):Int)/\upto (JF a9) i:=hi;obtain⟨i0,i1,i2⟩:=hi;cbv)|(refine ab (O.ar .add .i64 i 1) ?_ ?_ ?_;focus (cbv;done))
 all_goals(subst hO hr hF;(try simp only[nc]at*);(try simp only[ah,SS,sa,az]at*);(try rw[cE (by omega) (by omega)]))
 all_goals first
  | (show(_:List DV)=_
     first
      |(refine ai ?_;symm;exact OG (by assumption))
      |(refine ai ?_;symm;exact OM (by assumption))
      |(refine ai ?_;symm;exact OH (by assumption))
      |(refine ai ?_;symm;exact LR (by assumption))
      |(refine ai ?_;symm;exact OI (by assumption))
      |(refine ai ?_;symm;exact JZ (by assumption))
      |(refine ai ?_;symm;exact OL (by assumption))
      |(refine ai ?_;symm;exact JY i0 (by assumption) (by assumption))
      |(refine ai ?_;symm;exact LQ (by assumption))
      |(refine ai ?_;symm;exact LP (by assumption))
      |(refine ai ?_;symm;exact ON (by assumption))
      |(refine ai ?_;symm;exact OP (by assumption))
      |(refine ai ?_;symm;exact OQ (by assumption))
      |(refine ai ?_;symm;exact OR (by assumption))
      |(refine ai ?_;rw[FE (by assumption) (by assumption) (by assumption) (by assumption) (by assumption) (decide_eq_true (by omega)) (by assumption) (bA i2 (by omega)) (by assumption) (by assumption) (by assumption) (by assumption) (by assumption) (by assumption)];subst_vars;first|exact J1 (by assumption)|exact J2 (by assumption)|exact J3 (by assumption) (by assumption)|exact rfl|((try rw[cmp_eq]);unfold uY jobZ;simp[*];done))
      |done)
  |omega
  |exact fe
  |exact⟨hp.c,hp.u,hp.e,hp.r⟩
  |exact⟨by omega,by omega,hp.f,by omega⟩
  |exact⟨N.sw,N.lw,N.sl,N.ll⟩
  |exact⟨N,by assumption,hp.e,by omega,hp.f,by omega⟩
  |exact N.m
  |exact⟨N.qw,N.ql⟩
  |exact hcc.n i i0 (by assumption)
  |exact⟨N,by assumption⟩
  |exact⟨hp.j,by have:=hp.jl;omega⟩
  |exact⟨N.sw,by omega⟩
  |exact bu
  |exact aY i2 (by assumption)
  |done
namespace Qa2
structure aQ where
 kerOk:aa->aa->aa->Int->aa->Bool
 rgOk:Int->aa->Bool
 layOk:aa->aa->Bool
 pgS:aa->aa->aa->aa->Bool
 smS:aa->aa->Bool
 mailOk:aa->aa->Bool
 quarOk:Int->aa->Bool
 caOk:aa->Bool
 objOk:aa->aa->aa->aa->Int->Bool
 hoS:aa->aa->aa->aa->aa->aa->aa->Bool
 inR:Int->Int->Int->Bool
 jbOk:Int->Int->aa->Int->Int->Bool
 spI:aa->Int->Int
 jobZ:Int->Int->aa->Int->Int->Bool
abbrev F0 :aQ:=⟨kerOk,rgOk,layOk,pgS,smS,mailOk,quarOk,caOk,objOk,hoS,inR,jbOk,spI,jobZ⟩
def ct (F:aQ):CT:=fun f ds=>match f with
 | 134=>match ds with
   |[.agg [.s 1 cs,.s 1 us,.s 2 es,.v (.int .i64 c),.s 1 rs]]=>some (fun _=>Rw [.sl [tI]] cs/\Rw [tB] us/\Rw [tI,tI] es/\Rw [tI] rs,[.k (F.kerOk cs us es c rs)])
   |_=>none
 | 135=>match ds with
   |[.one (.v (.int .i64 n)),.one (.s 2 rs)]=>some (fun _=>0<=n/\n<=1099511627776/\Rw [tI,tI] rs/\rs.length<=1099511627776,[.k (F.rgOk n rs)])
   |_=>none
 | 136=>match ds with
   |[.one (.s 3 sp),.one (.s 3 lg)]=>some (fun _=>Rw [tI,tI,tI] sp/\Rw [tI,tI,tI] lg/\sp.length<=1073741824/\lg.length<=1073741824,[.k (F.layOk sp lg)])
   |_=>none
 | 137=>match ds with
   |[.agg [.s 1 a0,.s 1 a1,.s 2 a2,.v (.int .i64 a3),.s 1 a4,.s 2 a5,.s 3 a6,.s 3 a7,.s 4 a8,.s 1 a9,.s 1 aA,.s 1 aB,.v (.int .i64 aC),.s 3 aD,.v (.int .i64 aE),.v (.int .i64 aF),.v (.int .i64 aG),.v (.int .i64 aH),.v (.bool aI),.v (.int .i64 aJ),.v (.int .i64 aK),.s 1 aL,.v (.int .i64 aM),.v (.int .i64 aN)]]=>some (fun _=>zZ a6 a7 a8 a9 aA aB aD/\layOk a6 a7=true/\Rw [tI,tI] a2/\a2.length<=1099511627776/\Rw [tI,tI] a5/\a5.length<=1099511627776,[.k (F.pgS a2 a5 a6 a7)])
   |_=>none
 | 138=>match ds with
   |[.agg [.s 1 a0,.s 1 a1,.s 2 a2,.v (.int .i64 a3),.s 1 a4,.s 2 a5,.s 3 a6,.s 3 a7,.s 4 a8,.s 1 a9,.s 1 aA,.s 1 aB,.v (.int .i64 aC),.s 3 aD,.v (.int .i64 aE),.v (.int .i64 aF),.v (.int .i64 aG),.v (.int .i64 aH),.v (.bool aI),.v (.int .i64 aJ),.v (.int .i64 aK),.s 1 aL,.v (.int .i64 aM),.v (.int .i64 aN)]]=>some (fun _=>zZ a6 a7 a8 a9 aA aB aD/\Rw [tI,tI] a2/\a2.length<=1099511627776,[.k (F.smS a2 a6)])
   |_=>none
 | 139=>match ds with
   |[.agg [.s 1 b,.s 1 x]]=>some (fun _=>Aa b x,[.k (F.mailOk b x)])
   |_=>none
 | 140=>match ds with
   |[.agg [.v (.int .i64 rm),.s 3 qs]]=>some (fun _=>Rw [tI,tI,tI] qs/\qs.length<=1073741824,[.k (F.quarOk rm qs)])
   |_=>none
 | 141=>match ds with
   |[.agg [.s 1 ls]]=>some (fun _=>Jr ls,[.k (F.caOk ls)])
   |_=>none
 | 142=>match ds with
   |[.agg [.s 1 a0,.s 1 a1,.s 2 a2,.v (.int .i64 a3),.s 1 a4,.s 2 a5,.s 3 a6,.s 3 a7,.s 4 a8,.s 1 a9,.s 1 aA,.s 1 aB,.v (.int .i64 aC),.s 3 aD,.v (.int .i64 aE),.v (.int .i64 aF),.v (.int .i64 aG),.v (.int .i64 aH),.v (.bool aI),.v (.int .i64 aJ),.v (.int .i64 aK),.s 1 aL,.v (.int .i64 aM),.v (.int .i64 aN)]]=>some (fun _=>zZ a6 a7 a8 a9 aA aB aD/\layOk a6 a7=true,[.k (F.objOk a6 a7 a8 a9 aH)])
   |_=>none
 | 143=>match ds with
   |[.agg [.s 1 a0,.s 1 a1,.s 2 a2,.v (.int .i64 a3),.s 1 a4,.s 2 a5,.s 3 a6,.s 3 a7,.s 4 a8,.s 1 a9,.s 1 aA,.s 1 aB,.v (.int .i64 aC),.s 3 aD,.v (.int .i64 aE),.v (.int .i64 aF),.v (.int .i64 aG),.v (.int .i64 aH),.v (.bool aI),.v (.int .i64 aJ),.v (.int .i64 aK),.s 1 aL,.v (.int .i64 aM),.v (.int .i64 aN)]]=>some (fun _=>zZ a6 a7 a8 a9 aA aB aD/\layOk a6 a7=true,[.k (F.hoS a6 a7 a8 a9 aA aB aD)])
   |_=>none
 | 89=>match ds with
   |[.one (.v (.int .i64 x)),.one (.v (.int .i64 a)),.one (.v (.int .i64 b))]=>some (fun _=>True,[.k (F.inR x a b)])
   |_=>none
 | 145=>match ds with
   |[.agg [.v (.int .i64 k),.v (.int .i64 m),.s 1 cs,.v (.int .i64 ph),.v (.int .i64 nx)]]=>some (fun _=>Rw [tI] cs/\cs.length<=1099511627776,[.k (F.jbOk k m cs ph nx)])
   |_=>none
 | 146=>match ds with
   |[.agg [.s 1 a0,.s 1 a1,.s 2 a2,.v (.int .i64 a3),.s 1 a4,.s 2 a5,.s 3 a6,.s 3 a7,.s 4 a8,.s 1 a9,.s 1 aA,.s 1 aB,.v (.int .i64 aC),.s 3 aD,.v (.int .i64 aE),.v (.int .i64 aF),.v (.int .i64 aG),.v (.int .i64 aH),.v (.bool aI),.v (.int .i64 aJ),.v (.int .i64 aK),.s 1 aL,.v (.int .i64 aM),.v (.int .i64 aN)],.one (.v (.int .i64 pg))]=>some (fun _=>Rw [tI,tI,tI] a6/\a6.length<=1099511627776,[.j (F.spI a6 pg)])
   |_=>none
 | 144=>match ds with
   |[.agg [.v (.int .i64 k),.v (.int .i64 m),.s 1 cs,.v (.int .i64 ph),.v (.int .i64 nx)]]=>some (fun _=>True,[.k (F.jobZ k m cs ph nx)])
   |_=>none
 |_=>none
theorem aj :aR (ct F0):=by
 intro f ds pre res h hp;unfold ct at h;split at h<;>(try split at h)<;>cases h
 exact jS hp;exact rV hp;exact fN hp;exact rZ hp;exact pq hp;exact lS hp;exact wS hp;exact tT hp;exact uk hp;exact uo hp;exact be hp;exact nC hp;exact lT hp;exact wX hp
abbrev B :cy:=tb aj
end Qa2
theorem wQ {a0 a1 a2:aa}{a3:Int}{a4 a5 a6 a7 a8 a9 aA aB:aa}{aC:Int}{aD:aa}{aE aF aG aH:Int}{aI:Bool}{aJ aK:Int}{aL:aa}{aM aN:Int}(hp:NY a0 a1 a2 a4 a5 a6 a7 a8 a9 aA aB aD aL):aw 42 [.agg (ji a0 a1 a2 a3 a4 a5 a6 a7 a8 a9 aA aB aC aD aE aF aG aH aI aJ aK aL aM aN)] [.k (hpI a0 a1 a2 a3 a4 a5 a6 a7 a8 a9 aA aB aC aD aE aF aG aH aI aJ aK aL aM aN)]:=by
 have N:=hp.n;have hcc:=N.c;have hcw:=N.cw;have hqw:=N.qw;have hql:=N.ql;have hel:=hp.el;have hfl:=hp.fl;have hsl:=N.sl;have hcl:=N.cl;have hlc:=aU (es:=a9);refine cb Qa2.B Tryz.func42 ?_
 intro O r F hO hr hF;cbv
 repeat' first|apply AT|(apply bi<;>intro hb<;>cbv)|(refine⟨[1,3],[1],Int,fun q=>[.reg 3 (.j q)],fun q=>0<=q/\q<=(aD.length:Int)/\upto (sA aD aF) q,fun q=>aD.length-q.toNat,⟨0,?_,?_⟩,?_⟩;rotate_left;(focus (cbv;done));intro q hq;replace hq:0<=q/\q<=(aD.length:Int)/\upto (sA aD aF) q:=hq;obtain⟨q0,q1,q2⟩:=hq;cbv)|(refine⟨[1,4],[1],Int,fun i=>[.reg 4 (.j i)],fun i=>0<=i/\i<=(a9.length:Int)/\upto (JF a9) i,fun i=>a9.length-i.toNat,⟨0,?_,?_⟩,?_⟩;rotate_left;(focus (cbv;done));intro i hi;replace hi:0<=i/\i<=(a9.length:Int)/\upto (JF a9) i:=hi;obtain⟨i0,i1,i2⟩:=hi;cbv)|(refine ab (O.ar .add .i64 i 1) ?_ ?_ ?_;focus (cbv;done))|(refine ab (O.ar .add .i64 q 1) ?_ ?_ ?_;focus (cbv;done))
 all_goals(subst hO hr hF;(try simp only[nc]at*);(try simp only[ah,SS,sa,az]at*);(try rw[cE (by omega) (by omega)]))
 all_goals first
  | (show(_:List DV)=_
     first
      |(refine ai ?_;symm;exact OG (by assumption))
      |(refine ai ?_;symm;exact OM (by assumption))
      |(refine ai ?_;symm;exact OH (by assumption))
      |(refine ai ?_;symm;exact OK (by assumption) (by assumption))
      |(refine ai ?_;symm;exact OJ (by assumption) (by assumption))
      |(refine ai ?_;symm;exact OI (by assumption))
      |(refine ai ?_;symm;exact JZ (by assumption))
      |(refine ai ?_;symm;exact OL (by assumption))
      |(refine ai ?_;symm;exact OO q0 (by assumption) (by assumption) (by assumption))
      |(refine ai ?_;symm;exact JY i0 (by assumption) (by assumption))
      |(refine ai ?_;symm;exact LQ (by assumption))
      |(refine ai ?_;symm;exact OE (by assumption) (by assumption) (by assumption))
      |(refine ai ?_;symm;exact ON (by assumption))
      |(refine ai ?_;symm;exact OP (by assumption))
      |(refine ai ?_;symm;exact OQ (by assumption))
      |(refine ai ?_;symm;exact OR (by assumption))
      |(refine ai ?_;rw[FE (by assumption) (by assumption) (by assumption) (Tz (by assumption) (by assumption) (by assumption)) (by assumption) (decide_eq_true (by omega)) (by assumption) (bA i2 (by omega)) (by assumption) (Sv (by assumption) (by assumption) (by assumption) (by omega) q2) (by assumption) (by assumption) (by assumption) (by assumption)];subst_vars;first|exact J1 (by assumption)|exact J2 (by assumption)|exact J3 (by assumption) (by assumption)|exact rfl|((try rw[cmp_eq]);unfold uY jobZ;simp[*];done))
      |done)
  |omega
  |exact fe
  |(show aV _ _=true;kernel_rfl)
  |exact⟨hp.c,hp.u,hp.e,hp.r⟩
  |exact⟨by omega,by omega,hp.f,by omega⟩
  |exact⟨N.sw,N.lw,N.sl,N.ll⟩
  |exact⟨N,by assumption,hp.e,by omega,hp.f,by omega⟩
  |exact⟨N,hp.e,by omega⟩
  |exact N.m
  |exact⟨N.qw,N.ql⟩
  |exact hcc.n i i0 (by assumption)
  |exact⟨N,by assumption⟩
  |exact⟨hp.j,by have:=hp.jl;omega⟩
  |exact⟨N.sw,by omega⟩
  |exact bu
  |exact aY i2 (by assumption)
  |exact aY q2 (T6 (by assumption))
  |done
end Go.V