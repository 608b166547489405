/- Contracts. -/
import Derived.Test.YtcodmgmliopheaaGreatHoBt
set_option linter.all false
namespace Go.V
open Go Go.Proofs
set_option maxRecDepth 1000000
set_option maxHeartbeats 8000000
namespace Jb0
structure aQ where
 inR:Int->Int->Int->Bool
 mailOk:aa->aa->Bool
abbrev F0 :aQ:=⟨inR,mailOk⟩
def ct (F:aQ):CT:=fun f ds=>match f,ds with
 |91,[.one (.v (.int .i64 x)),.one (.v (.int .i64 a)),.one (.v (.int .i64 b))]=>some (fun _=>True,[.k (F.inR x a b)])
 |170,[.agg [.s 1 b,.s 1 x]]=>some (fun _=>rU b x,[.k (F.mailOk b x)])
 |_,_=>none
theorem ah :aR (ct F0):=by
 intro f ds pre res h hp;unfold ct at h;split at h<;>cases h
 exact aU hp;exact gY hp
abbrev B :cq:=tb ah
end Jb0
theorem oE {b x:aa}{f:Int}(hp:rU b x):ap 165 [.agg [.s 1 b,.s 1 x],.j f] [.k (htB b x f)]:=by
 have hbl:=hp.bl;have hsb:bH .sub .i64 (b.length:Int) 1=b.length-1:=cB (by omega);refine Go.V.cb Jb0.B Tryz.func165 ?_
 exact SQ
namespace Jb1
structure aQ where
 inR:Int->Int->Int->Bool
 mailOk:aa->aa->Bool
abbrev F0 :aQ:=⟨inR,mailOk⟩
def ct (F:aQ):CT:=fun f ds=>match f,ds with
 |89,[.one (.v (.int .i64 x)),.one (.v (.int .i64 a)),.one (.v (.int .i64 b))]=>some (fun _=>True,[.k (F.inR x a b)])
 |139,[.agg [.s 1 b,.s 1 x]]=>some (fun _=>rU b x,[.k (F.mailOk b x)])
 |_,_=>none
theorem ah :aR (ct F0):=by
 intro f ds pre res h hp;unfold ct at h;split at h<;>cases h
 exact bc hp;exact hH hp
abbrev B :cq:=tb ah
end Jb1
theorem xY {b x:aa}{f:Int}(hp:rU b x):ap 147 [.agg [.s 1 b,.s 1 x],.j f] [.k (htB b x f)]:=by
 have hbl:=hp.bl;have hsb:bH .sub .i64 (b.length:Int) 1=b.length-1:=cB (by omega);refine Go.V.cb Jb1.B Tryz.func147 ?_
 exact SQ
namespace Jb2
structure aQ where
 htB:aa->aa->Int->Bool
abbrev F0 :aQ:=⟨htB⟩
def ct (F:aQ):CT:=fun f ds=>match f,ds with
 |162,[.agg [.s 1 b,.s 1 x]]=>some (fun _=>Rw [.sl [tI,tI]] b/\Rw [.sl [tI]] x/\ag b<=1099511627776/\ag x<=1099511627776,[.agg [.s 1 b,.s 1 x]])
 |165,[.agg [.s 1 b,.s 1 x],.one (.v (.int .i64 f))]=>some (fun _=>rU b x,[.k (F.htB b x f)])
 |131,[.agg [.s 1 b,.s 1 x]]=>some (fun _=>Rw [.sl [tI,tI]] b/\Rw [.sl [tI]] x/\ag b<=1099511627776/\ag x<=1099511627776,[.agg [.s 1 b,.s 1 x]])
 |147,[.agg [.s 1 b,.s 1 x],.one (.v (.int .i64 f))]=>some (fun _=>rU b x,[.k (F.htB b x f)])
 |_,_=>none
theorem ah :aR (ct F0):=by
 intro f ds pre res h hp;unfold ct at h;split at h<;>cases h
 exact jv hp;exact oE hp;exact jX hp;exact xY hp
abbrev B :cq:=tb ah
end Jb2
theorem sN {b x:aa}{f:Int}(hp:Rw [.sl [tI,tI]] b/\Rw [.sl [tI]] x/\ag b<=1073741824/\ag x<=1073741824):ap 54 [.agg [.s 1 b,.s 1 x],.j f] [.agg [.s 1 (dlB b x f),.s 1 (dlI b x f)],.k (dlOk b x f)]:=by
 obtain⟨wb,wx,cb,cx⟩:=hp;have N:=BH wb wx cb cx;have lb:=aP (es:=b);have lx:=aP (es:=x);refine Go.V.cb Jb2.B Tryz.func54 ?_
 exact Sl
theorem tF {b x:aa}{f:Int}(hp:Rw [.sl [tI,tI]] b/\Rw [.sl [tI]] x/\ag b<=1073741824/\ag x<=1073741824):ap 43 [.agg [.s 1 b,.s 1 x],.j f] [.agg [.s 1 (dlB b x f),.s 1 (dlI b x f)],.k (dlOk b x f)]:=by
 obtain⟨wb,wx,cb,cx⟩:=hp;have N:=BH wb wx cb cx;have lb:=aP (es:=b);have lx:=aP (es:=x);refine Go.V.cb Jb2.B Tryz.func43 ?_
 exact Sl
namespace Jb3
structure aQ where
 dlB:aa->aa->Int->aa
 dlI:aa->aa->Int->aa
 dlOk:aa->aa->Int->Bool
 hpI:aa->aa->aa->Int->aa->aa->aa->aa->aa->aa->aa->aa->Int->aa->Int->Int->Int->Int->Bool->Int->Int->aa->Int->Int->Bool
abbrev F0 :aQ:=⟨dlB,dlI,dlOk,hpI⟩
def ct (F:aQ):CT:=fun f ds=>match f with
 | 53=>match ds with
   |[.agg [.s 1 a0,.s 1 a1,.s 2 a2,.v (.int .i64 a3),.s 1 a4,.s 2 a5,.s 3 a6,.s 3 a7,.s 4 a8,.s 1 a9,.s 1 aA,.s 1 aB,.v (.int .i64 aC),.s 3 aD,.v (.int .i64 aE),.v (.int .i64 aF),.v (.int .i64 aG),.v (.int .i64 aH),.v (.bool aI),.v (.int .i64 aJ),.v (.int .i64 aK),.s 1 aL,.v (.int .i64 aM),.v (.int .i64 aN)]]=>some (fun _=>pJ a0 a1 a2 a4 a5 a6 a7 a8 a9 aA aB aD aL,[.agg (fU a0 a1 a2 a3 a4 a5 a6 a7 a8 a9 aA aB aC aD aE aF aG aH aI aJ aK aL aM aN)])
   |_=>none
 | 54=>match ds with
   |[.agg [.s 1 b,.s 1 x],.one (.v (.int .i64 f))]=>some (fun _=>Rw [.sl [tI,tI]] b/\Rw [.sl [tI]] x/\ag b<=1073741824/\ag x<=1073741824,[.agg [.s 1 (F.dlB b x f),.s 1 (F.dlI b x f)],.k (F.dlOk b x f)])
   |_=>none
 | 55=>match ds with
   |[.agg [.s 1 a0,.s 1 a1,.s 2 a2,.v (.int .i64 a3),.s 1 a4,.s 2 a5,.s 3 a6,.s 3 a7,.s 4 a8,.s 1 a9,.s 1 aA,.s 1 aB,.v (.int .i64 aC),.s 3 aD,.v (.int .i64 aE),.v (.int .i64 aF),.v (.int .i64 aG),.v (.int .i64 aH),.v (.bool aI),.v (.int .i64 aJ),.v (.int .i64 aK),.s 1 aL,.v (.int .i64 aM),.v (.int .i64 aN)]]=>some (fun _=>LB a0 a1 a2 a4 a5 a6 a7 a8 a9 aA aB aD aL,[.k (F.hpI a0 a1 a2 a3 a4 a5 a6 a7 a8 a9 aA aB aC aD aE aF aG aH aI aJ aK aL aM aN)])
   |_=>none
 | 41=>match ds with
   |[.agg [.s 1 a0,.s 1 a1,.s 2 a2,.v (.int .i64 a3),.s 1 a4,.s 2 a5,.s 3 a6,.s 3 a7,.s 4 a8,.s 1 a9,.s 1 aA,.s 1 aB,.v (.int .i64 aC),.s 3 aD,.v (.int .i64 aE),.v (.int .i64 aF),.v (.int .i64 aG),.v (.int .i64 aH),.v (.bool aI),.v (.int .i64 aJ),.v (.int .i64 aK),.s 1 aL,.v (.int .i64 aM),.v (.int .i64 aN)]]=>some (fun _=>pJ a0 a1 a2 a4 a5 a6 a7 a8 a9 aA aB aD aL,[.agg (fU a0 a1 a2 a3 a4 a5 a6 a7 a8 a9 aA aB aC aD aE aF aG aH aI aJ aK aL aM aN)])
   |_=>none
 | 42=>match ds with
   |[.agg [.s 1 a0,.s 1 a1,.s 2 a2,.v (.int .i64 a3),.s 1 a4,.s 2 a5,.s 3 a6,.s 3 a7,.s 4 a8,.s 1 a9,.s 1 aA,.s 1 aB,.v (.int .i64 aC),.s 3 aD,.v (.int .i64 aE),.v (.int .i64 aF),.v (.int .i64 aG),.v (.int .i64 aH),.v (.bool aI),.v (.int .i64 aJ),.v (.int .i64 aK),.s 1 aL,.v (.int .i64 aM),.v (.int .i64 aN)]]=>some (fun _=>LB a0 a1 a2 a4 a5 a6 a7 a8 a9 aA aB aD aL,[.k (F.hpI a0 a1 a2 a3 a4 a5 a6 a7 a8 a9 aA aB aC aD aE aF aG aH aI aJ aK aL aM aN)])
   |_=>none
 | 43=>match ds with
   |[.agg [.s 1 b,.s 1 x],.one (.v (.int .i64 f))]=>some (fun _=>Rw [.sl [tI,tI]] b/\Rw [.sl [tI]] x/\ag b<=1073741824/\ag x<=1073741824,[.agg [.s 1 (F.dlB b x f),.s 1 (F.dlI b x f)],.k (F.dlOk b x f)])
   |_=>none
 |_=>none
theorem ah :aR (ct F0):=by
 intro f ds pre res h hp;unfold ct at h;split at h<;>(try split at h)<;>cases h
 exact ju hp;exact sN hp;exact kX hp;exact jY hp;exact k9 hp;exact tF hp
abbrev B :cq:=tb ah
end Jb3
theorem lu {a0 a1 a2:aa}{a3:Int}{a4 a5 a6 a7 a8 a9 aA aB:aa}{aC:Int}{aD:aa}{aE aF aG aH:Int}{aI:Bool}{aJ aK:Int}{aL:aa}{aM aN f:Int}(hp:pJ a0 a1 a2 a4 a5 a6 a7 a8 a9 aA aB aD aL):ap 14 [.agg (fU a0 a1 a2 a3 a4 a5 a6 a7 a8 a9 aA aB aC aD aE aF aG aH aI aJ aK aL aM aN),.j f] [.agg (fU a0 a1 a2 a3 a4 a5 a6 a7 a8 a9 (dvB (hpI a0 a1 a2 a3 a4 a5 a6 a7 a8 a9 aA aB aC aD aE aF aG aH aI aJ aK aL aM aN) aA aB f) (dvI (hpI a0 a1 a2 a3 a4 a5 a6 a7 a8 a9 aA aB aC aD aE aF aG aH aI aJ aK aL aM aN) aA aB f) aC aD aE aF aG aH aI aJ aK aL aM aN),.k (dvK (hpI a0 a1 a2 a3 a4 a5 a6 a7 a8 a9 aA aB aC aD aE aF aG aH aI aJ aK aL aM aN) aA aB f)]:=by
 refine Go.V.cb Jb3.B Tryz.func14 ?_
 exact Sw
theorem lE {a0 a1 a2:aa}{a3:Int}{a4 a5 a6 a7 a8 a9 aA aB:aa}{aC:Int}{aD:aa}{aE aF aG aH:Int}{aI:Bool}{aJ aK:Int}{aL:aa}{aM aN f:Int}(hp:pJ a0 a1 a2 a4 a5 a6 a7 a8 a9 aA aB aD aL):ap 12 [.agg (fU a0 a1 a2 a3 a4 a5 a6 a7 a8 a9 aA aB aC aD aE aF aG aH aI aJ aK aL aM aN),.j f] [.agg (fU a0 a1 a2 a3 a4 a5 a6 a7 a8 a9 (dvB (hpI a0 a1 a2 a3 a4 a5 a6 a7 a8 a9 aA aB aC aD aE aF aG aH aI aJ aK aL aM aN) aA aB f) (dvI (hpI a0 a1 a2 a3 a4 a5 a6 a7 a8 a9 aA aB aC aD aE aF aG aH aI aJ aK aL aM aN) aA aB f) aC aD aE aF aG aH aI aJ aK aL aM aN),.k (dvK (hpI a0 a1 a2 a3 a4 a5 a6 a7 a8 a9 aA aB aC aD aE aF aG aH aI aJ aK aL aM aN) aA aB f)]:=by
 refine Go.V.cb Jb3.B Tryz.func12 ?_
 exact Sw
end Go.V