/- Contracts. -/
import Derived.Test.YtbedjnlfdopeeaaGreatXHeapAu
set_option linter.all false
open Go
open And renaming intro->Zb
open IntKind renaming i64->Za
namespace Go.V
open Go Go.Proofs
set_option maxRecDepth 1000000
set_option maxHeartbeats 8000000
theorem gq {es:aa}{f:Int}(hp:Rw [tI,tI] es/\es.length<=1099511627776):ap 315 [.agg [.s 2 es],.j f] [.one (.s 1 (pagesOn es f))]:=by
 obtain⟨hw,hlen⟩:=hp;refine cb nB Tryz.func315 ?_
 intro O r F hO hr hF;cbv
 repeat' first|apply Zb|(apply bu<;>intro hb<;>cbv)|(refine⟨[1,5,10,11,12],[5],Int×aa,fun s_=>match s_ with|(i,out)=>[.reg 12 (.j i),.reg 5 (.one (.vw 5 0 0 0 (O.ln out))),.leaf 5 0 ⟨0,0,none,.own (.s 1 out)⟩],fun s_=>match s_ with|(i,out)=>0<=i/\i<=(es.length:Int)/\out=rL es f i.toNat,fun s_=>match s_ with|(i,out)=>es.length-i.toNat,⟨(0,[]),?_,?_⟩,?_⟩;rotate_left;(focus (cbv;done));intro s_ hi;obtain⟨i,out⟩:=s_;replace hi:0<=i/\i<=(es.length:Int)/\out=rL es f i.toNat:=hi;obtain⟨i0,i1,i2⟩:=hi;cbv)|(refine ab (O.ar .add Za i 1,O.cat out (O.sub [[.i i]] 0 (O.ln [[.i i]]))) ?_ ?_ ?_;focus (cbv;done))|(refine ab (O.ar .add Za i 1,out) ?_ ?_ ?_;focus (cbv;done))
 all_goals exact SD
theorem gB {es:aa}{f:Int}(hp:Rw [tI,tI] es/\es.length<=1099511627776):ap 331 [.agg [.s 2 es],.j f] [.one (.s 1 (pagesOn es f))]:=by
 obtain⟨hw,hlen⟩:=hp;refine cb nB Tryz.func331 ?_
 intro O r F hO hr hF;cbv
 repeat' first|apply Zb|(apply bu<;>intro hb<;>cbv)|(refine⟨[1,2,5,6],[2,5],Int×aa,fun s_=>match s_ with|(i,out)=>[.reg 6 (.j i),.reg 5 (.one (.vw 5 0 0 0 (O.ln out))),.leaf 5 0 ⟨0,0,none,.own (.s 1 out)⟩],fun s_=>match s_ with|(i,out)=>0<=i/\i<=(es.length:Int)/\out=rL es f i.toNat,fun s_=>match s_ with|(i,out)=>es.length-i.toNat,⟨(0,[]),?_,?_⟩,?_⟩;rotate_left;(focus (cbv;done));intro s_ hi;obtain⟨i,out⟩:=s_;replace hi:0<=i/\i<=(es.length:Int)/\out=rL es f i.toNat:=hi;obtain⟨i0,i1,i2⟩:=hi;cbv)|(refine ab (O.ar .add Za i 1,O.cat out (O.sub [[.i i]] 0 (O.ln [[.i i]]))) ?_ ?_ ?_;focus (cbv;done))|(refine ab (O.ar .add Za i 1,out) ?_ ?_ ?_;focus (cbv;done))
 all_goals exact SD
namespace B1
structure aP where
 inR:Int->Int->Int->Bool
abbrev F0:aP:=⟨inR⟩
def ct (F:aP):CT:=fun f ds=>match f,ds with
 |41,[.one (.v (.int Za x)),.one (.v (.int Za a)),.one (.v (.int Za b))]=>some (fun _=>True,[.k (F.inR x a b)])
 |28,[.one (.v (.int Za x)),.one (.v (.int Za a)),.one (.v (.int Za b))]=>some (fun _=>True,[.k (F.inR x a b)])
 |_,_=>none
theorem aj:aT (ct F0):=by
 intro f ds pre res h hp;unfold ct at h;split at h<;>cases h
 exact bc hp;exact be hp
abbrev B:cF:=tb aj
end B1
theorem fh {es:aa}{p:Int}(hp:Rw [tI,tI] es):ap 82 [.agg [.s 2 es],.j p] [.agg [.i (peM es p),.i (peF es p)]]:=by
 have hm:=hp.1;unfold maxLen at hm;have hsb:bK .sub Za (es.length:Int) 1=es.length-1:=cN (by omega);refine cb B1.B Tryz.func82 ?_
 exact SE
theorem iL {es:aa}{p:Int}(hp:Rw [tI,tI] es):ap 181 [.agg [.s 2 es],.j p] [.agg [.i (peM es p),.i (peF es p)]]:=by
 have hm:=hp.1;unfold maxLen at hm;have hsb:bK .sub Za (es.length:Int) 1=es.length-1:=cN (by omega);refine cb B1.B Tryz.func181 ?_
 exact SE
namespace B2
structure aP where
 peM:aa->Int->Int
 peF:aa->Int->Int
 pagesOn:aa->Int->aa
abbrev F0:aP:=⟨peM,peF,pagesOn⟩
def ct (F:aP):CT:=fun f ds=>match f,ds with
 |82,[.agg [.s 2 es],.one (.v (.int Za p))]=>some (fun _=>Rw [tI,tI] es,[.agg [.i (F.peM es p),.i (F.peF es p)]])
 |315,[.agg [.s 2 es],.one (.v (.int Za f))]=>some (fun _=>Rw [tI,tI] es/\es.length<=1099511627776,[.one (.s 1 (F.pagesOn es f))])
 |181,[.agg [.s 2 es],.one (.v (.int Za p))]=>some (fun _=>Rw [tI,tI] es,[.agg [.i (F.peM es p),.i (F.peF es p)]])
 |331,[.agg [.s 2 es],.one (.v (.int Za f))]=>some (fun _=>Rw [tI,tI] es/\es.length<=1099511627776,[.one (.s 1 (F.pagesOn es f))])
 |_,_=>none
theorem aj:aT (ct F0):=by
 intro f ds pre res h hp;unfold ct at h;split at h<;>cases h
 exact fh hp;exact gq hp;exact iL hp;exact gB hp
abbrev B:cF:=tb aj
end B2
theorem mC {a0 a1 a2:aa}{a3:Int}{a4 a5 a6 a7 a8 a9 aA aB:aa}{aC:Int}{aD:aa}{aE aF aG aH:Int}{aI:Bool}{aJ aK:Int}{aL:aa}{aM aN pg:Int}(hp:Rw [tI,tI] a2/\a2.length<=1099511627776):ap 229 [.agg (iF a0 a1 a2 a3 a4 a5 a6 a7 a8 a9 aA aB aC aD aE aF aG aH aI aJ aK aL aM aN),.j pg] [.one (.s 1 (fpg a2 pg))]:=by
 obtain⟨hw,hn⟩:=hp;refine cb B2.B Tryz.func229 ?_
 exact SL
theorem hJ {a0 a1 a2:aa}{a3:Int}{a4 a5 a6 a7 a8 a9 aA aB:aa}{aC:Int}{aD:aa}{aE aF aG aH:Int}{aI:Bool}{aJ aK:Int}{aL:aa}{aM aN pg:Int}(hp:Rw [tI,tI] a2/\a2.length<=1099511627776):ap 262 [.agg (iF a0 a1 a2 a3 a4 a5 a6 a7 a8 a9 aA aB aC aD aE aF aG aH aI aJ aK aL aM aN),.j pg] [.one (.s 1 (fpg a2 pg))]:=by
 obtain⟨hw,hn⟩:=hp;refine cb B2.B Tryz.func262 ?_
 exact SL
end Go.V