/- Contracts. -/
import Derived.Test.YticfhgfgobafbaaGreatHeapAm
set_option linter.all false
namespace Go.V
open Go Go.Proofs
set_option maxRecDepth 1000000
set_option maxHeartbeats 8000000
theorem iO {es:aa}{f:Int}(hp:Rw [tI,tI] es/\es.length<=1099511627776):ao 205 [.agg [.s 2 es],.j f] [.one (.s 1 (pagesOn es f))]:=by
 obtain⟨hw,hlen⟩:=hp;refine cb nB Tryz.func205 ?_
 intro O r F hO hr hF;cbv
 repeat' first|apply And.intro|(apply bi<;>intro hb<;>cbv)|(refine⟨[1,5,10,11,12],[5],Int×aa,fun s_=>match s_ with|(i,out)=>[.reg 12 (.j i),.reg 5 (.one (.vw 5 0 0 0 (O.ln out))),.leaf 5 0 ⟨0,0,none,.own (.s 1 out)⟩],fun s_=>match s_ with|(i,out)=>0<=i/\i<=(es.length:Int)/\out=r8 es f i.toNat,fun s_=>match s_ with|(i,out)=>es.length-i.toNat,⟨(0,[]),?_,?_⟩,?_⟩;rotate_left;(focus (cbv;done));intro s_ hi;obtain⟨i,out⟩:=s_;replace hi:0<=i/\i<=(es.length:Int)/\out=r8 es f i.toNat:=hi;obtain⟨i0,i1,i2⟩:=hi;cbv)|(refine ab (O.ar .add .i64 i 1,O.cat out (O.sub [[.i i]] 0 (O.ln [[.i i]]))) ?_ ?_ ?_;focus (cbv;done))|(refine ab (O.ar .add .i64 i 1,out) ?_ ?_ ?_;focus (cbv;done))
 all_goals exact LB
theorem iS {es:aa}{f:Int}(hp:Rw [tI,tI] es/\es.length<=1099511627776):ao 198 [.agg [.s 2 es],.j f] [.one (.s 1 (pagesOn es f))]:=by
 obtain⟨hw,hlen⟩:=hp;refine cb nB Tryz.func198 ?_
 intro O r F hO hr hF;cbv
 repeat' first|apply And.intro|(apply bi<;>intro hb<;>cbv)|(refine⟨[1,2,5,6],[2,5],Int×aa,fun s_=>match s_ with|(i,out)=>[.reg 6 (.j i),.reg 5 (.one (.vw 5 0 0 0 (O.ln out))),.leaf 5 0 ⟨0,0,none,.own (.s 1 out)⟩],fun s_=>match s_ with|(i,out)=>0<=i/\i<=(es.length:Int)/\out=r8 es f i.toNat,fun s_=>match s_ with|(i,out)=>es.length-i.toNat,⟨(0,[]),?_,?_⟩,?_⟩;rotate_left;(focus (cbv;done));intro s_ hi;obtain⟨i,out⟩:=s_;replace hi:0<=i/\i<=(es.length:Int)/\out=r8 es f i.toNat:=hi;obtain⟨i0,i1,i2⟩:=hi;cbv)|(refine ab (O.ar .add .i64 i 1,O.cat out (O.sub [[.i i]] 0 (O.ln [[.i i]]))) ?_ ?_ ?_;focus (cbv;done))|(refine ab (O.ar .add .i64 i 1,out) ?_ ?_ ?_;focus (cbv;done))
 all_goals exact LB
namespace B1
structure aO where
 inR:Int->Int->Int->Bool
abbrev F0 :aO:=⟨inR⟩
def ct (F:aO):CT:=fun f ds=>match f,ds with
 |87,[.one (.v (.int .i64 x)),.one (.v (.int .i64 a)),.one (.v (.int .i64 b))]=>some (fun _=>True,[.k (F.inR x a b)])
 |71,[.one (.v (.int .i64 x)),.one (.v (.int .i64 a)),.one (.v (.int .i64 b))]=>some (fun _=>True,[.k (F.inR x a b)])
 |_,_=>none
theorem aj :aR (ct F0):=by
 intro f ds pre res h hp;unfold ct at h;split at h<;>cases h
 exact aU hp;exact ba hp
abbrev B :cD:=tb aj
end B1
theorem ep {es:aa}{p:Int}(hp:Rw [tI,tI] es):ao 158 [.agg [.s 2 es],.j p] [.agg [.i (peM es p),.i (peF es p)]]:=by
 have hm:=hp.1;unfold maxLen at hm;have hsb:bP .sub .i64 (es.length:Int) 1=es.length-1:=cR (by omega);refine cb B1.B Tryz.func158 ?_
 exact LC
theorem mw {es:aa}{p:Int}(hp:Rw [tI,tI] es):ao 202 [.agg [.s 2 es],.j p] [.agg [.i (peM es p),.i (peF es p)]]:=by
 have hm:=hp.1;unfold maxLen at hm;have hsb:bP .sub .i64 (es.length:Int) 1=es.length-1:=cR (by omega);refine cb B1.B Tryz.func202 ?_
 exact LC
namespace B2
structure aO where
 peM:aa->Int->Int
 peF:aa->Int->Int
 pagesOn:aa->Int->aa
abbrev F0 :aO:=⟨peM,peF,pagesOn⟩
def ct (F:aO):CT:=fun f ds=>match f,ds with
 |158,[.agg [.s 2 es],.one (.v (.int .i64 p))]=>some (fun _=>Rw [tI,tI] es,[.agg [.i (F.peM es p),.i (F.peF es p)]])
 |205,[.agg [.s 2 es],.one (.v (.int .i64 f))]=>some (fun _=>Rw [tI,tI] es/\es.length<=1099511627776,[.one (.s 1 (F.pagesOn es f))])
 |202,[.agg [.s 2 es],.one (.v (.int .i64 p))]=>some (fun _=>Rw [tI,tI] es,[.agg [.i (F.peM es p),.i (F.peF es p)]])
 |198,[.agg [.s 2 es],.one (.v (.int .i64 f))]=>some (fun _=>Rw [tI,tI] es/\es.length<=1099511627776,[.one (.s 1 (F.pagesOn es f))])
 |_,_=>none
theorem aj :aR (ct F0):=by
 intro f ds pre res h hp;unfold ct at h;split at h<;>cases h
 exact ep hp;exact iO hp;exact mw hp;exact iS hp
abbrev B :cD:=tb aj
end B2
theorem kO {a0 a1 a2:aa}{a3:Int}{a4 a5 a6 a7 a8 a9 aA aB:aa}{aC:Int}{aD:aa}{aE aF aG aH:Int}{aI:Bool}{aJ aK:Int}{aL:aa}{aM aN pg:Int}(hp:Rw [tI,tI] a2/\a2.length<=1099511627776):ao 155 [.agg (kH a0 a1 a2 a3 a4 a5 a6 a7 a8 a9 aA aB aC aD aE aF aG aH aI aJ aK aL aM aN),.j pg] [.one (.s 1 (fpg a2 pg))]:=by
 obtain⟨hw,hn⟩:=hp;refine cb B2.B Tryz.func155 ?_
 exact LI
theorem fN {a0 a1 a2:aa}{a3:Int}{a4 a5 a6 a7 a8 a9 aA aB:aa}{aC:Int}{aD:aa}{aE aF aG aH:Int}{aI:Bool}{aJ aK:Int}{aL:aa}{aM aN pg:Int}(hp:Rw [tI,tI] a2/\a2.length<=1099511627776):ao 140 [.agg (kH a0 a1 a2 a3 a4 a5 a6 a7 a8 a9 aA aB aC aD aE aF aG aH aI aJ aK aL aM aN),.j pg] [.one (.s 1 (fpg a2 pg))]:=by
 obtain⟨hw,hn⟩:=hp;refine cb B2.B Tryz.func140 ?_
 exact LI
theorem gM {l:aa}{x:Int}(hp:Rw [tI] l/\l.length<=1099511627776):ao 120 [.one (.s 1 l),.j x] [.j (idxI l x)]:=by
 obtain⟨hw,hn⟩:=hp;refine cb nB Tryz.func120 ?_
 intro O r F hO hr hF;cbv
 repeat' first|apply And.intro|(apply bi<;>intro hb<;>cbv)|(refine⟨[0,1,7,8],[0],Int,fun i=>[.reg 8 (.j i)],fun i=>0<=i/\i<=((l.length:Nat):Int)/\upto (bY (AC l x)) i,fun i=>(l.length)-i.toNat,⟨0,?_,?_⟩,?_⟩;rotate_left;(focus (cbv;done));intro i hi;replace hi:0<=i/\i<=((l.length:Nat):Int)/\upto (bY (AC l x)) i:=hi;obtain⟨i0,i1,i2⟩:=hi;cbv)|(refine ab (O.ar .add .i64 i 1) ?_ ?_ ?_;focus (cbv;done))
 all_goals(subst hO hr hF;(try simp only[nc]at*);(try simp only[ai,SS,sa,az]at*);(try rw[cB (by omega) (by omega)]))
 all_goals first
  | (show(_:List DV)=_
     first
      |exact cr (cN i2 i0 (by assumption) (show AC l x i=true from lh (by assumption))).symm
      |exact cr (cO i2 (by assumption)).symm
      |done)
  |omega
  |exact eZ
  |exact aY
  |exact aP i2 (fB (show AC l x i=false from qS (by assumption)))
  |trace_state
namespace B3
structure aO where
 idxI:aa->Int->Int
abbrev F0 :aO:=⟨idxI⟩
def ct (F:aO):CT:=fun f ds=>match f,ds with
 |120,[.one (.s 1 l),.one (.v (.int .i64 x))]=>some (fun _=>Rw [tI] l/\l.length<=1099511627776,[.j (F.idxI l x)])
 |_,_=>none
theorem aj :aR (ct F0):=by
 intro f ds pre res h hp;unfold ct at h;split at h<;>cases h
 exact gM hp
abbrev B :cD:=tb aj
end B3
theorem dM {l:aa}{x:Int}(hp:Rw [tI] l/\l.length<=1099511627776):ao 44 [.one (.s 1 l),.j x] [.k (hasB l x)]:=by
 refine cb B3.B Tryz.func44 ?_
 intro O r F hO hr hF;cbv
 repeat' first|apply And.intro|(apply bi<;>intro hb<;>cbv)
 all_goals(subst hO hr hF;(try simp only[nc]at*);(try simp only[ai,SS,sa,az]at*))
 all_goals first
  | (show(_:List DV)=_
     first
      |exact ag (show cp .geq (idxI l x) 0=decide (0<=idxI l x)from rfl)
      |done)
  |exact hp
  |trace_state
end Go.V