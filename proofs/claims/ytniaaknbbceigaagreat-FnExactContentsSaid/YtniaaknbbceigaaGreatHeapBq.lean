/- Contracts. -/
import Derived.Test.YtniaaknbbceigaaGreatHeapAq
set_option linter.all false
namespace Go.V
open Go Go.Proofs
set_option maxRecDepth 1000000
set_option maxHeartbeats 8000000
theorem j6 {es:aa}{f:Int}(hp:Rw [tI,tI] es/\es.length<=1099511627776):ap 236 [.agg [.s 2 es],.j f] [.one (.s 1 (pagesOn es f))]:=by
 obtain⟨hw,hlen⟩:=hp;refine cb nB Tryz.func236 ?_
 intro O r F hO hr hF;cbv
 repeat' first|apply And.intro|(apply be<;>intro hb<;>cbv)|(refine⟨[1,5,10,11,12],[5],Int×aa,fun s_=>match s_ with|(i,out)=>[.reg 12 (.j i),.reg 5 (.one (.vw 5 0 0 0 (O.ln out))),.leaf 5 0 ⟨0,0,none,.own (.s 1 out)⟩],fun s_=>match s_ with|(i,out)=>0<=i/\i<=(es.length:Int)/\out=uG es f i.toNat,fun s_=>match s_ with|(i,out)=>es.length-i.toNat,⟨(0,[]),?_,?_⟩,?_⟩;rotate_left;(focus (cbv;done));intro s_ hi;obtain⟨i,out⟩:=s_;replace hi:0<=i/\i<=(es.length:Int)/\out=uG es f i.toNat:=hi;obtain⟨i0,i1,i2⟩:=hi;cbv)|(refine ab (O.ar .add .i64 i 1,O.cat out (O.sub [[.i i]] 0 (O.ln [[.i i]]))) ?_ ?_ ?_;focus (cbv;done))|(refine ab (O.ar .add .i64 i 1,out) ?_ ?_ ?_;focus (cbv;done))
 all_goals exact Q9
theorem ka {es:aa}{f:Int}(hp:Rw [tI,tI] es/\es.length<=1099511627776):ap 234 [.agg [.s 2 es],.j f] [.one (.s 1 (pagesOn es f))]:=by
 obtain⟨hw,hlen⟩:=hp;refine cb nB Tryz.func234 ?_
 intro O r F hO hr hF;cbv
 repeat' first|apply And.intro|(apply be<;>intro hb<;>cbv)|(refine⟨[1,2,5,6],[2,5],Int×aa,fun s_=>match s_ with|(i,out)=>[.reg 6 (.j i),.reg 5 (.one (.vw 5 0 0 0 (O.ln out))),.leaf 5 0 ⟨0,0,none,.own (.s 1 out)⟩],fun s_=>match s_ with|(i,out)=>0<=i/\i<=(es.length:Int)/\out=uG es f i.toNat,fun s_=>match s_ with|(i,out)=>es.length-i.toNat,⟨(0,[]),?_,?_⟩,?_⟩;rotate_left;(focus (cbv;done));intro s_ hi;obtain⟨i,out⟩:=s_;replace hi:0<=i/\i<=(es.length:Int)/\out=uG es f i.toNat:=hi;obtain⟨i0,i1,i2⟩:=hi;cbv)|(refine ab (O.ar .add .i64 i 1,O.cat out (O.sub [[.i i]] 0 (O.ln [[.i i]]))) ?_ ?_ ?_;focus (cbv;done))|(refine ab (O.ar .add .i64 i 1,out) ?_ ?_ ?_;focus (cbv;done))
 all_goals exact Q9
namespace B1
structure av where
 inR:Int->Int->Int->Bool
abbrev F0 :av:=⟨inR⟩
def ct (F:av):CT:=fun f ds=>match f,ds with
 |152,[.one (.v (.int .i64 x)),.one (.v (.int .i64 a)),.one (.v (.int .i64 b))]=>some (fun _=>True,[.k (F.inR x a b)])
 |126,[.one (.v (.int .i64 x)),.one (.v (.int .i64 a)),.one (.v (.int .i64 b))]=>some (fun _=>True,[.k (F.inR x a b)])
 |_,_=>none
theorem ah :aO (ct F0):=by
 intro f ds pre res h hp;unfold ct at h;split at h<;>cases h
 exact aV hp;exact bh hp
abbrev B :ce:=tb ah
end B1
theorem cM {es:aa}{p:Int}(hp:Rw [tI,tI] es):ap 176 [.agg [.s 2 es],.j p] [.agg [.i (peM es p),.i (peF es p)]]:=by
 have hm:=hp.1;unfold maxLen at hm;have hsb:bu .sub .i64 (es.length:Int) 1=es.length-1:=cL (by omega);refine cb B1.B Tryz.func176 ?_
 exact Re
theorem dR {es:aa}{p:Int}(hp:Rw [tI,tI] es):ap 72 [.agg [.s 2 es],.j p] [.agg [.i (peM es p),.i (peF es p)]]:=by
 have hm:=hp.1;unfold maxLen at hm;have hsb:bu .sub .i64 (es.length:Int) 1=es.length-1:=cL (by omega);refine cb B1.B Tryz.func72 ?_
 exact Re
namespace B2
structure av where
 peM:aa->Int->Int
 peF:aa->Int->Int
 pagesOn:aa->Int->aa
abbrev F0 :av:=⟨peM,peF,pagesOn⟩
def ct (F:av):CT:=fun f ds=>match f,ds with
 |176,[.agg [.s 2 es],.one (.v (.int .i64 p))]=>some (fun _=>Rw [tI,tI] es,[.agg [.i (F.peM es p),.i (F.peF es p)]])
 |236,[.agg [.s 2 es],.one (.v (.int .i64 f))]=>some (fun _=>Rw [tI,tI] es/\es.length<=1099511627776,[.one (.s 1 (F.pagesOn es f))])
 |72,[.agg [.s 2 es],.one (.v (.int .i64 p))]=>some (fun _=>Rw [tI,tI] es,[.agg [.i (F.peM es p),.i (F.peF es p)]])
 |234,[.agg [.s 2 es],.one (.v (.int .i64 f))]=>some (fun _=>Rw [tI,tI] es/\es.length<=1099511627776,[.one (.s 1 (F.pagesOn es f))])
 |_,_=>none
theorem ah :aO (ct F0):=by
 intro f ds pre res h hp;unfold ct at h;split at h<;>cases h
 exact cM hp;exact j6 hp;exact dR hp;exact ka hp
abbrev B :ce:=tb ah
end B2
theorem eH {a0 a1 a2:aa}{a3:Int}{a4 a5 a6 a7 a8 a9 aA aB:aa}{aC:Int}{aD:aa}{aE aF aG aH:Int}{aI:Bool}{aJ aK:Int}{aL:aa}{aM aN pg:Int}(hp:Rw [tI,tI] a2/\a2.length<=1099511627776):ap 179 [.agg (ez a0 a1 a2 a3 a4 a5 a6 a7 a8 a9 aA aB aC aD aE aF aG aH aI aJ aK aL aM aN),.j pg] [.one (.s 1 (fpg a2 pg))]:=by
 obtain⟨hw,hn⟩:=hp;refine cb B2.B Tryz.func179 ?_
 exact Rl
theorem eJ {a0 a1 a2:aa}{a3:Int}{a4 a5 a6 a7 a8 a9 aA aB:aa}{aC:Int}{aD:aa}{aE aF aG aH:Int}{aI:Bool}{aJ aK:Int}{aL:aa}{aM aN pg:Int}(hp:Rw [tI,tI] a2/\a2.length<=1099511627776):ap 171 [.agg (ez a0 a1 a2 a3 a4 a5 a6 a7 a8 a9 aA aB aC aD aE aF aG aH aI aJ aK aL aM aN),.j pg] [.one (.s 1 (fpg a2 pg))]:=by
 obtain⟨hw,hn⟩:=hp;refine cb B2.B Tryz.func171 ?_
 exact Rl
theorem iQ {l:aa}{x:Int}(hp:Rw [tI] l/\l.length<=1099511627776):ap 237 [.one (.s 1 l),.j x] [.j (idxI l x)]:=by
 obtain⟨hw,hn⟩:=hp;refine cb nB Tryz.func237 ?_
 intro O r F hO hr hF;cbv
 repeat' first|apply And.intro|(apply be<;>intro hb<;>cbv)|(refine⟨[0,1,7,8],[0],Int,fun i=>[.reg 8 (.j i)],fun i=>0<=i/\i<=((l.length:Nat):Int)/\upto (bZ (DL l x)) i,fun i=>(l.length)-i.toNat,⟨0,?_,?_⟩,?_⟩;rotate_left;(focus (cbv;done));intro i hi;replace hi:0<=i/\i<=((l.length:Nat):Int)/\upto (bZ (DL l x)) i:=hi;obtain⟨i0,i1,i2⟩:=hi;cbv)|(refine ab (O.ar .add .i64 i 1) ?_ ?_ ?_;focus (cbv;done))
 all_goals(subst hO hr hF;(try simp only[nc]at*);(try simp only[ai,SS,sa,az]at*);(try rw[bX (by omega) (by omega)]))
 all_goals first
  | (show(_:List DV)=_
     first
      |exact bJ (cO i2 i0 (by assumption) (show DL l x i=true from kj (by assumption))).symm
      |exact bJ (cP i2 (by assumption)).symm
      |done)
  |omega
  |exact d9
  |exact aX
  |exact aP i2 (fO (show DL l x i=false from tn (by assumption)))
  |trace_state
namespace B3
structure av where
 idxI:aa->Int->Int
abbrev F0 :av:=⟨idxI⟩
def ct (F:av):CT:=fun f ds=>match f,ds with
 |237,[.one (.s 1 l),.one (.v (.int .i64 x))]=>some (fun _=>Rw [tI] l/\l.length<=1099511627776,[.j (F.idxI l x)])
 |_,_=>none
theorem ah :aO (ct F0):=by
 intro f ds pre res h hp;unfold ct at h;split at h<;>cases h
 exact iQ hp
abbrev B :ce:=tb ah
end B3
theorem d8 {l:aa}{x:Int}(hp:Rw [tI] l/\l.length<=1099511627776):ap 180 [.one (.s 1 l),.j x] [.k (hasB l x)]:=by
 refine cb B3.B Tryz.func180 ?_
 intro O r F hO hr hF;cbv
 repeat' first|apply And.intro|(apply be<;>intro hb<;>cbv)
 all_goals(subst hO hr hF;(try simp only[nc]at*);(try simp only[ai,SS,sa,az]at*))
 all_goals first
  | (show(_:List DV)=_
     first
      |exact ag (show cg .geq (idxI l x) 0=decide (0<=idxI l x)from rfl)
      |done)
  |exact hp
  |trace_state
namespace B4
structure av where
 inR:Int->Int->Int->Bool
 fpg:aa->Int->aa
 hasB:aa->Int->Bool
abbrev F0 :av:=⟨inR,fpg,hasB⟩
def ct (F:av):CT:=fun f ds=>match f,ds with
 |152,[.one (.v (.int .i64 x)),.one (.v (.int .i64 a)),.one (.v (.int .i64 b))]=>some (fun _=>True,[.k (F.inR x a b)])
 |179,[.agg [.s 1 a0,.s 1 a1,.s 2 a2,.v (.int .i64 a3),.s 1 a4,.s 2 a5,.s 3 a6,.s 3 a7,.s 4 a8,.s 1 a9,.s 1 aA,.s 1 aB,.v (.int .i64 aC),.s 3 aD,.v (.int .i64 aE),.v (.int .i64 aF),.v (.int .i64 aG),.v (.int .i64 aH),.v (.bool aI),.v (.int .i64 aJ),.v (.int .i64 aK),.s 1 aL,.v (.int .i64 aM),.v (.int .i64 aN)],.one (.v (.int .i64 pg))]=>some (fun _=>Rw [tI,tI] a2/\a2.length<=1099511627776,[.one (.s 1 (F.fpg a2 pg))])
 |180,[.one (.s 1 l),.one (.v (.int .i64 x))]=>some (fun _=>Rw [tI] l/\l.length<=1099511627776,[.k (F.hasB l x)])
 |126,[.one (.v (.int .i64 x)),.one (.v (.int .i64 a)),.one (.v (.int .i64 b))]=>some (fun _=>True,[.k (F.inR x a b)])
 |171,[.agg [.s 1 a0,.s 1 a1,.s 2 a2,.v (.int .i64 a3),.s 1 a4,.s 2 a5,.s 3 a6,.s 3 a7,.s 4 a8,.s 1 a9,.s 1 aA,.s 1 aB,.v (.int .i64 aC),.s 3 aD,.v (.int .i64 aE),.v (.int .i64 aF),.v (.int .i64 aG),.v (.int .i64 aH),.v (.bool aI),.v (.int .i64 aJ),.v (.int .i64 aK),.s 1 aL,.v (.int .i64 aM),.v (.int .i64 aN)],.one (.v (.int .i64 pg))]=>some (fun _=>Rw [tI,tI] a2/\a2.length<=1099511627776,[.one (.s 1 (F.fpg a2 pg))])
 |_,_=>none
theorem ah :aO (ct F0):=by
 intro f ds pre res h hp;unfold ct at h;split at h<;>cases h
 exact aV hp;exact eH hp;exact d8 hp;exact bh hp;exact eJ hp
abbrev B :ce:=tb ah
end B4
theorem qZ {a0 a1 a2:aa}{a3:Int}{a4 a5 a6 a7 a8 a9 aA aB:aa}{aC:Int}{aD:aa}{aE aF aG aH:Int}{aI:Bool}{aJ aK:Int}{aL:aa}{aM aN ix:Int}(hp:Rw [tI,tI] a2/\Rw [tI,tI,tI] a6/\a2.length<=1099511627776/\a6.length<=1099511627776):ap 74 [.agg (ez a0 a1 a2 a3 a4 a5 a6 a7 a8 a9 aA aB aC aD aE aF aG aH aI aJ aK aL aM aN),.j ix] [.j (ubB a2 a6 ix)]:=by
 obtain⟨he,hw,hm,hn⟩:=hp;refine cb B4.B Tryz.func74 ?_
 intro O r F hO hr hF;cbv
 repeat' first|apply And.intro|(apply be<;>intro hb<;>cbv)|(refine⟨[2,5,6,7,8],[2,6],Int×Int,fun s_=>match s_ with|(j,c)=>[.reg 8 (.j j),.reg 5 (.j c)],fun s_=>match s_ with|(j,c)=>0<=j/\j<=(a6.length:Int)/\c=yh a6 (af (fpg a2 (af a6 ix 0)) k 0) b j.toNat,fun s_=>match s_ with|(j,c)=>a6.length-j.toNat,⟨(0,b),?_,?_⟩,?_⟩;rotate_left;(focus (cbv;done));intro s_ hj;obtain⟨j,c⟩:=s_;replace hj:0<=j/\j<=(a6.length:Int)/\c=yh a6 (af (fpg a2 (af a6 ix 0)) k 0) b j.toNat:=hj;obtain⟨j0,j1,j2⟩:=hj;cbv)|(refine ab (O.ar .add .i64 j 1,c) ?_ ?_ ?_;focus (cbv;done))|(refine ab (O.ar .add .i64 j 1,O.ar .or .i64 c (O.gi a6 j 2)) ?_ ?_ ?_;focus (cbv;done))|(refine ab (O.ar .add .i64 k 1,c) ?_ ?_ ?_;focus (cbv;done))|(refine⟨[2,5,6,7],[2,6],Int×Int,fun s_=>match s_ with|(k,b)=>[.reg 7 (.j k),.reg 5 (.j b)],fun s_=>match s_ with|(k,b)=>0<=k/\k<=((fpg a2 (af a6 ix 0)).length:Int)/\b=Dx a6 (fpg a2 (af a6 ix 0)) (af a6 ix 2) k.toNat,fun s_=>match s_ with|(k,b)=>(fpg a2 (af a6 ix 0)).length-k.toNat,⟨(0,O.gi a6 ix 2),?_,?_⟩,?_⟩;rotate_left;(focus (cbv;done));intro s_ hk;obtain⟨k,b⟩:=s_;replace hk:0<=k/\k<=((fpg a2 (af a6 ix 0)).length:Int)/\b=Dx a6 (fpg a2 (af a6 ix 0)) (af a6 ix 2) k.toNat:=hk;obtain⟨k0,k1,k2⟩:=hk;cbv)
 all_goals(subst hO hr hF;(try simp only[nc]at*);(try simp only[ai,SS,sa,az]at*))
 all_goals(have hsb:bu .sub .i64 (a6.length:Int) 1=a6.length-1:=cL (by omega);(try simp only[hsb]at*);(try(have hz:=bE.1 (‹inR ix 0 ((a6.length:Int)-1)=true›))))
 all_goals(have hfp:=Aq (es:=a2) (p:=af a6 ix 0) hm;(try(have hpr:=fP (l:=fpg a2 (af a6 ix 0)) (i:=k) k0;simp only[hpr]at*));(try rw[bX (by omega) (by omega)]))
 all_goals first
  | (show(_:List DV)=_
     first
      |exact bJ (Q1 (by assumption)).symm
      |exact bJ ((k2.trans (by rw[show k.toNat=(fpg a2 (af a6 ix 0)).length by omega,Q0 (Ni hw hz.1 (by omega))])).trans (GQ (by assumption)).symm)
      |done)
  | (show(_:Int)=_
     first
      |(rw[I1 j0 (by assumption), <-j2])
      |(rw[Nk j0 (by assumption), <-j2])
      |(rw[Nl k0, <-k2,j2,show j.toNat=a6.length by omega])
      |exact(rfl:af a6 ix 2=Dx a6 (fpg a2 (af a6 ix 0)) (af a6 ix 2) 0)
      |exact(rfl:b=yh a6 (af (fpg a2 (af a6 ix 0)) k 0) b 0)
      |done)
  |omega
  |(show aU _ _=true;kernel_rfl)
  |exact d9
  |exact⟨he,hm⟩
  |exact HW hfp.1 k0 (by omega)
  |exact⟨True.intro,True.intro⟩
  |trace_state
end Go.V