/- Contracts. -/
import Derived.Test.YtllcfbgmhgodhaaGreatHB
import Derived.Test.YtllcfbgmhgodhaaGreatW3
import Derived.Test.YtllcfbgmhgodhaaGreatKerBr
set_option linter.all false
namespace Go.V
open Go Go.Proofs
set_option maxRecDepth 1000000
set_option maxHeartbeats 8000000
namespace Ia0
def ct (F:aQ):CT:=fun f ds=>match f,ds with
 |255,[.one (.s 1 es)]=>some (fun _=>Rw [tI] es/\es.length<=1099511627776,[.one (.s 1 es)])
 |_,_=>none
theorem ai :aS (ct F0):=by
 intro f ds pre res h hp;unfold ct at h;split at h<;>cases h
 exact fV hp
abbrev B :cy:=tb ai
end Ia0
theorem oX {es:aa}(hp:Rw [tI,tI] es/\es.length<=1099511627776):au 284 [.agg [.s 2 es]] [.agg [.s 2 es]]:=by
 obtain⟨hw,hl⟩:=hp;have hs:=hw.scal rfl;refine cb Ia0.B Tryz.func284 ?_
 exact LP
theorem uu {es:aa}(hp:Rw [tI,tI] es/\es.length<=1099511627776):au 317 [.agg [.s 2 es]] [.agg [.s 2 es]]:=by
 obtain⟨hw,hl⟩:=hp;have hs:=hw.scal rfl;refine cb Ia0.B Tryz.func317 ?_
 exact LP
theorem ig {es:aa}(hp:Rw [tI,tI] es/\es.length<=1099511627776):au 147 [.one (.s 2 es)] [.one (.s 2 es)]:=by
 obtain⟨hw,hl⟩:=hp;have hs:=hw.scal rfl;refine cb Ia0.B Tryz.func147 ?_
 exact LP
theorem rn {r:Int}{qs:aa}(hp:Rw [tI,tI,tI] qs/\qs.length<=1099511627776):au 150 [.agg [.i r,.s 3 qs]] [.agg [.i r,.s 3 qs]]:=by
 obtain⟨hw,hl⟩:=hp;have hs:=hw.scal rfl;refine cb Ia0.B Tryz.func150 ?_
 exact LP
theorem uD {r:Int}{qs:aa}(hp:Rw [tI,tI,tI] qs/\qs.length<=1099511627776):au 120 [.agg [.i r,.s 3 qs]] [.agg [.i r,.s 3 qs]]:=by
 obtain⟨hw,hl⟩:=hp;have hs:=hw.scal rfl;refine cb Ia0.B Tryz.func120 ?_
 exact LP
def Tryz.laysC15_ren :Go.Shelf.Ren:=⟨fun|15=>300|n=>n,fun|22=>31|3=>3|4=>4|n=>n,fun|n=>n⟩
theorem Tryz.laysC15 :Lays2.n15 Tryz.prog Tryz.laysC15_ren:=⟨by kernel_rfl,Tryz.func300.trans (congrArg some (by kernel_rfl)),Tryz.underlying3,Tryz.isAgg3,Tryz.sizeOf3,Tryz.zeroValue3,Tryz.underlying4,Tryz.isAgg4,Tryz.sizeOf4,Tryz.zeroValue4,Tryz.underlying31,Tryz.isAgg31,Tryz.sizeOf31,Tryz.zeroValue31,by kernel_rfl⟩
theorem jp {l:aa}(hp:Rw [tI] l/\l.length<=1099511627776):au 300 [.one (.s 1 l)] [.one (.s 1 l)]:=by
 exact Ew (Any.slices_Clone_int_nil Tryz.laysC15) (Any.slices_Clone_int_zero Tryz.laysC15) (Any.slices_Clone_int Tryz.laysC15) l hp
theorem uz {k m:Int}{cs:aa}{p n:Int}(hp:Rw [tI] cs/\cs.length<=1099511627776):au 121 [.agg [.i k,.i m,.s 1 cs,.i p,.i n]] [.agg [.i k,.i m,.s 1 cs,.i p,.i n]]:=by
 obtain⟨hw,hl⟩:=hp;have hs:=hw.scal rfl;refine cb Ia0.B Tryz.func121 ?_
 exact LP
theorem mX {cs us:aa}(hp:Rw [.sl [tI]] cs/\Rw [tB] us/\ah cs<=1099511627776/\ah us<=1099511627776):au 283 [.agg [.s 1 cs,.s 1 us]] [.agg [.s 1 cs,.s 1 us]]:=by
 obtain⟨hc,hu,hn,hm⟩:=hp;have hs:=hu.scal rfl;have hl1:=ay (es:=cs);have hl2:=ay (es:=us);refine cb Ia0.B Tryz.func283 ?_
 intro O r F hO hr hF;cbv
 repeat' first|apply And.intro|(apply be<;>intro hb<;>cbv)|(refine⟨[2,3,12,13,14],[2,3],Int×aa,fun s_=>match s_ with|(i,out)=>[.reg 14 (.j i),.leaf 3 0 ⟨0,0,none,.own (.s 1 out)⟩],fun s_=>match s_ with|(i,out)=>0<=i/\i<=(cs.length:Int)/\out=cs.take i.toNat,fun s_=>match s_ with|(i,out)=>cs.length-i.toNat,⟨(0,[]),?_,?_⟩,?_⟩;rotate_left;(focus (cbv;done));intro s_ hi;obtain⟨i,out⟩:=s_;replace hi:0<=i/\i<=(cs.length:Int)/\out=cs.take i.toNat:=hi;obtain⟨i0,i1,i2⟩:=hi;cbv)|(refine ab (O.ar .add .i64 i 1,O.cat out [[.s 1 (O.gs cs i 0)]]) ?_ ?_ ?_;focus (cbv;done))
 all_goals(subst hO hr hF;(try simp only[nc]at*);(try simp only[aj,SS,sa,az]at*);(try rw[cv (by omega) (by omega)]);(try(have hol:out.length=i.toNat:=(by rw[i2,List.length_take];omega)));(try(have hsc:=jP hc i0 (by assumption);have hsl:=ay (es:=aR cs i 0))))
 all_goals first|exact hs|omega|exact eR|(show aW _ _=true;kernel_rfl)|exact⟨by(first|assumption|exact Rw.sub (by first|assumption|exact Rw.sub (by assumption) (by omega) rfl) (by omega) rfl),by omega⟩|(simp only[List.length_nil,List.length_cons];omega)|(rw[i2];exact(fb hc i0 (by assumption)).symm)|(rw[i2,fa (by omega)];rfl)|exact⟨trivial,trivial⟩|trivial|exact rfl|trace_state
theorem ut {cs us:aa}(hp:Rw [.sl [tI]] cs/\Rw [tB] us/\ah cs<=1099511627776/\ah us<=1099511627776):au 316 [.agg [.s 1 cs,.s 1 us]] [.agg [.s 1 cs,.s 1 us]]:=by
 obtain⟨hc,hu,hn,hm⟩:=hp;have hs:=hu.scal rfl;have hl1:=ay (es:=cs);have hl2:=ay (es:=us);refine cb Ia0.B Tryz.func316 ?_
 intro O r F hO hr hF;cbv
 repeat' first|apply And.intro|(apply be<;>intro hb<;>cbv)|(refine⟨[1,2,3,4],[1,2,3],Int×aa,fun s_=>match s_ with|(i,out)=>[.reg 4 (.j i),.leaf 3 0 ⟨0,0,none,.own (.s 1 out)⟩],fun s_=>match s_ with|(i,out)=>0<=i/\i<=(cs.length:Int)/\out=cs.take i.toNat,fun s_=>match s_ with|(i,out)=>cs.length-i.toNat,⟨(0,[]),?_,?_⟩,?_⟩;rotate_left;(focus (cbv;done));intro s_ hi;obtain⟨i,out⟩:=s_;replace hi:0<=i/\i<=(cs.length:Int)/\out=cs.take i.toNat:=hi;obtain⟨i0,i1,i2⟩:=hi;cbv)|(refine ab (O.ar .add .i64 i 1,O.cat out [[.s 1 (O.gs cs i 0)]]) ?_ ?_ ?_;focus (cbv;done))|(refine ab (O.ar .add .i64 i 1,O.cat out [[.s 1 (O.cat [] (O.gs cs i 0))]]) ?_ ?_ ?_;focus (cbv;done))
 all_goals(subst hO hr hF;(try simp only[nc]at*);(try simp only[aj,SS,sa,az]at*);(try rw[cv (by omega) (by omega)]);(try(have hol:out.length=i.toNat:=(by rw[i2,List.length_take];omega)));(try(have hsc:=jP hc i0 (by assumption);have hsl:=ay (es:=aR cs i 0))))
 all_goals first|exact hs|exact Rw.scal (fs:=[tI]) (by(first|assumption|exact Rw.sub (by first|assumption|exact Rw.sub (by assumption) (by omega) rfl) (by omega) rfl)) rfl|omega|exact eR|(show aW _ _=true;kernel_rfl)|exact⟨by(first|assumption|exact Rw.sub (by first|assumption|exact Rw.sub (by assumption) (by omega) rfl) (by omega) rfl),by omega⟩|(simp only[List.length_nil,List.length_cons];omega)|(rw[i2];exact(fb hc i0 (by assumption)).symm)|(rw[i2,List.nil_append];exact(fb hc i0 (by assumption)).symm)|(rw[i2,fa (by omega)];rfl)|exact⟨trivial,trivial⟩|trivial|exact rfl|trace_state
namespace Ia1
def ct (F:aQ):CT:=fun f ds=>match f,ds with
 |283,[.agg [.s 1 cs,.s 1 us]]=>some (fun _=>Rw [.sl [tI]] cs/\Rw [tB] us/\ah cs<=1099511627776/\ah us<=1099511627776,[.agg [.s 1 cs,.s 1 us]])
 |284,[.agg [.s 2 es]]=>some (fun _=>Rw [tI,tI] es/\es.length<=1099511627776,[.agg [.s 2 es]])
 |316,[.agg [.s 1 cs,.s 1 us]]=>some (fun _=>Rw [.sl [tI]] cs/\Rw [tB] us/\ah cs<=1099511627776/\ah us<=1099511627776,[.agg [.s 1 cs,.s 1 us]])
 |317,[.agg [.s 2 es]]=>some (fun _=>Rw [tI,tI] es/\es.length<=1099511627776,[.agg [.s 2 es]])
 |300,[.one (.s 1 l)]=>some (fun _=>Rw [tI] l/\l.length<=1099511627776,[.one (.s 1 l)])
 |_,_=>none
theorem ai :aS (ct F0):=by
 intro f ds pre res h hp;unfold ct at h;split at h<;>cases h
 exact mX hp;exact oX hp;exact ut hp;exact uu hp;exact jp hp
abbrev B :cy:=tb ai
end Ia1
theorem gI {cs us es:aa}(hp:Rw [.sl [tI]] cs/\Rw [tB] us/\Rw [tI,tI] es/\ah cs<=1099511627776/\ah us<=1099511627776/\ah es<=1099511627776):au 190 [.agg [.s 1 cs,.s 1 us,.s 2 es]] [.agg [.s 1 cs,.s 1 us,.s 2 es]]:=by
 obtain⟨hc,hu,he,hn,hm,hk⟩:=hp;have hl:=ay (es:=es);refine cb Ia1.B Tryz.func190 ?_
 exact S7
theorem uv {cs us es:aa}(hp:Rw [.sl [tI]] cs/\Rw [tB] us/\Rw [tI,tI] es/\ah cs<=1099511627776/\ah us<=1099511627776/\ah es<=1099511627776):au 232 [.agg [.s 1 cs,.s 1 us,.s 2 es]] [.agg [.s 1 cs,.s 1 us,.s 2 es]]:=by
 obtain⟨hc,hu,he,hn,hm,hk⟩:=hp;have hl:=ay (es:=es);refine cb Ia1.B Tryz.func232 ?_
 exact S7
theorem rl {k m:Int}{cs:aa}(hp:Rw [tI] cs/\cs.length<=1099511627776):au 219 [.agg [.i k,.i m,.s 1 cs]] [.agg [.i k,.i m,.s 1 cs]]:=by
 obtain⟨hw,hl⟩:=hp;have hs:=hw.scal rfl;refine cb Ia1.B Tryz.func219 ?_
 exact LP
namespace Ia2
def ct (F:aQ):CT:=fun f ds=>match f,ds with
 |190,[.agg [.s 1 cs,.s 1 us,.s 2 es]]=>some (fun _=>Rw [.sl [tI]] cs/\Rw [tB] us/\Rw [tI,tI] es/\ah cs<=1099511627776/\ah us<=1099511627776/\ah es<=1099511627776,[.agg [.s 1 cs,.s 1 us,.s 2 es]])
 |232,[.agg [.s 1 cs,.s 1 us,.s 2 es]]=>some (fun _=>Rw [.sl [tI]] cs/\Rw [tB] us/\Rw [tI,tI] es/\ah cs<=1099511627776/\ah us<=1099511627776/\ah es<=1099511627776,[.agg [.s 1 cs,.s 1 us,.s 2 es]])
 |255,[.one (.s 1 es)]=>some (fun _=>Rw [tI] es/\es.length<=1099511627776,[.one (.s 1 es)])
 |219,[.agg [.v (.int .i64 k),.v (.int .i64 m),.s 1 cs]]=>some (fun _=>Rw [tI] cs/\cs.length<=1099511627776,[.agg [.i k,.i m,.s 1 cs]])
 |_,_=>none
theorem ai :aS (ct F0):=by
 intro f ds pre res h hp;unfold ct at h;split at h<;>cases h
 exact gI hp;exact uv hp;exact fV hp;exact rl hp
abbrev B :cy:=tb ai
end Ia2
theorem ie {cs us es:aa}{c:Int}{rs:aa}(hp:Rw [.sl [tI]] cs/\Rw [tB] us/\Rw [tI,tI] es/\Rw [tI] rs/\ah cs<=1099511627776/\ah us<=1099511627776/\ah es<=1099511627776/\ah rs<=1099511627776):au 146 [.agg [.s 1 cs,.s 1 us,.s 2 es,.i c,.s 1 rs]] [.agg [.s 1 cs,.s 1 us,.s 2 es,.i c,.s 1 rs]]:=by
 obtain⟨hc,hu,he,hr,hn,hm,hk,hl⟩:=hp;have l1:=ay (es:=rs);have hs:=hr.scal rfl;refine cb Ia2.B Tryz.func146 ?_
 exact SV
theorem uw {cs us es:aa}{c:Int}{rs:aa}(hp:Rw [.sl [tI]] cs/\Rw [tB] us/\Rw [tI,tI] es/\Rw [tI] rs/\ah cs<=1099511627776/\ah us<=1099511627776/\ah es<=1099511627776/\ah rs<=1099511627776):au 117 [.agg [.s 1 cs,.s 1 us,.s 2 es,.i c,.s 1 rs]] [.agg [.s 1 cs,.s 1 us,.s 2 es,.i c,.s 1 rs]]:=by
 obtain⟨hc,hu,he,hr,hn,hm,hk,hl⟩:=hp;have l1:=ay (es:=rs);have hs:=hr.scal rfl;refine cb Ia2.B Tryz.func117 ?_
 exact SV
theorem tE {k m:Int}{cs:aa}{p n:Int}(hp:Rw [tI] cs/\cs.length<=1099511627776):au 151 [.agg [.i k,.i m,.s 1 cs,.i p,.i n]] [.agg [.i k,.i m,.s 1 cs,.i p,.i n]]:=by
 obtain⟨hw,hl⟩:=hp;have hs:=hw.scal rfl;refine cb Ia2.B Tryz.func151 ?_
 exact LP
namespace Ia3
def ct (F:aQ):CT:=fun f ds=>match f,ds with
 |255,[.one (.s 1 es)]=>some (fun _=>Rw [tI] es/\es.length<=1099511627776,[.one (.s 1 es)])
 |_,_=>none
theorem ai :aS (ct F0):=by
 intro f ds pre res h hp;unfold ct at h;split at h<;>cases h
 exact fV hp
abbrev B :cy:=tb ai
end Ia3
theorem oW {ls:aa}(hp:Rw [.sl [tI]] ls/\ah ls<=1099511627776):au 148 [.agg [.s 1 ls]] [.agg [.s 1 ls]]:=by
 obtain⟨hc,hn⟩:=hp;have hl1:=ay (es:=ls);refine cb Ia3.B Tryz.func148 ?_
 intro O r F hO hr hF;cbv
 repeat' first|apply And.intro|(apply be<;>intro hb<;>cbv)|(refine⟨[2,3,8,9,10],[2,3],Int×aa,fun s_=>match s_ with|(i,out)=>[.reg 10 (.j i),.leaf 3 0 ⟨0,0,none,.own (.s 1 out)⟩],fun s_=>match s_ with|(i,out)=>0<=i/\i<=(ls.length:Int)/\out=ls.take i.toNat,fun s_=>match s_ with|(i,out)=>ls.length-i.toNat,⟨(0,[]),?_,?_⟩,?_⟩;rotate_left;(focus (cbv;done));intro s_ hi;obtain⟨i,out⟩:=s_;replace hi:0<=i/\i<=(ls.length:Int)/\out=ls.take i.toNat:=hi;obtain⟨i0,i1,i2⟩:=hi;cbv)|(refine ab (O.ar .add .i64 i 1,O.cat out [[.s 1 (O.gs ls i 0)]]) ?_ ?_ ?_;focus (cbv;done))|(refine ab (O.ar .add .i64 i 1,O.cat out [[.s 1 (O.cat [] (O.gs ls i 0))]]) ?_ ?_ ?_;focus (cbv;done))
 all_goals exact Sw
theorem uA {ls:aa}(hp:Rw [.sl [tI]] ls/\ah ls<=1099511627776):au 118 [.agg [.s 1 ls]] [.agg [.s 1 ls]]:=by
 obtain⟨hc,hn⟩:=hp;have hl1:=ay (es:=ls);refine cb Ia3.B Tryz.func118 ?_
 intro O r F hO hr hF;cbv
 repeat' first|apply And.intro|(apply be<;>intro hb<;>cbv)|(refine⟨[1,2,3,4],[1,2,3],Int×aa,fun s_=>match s_ with|(i,out)=>[.reg 4 (.j i),.leaf 3 0 ⟨0,0,none,.own (.s 1 out)⟩],fun s_=>match s_ with|(i,out)=>0<=i/\i<=(ls.length:Int)/\out=ls.take i.toNat,fun s_=>match s_ with|(i,out)=>ls.length-i.toNat,⟨(0,[]),?_,?_⟩,?_⟩;rotate_left;(focus (cbv;done));intro s_ hi;obtain⟨i,out⟩:=s_;replace hi:0<=i/\i<=(ls.length:Int)/\out=ls.take i.toNat:=hi;obtain⟨i0,i1,i2⟩:=hi;cbv)|(refine ab (O.ar .add .i64 i 1,O.cat out [[.s 1 (O.gs ls i 0)]]) ?_ ?_ ?_;focus (cbv;done))|(refine ab (O.ar .add .i64 i 1,O.cat out [[.s 1 (O.cat [] (O.gs ls i 0))]]) ?_ ?_ ?_;focus (cbv;done))
 all_goals exact Sw
theorem ri {b x:aa}(hp:Rw [.sl [tI,tI]] b/\Rw [.sl [tI]] x/\ah b<=1099511627776/\ah x<=1099511627776):au 149 [.agg [.s 1 b,.s 1 x]] [.agg [.s 1 b,.s 1 x]]:=by
 obtain⟨wb,wx,nb,nx⟩:=hp;have hl1:=ay (es:=b);have hl2:=ay (es:=x);refine cb Ia3.B Tryz.func149 ?_
 intro O r F hO hr hF;cbv
 repeat' first|apply And.intro|(apply be<;>intro hb<;>cbv)|(refine⟨[1,2,3,10,11,12],[1,2,3],Int×aa,fun s_=>match s_ with|(i,out)=>[.reg 12 (.j i),.leaf 3 0 ⟨0,0,none,.own (.s 1 out)⟩],fun s_=>match s_ with|(i,out)=>0<=i/\i<=(b.length:Int)/\out=b.take i.toNat,fun s_=>match s_ with|(i,out)=>b.length-i.toNat,⟨(0,[]),?_,?_⟩,?_⟩;rotate_left;(focus (cbv;done));intro s_ hi;obtain⟨i,out⟩:=s_;replace hi:0<=i/\i<=(b.length:Int)/\out=b.take i.toNat:=hi;obtain⟨i0,i1,i2⟩:=hi;cbv)|(refine⟨[2,3,26,27,28],[2,3],Int×aa,fun s_=>match s_ with|(k,ou2)=>[.reg 28 (.j k),.leaf 3 1 ⟨0,0,none,.own (.s 1 ou2)⟩],fun s_=>match s_ with|(k,ou2)=>0<=k/\k<=(x.length:Int)/\ou2=x.take k.toNat,fun s_=>match s_ with|(k,ou2)=>x.length-k.toNat,⟨(0,[]),?_,?_⟩,?_⟩;rotate_left;(focus (cbv;done));intro s_ hk;obtain⟨k,ou2⟩:=s_;replace hk:0<=k/\k<=(x.length:Int)/\ou2=x.take k.toNat:=hk;obtain⟨k0,k1,k2⟩:=hk;cbv)|(refine ab (O.ar .add .i64 i 1,O.cat out [[.s 2 (O.cat [] (O.gs b i 0))]]) ?_ ?_ ?_;focus (cbv;done))|(refine ab (O.ar .add .i64 k 1,O.cat ou2 [[.s 1 (O.gs x k 0)]]) ?_ ?_ ?_;focus (cbv;done))|(refine ab (O.ar .add .i64 k 1,O.cat ou2 [[.s 1 (O.cat [] (O.gs x k 0))]]) ?_ ?_ ?_;focus (cbv;done))
 all_goals exact Sv
theorem uB {b x:aa}(hp:Rw [.sl [tI,tI]] b/\Rw [.sl [tI]] x/\ah b<=1099511627776/\ah x<=1099511627776):au 119 [.agg [.s 1 b,.s 1 x]] [.agg [.s 1 b,.s 1 x]]:=by
 obtain⟨wb,wx,nb,nx⟩:=hp;have hl1:=ay (es:=b);have hl2:=ay (es:=x);refine cb Ia3.B Tryz.func119 ?_
 intro O r F hO hr hF;cbv
 repeat' first|apply And.intro|(apply be<;>intro hb<;>cbv)|(refine⟨[1,2,3,4],[1,2,3],Int×aa,fun s_=>match s_ with|(i,out)=>[.reg 4 (.j i),.leaf 3 0 ⟨0,0,none,.own (.s 1 out)⟩],fun s_=>match s_ with|(i,out)=>0<=i/\i<=(b.length:Int)/\out=b.take i.toNat,fun s_=>match s_ with|(i,out)=>b.length-i.toNat,⟨(0,[]),?_,?_⟩,?_⟩;rotate_left;(focus (cbv;done));intro s_ hi;obtain⟨i,out⟩:=s_;replace hi:0<=i/\i<=(b.length:Int)/\out=b.take i.toNat:=hi;obtain⟨i0,i1,i2⟩:=hi;cbv)|(refine⟨[1,2,3,5],[1,2,3],Int×aa,fun s_=>match s_ with|(k,ou2)=>[.reg 5 (.j k),.leaf 3 1 ⟨0,0,none,.own (.s 1 ou2)⟩],fun s_=>match s_ with|(k,ou2)=>0<=k/\k<=(x.length:Int)/\ou2=x.take k.toNat,fun s_=>match s_ with|(k,ou2)=>x.length-k.toNat,⟨(0,[]),?_,?_⟩,?_⟩;rotate_left;(focus (cbv;done));intro s_ hk;obtain⟨k,ou2⟩:=s_;replace hk:0<=k/\k<=(x.length:Int)/\ou2=x.take k.toNat:=hk;obtain⟨k0,k1,k2⟩:=hk;cbv)|(refine ab (O.ar .add .i64 i 1,O.cat out [[.s 2 (O.cat [] (O.gs b i 0))]]) ?_ ?_ ?_;focus (cbv;done))|(refine ab (O.ar .add .i64 k 1,O.cat ou2 [[.s 1 (O.gs x k 0)]]) ?_ ?_ ?_;focus (cbv;done))|(refine ab (O.ar .add .i64 k 1,O.cat ou2 [[.s 1 (O.cat [] (O.gs x k 0))]]) ?_ ?_ ?_;focus (cbv;done))
 all_goals exact Sv
namespace Ia4
def ct (F:aQ):CT:=fun f ds=>match f,ds with
 |146,[.agg [.s 1 cs,.s 1 us,.s 2 es,.v (.int .i64 c),.s 1 rs]]=>some (fun _=>Rw [.sl [tI]] cs/\Rw [tB] us/\Rw [tI,tI] es/\Rw [tI] rs/\ah cs<=1099511627776/\ah us<=1099511627776/\ah es<=1099511627776/\ah rs<=1099511627776,[.agg [.s 1 cs,.s 1 us,.s 2 es,.i c,.s 1 rs]])
 |147,[.one (.s 2 es)]=>some (fun _=>Rw [tI,tI] es/\es.length<=1099511627776,[.one (.s 2 es)])
 |148,[.agg [.s 1 ls]]=>some (fun _=>Rw [.sl [tI]] ls/\ah ls<=1099511627776,[.agg [.s 1 ls]])
 |149,[.agg [.s 1 b,.s 1 x]]=>some (fun _=>Rw [.sl [tI,tI]] b/\Rw [.sl [tI]] x/\ah b<=1099511627776/\ah x<=1099511627776,[.agg [.s 1 b,.s 1 x]])
 |150,[.agg [.v (.int .i64 r),.s 3 qs]]=>some (fun _=>Rw [tI,tI,tI] qs/\qs.length<=1099511627776,[.agg [.i r,.s 3 qs]])
 |151,[.agg [.v (.int .i64 k),.v (.int .i64 m),.s 1 cs,.v (.int .i64 p),.v (.int .i64 n)]]=>some (fun _=>Rw [tI] cs/\cs.length<=1099511627776,[.agg [.i k,.i m,.s 1 cs,.i p,.i n]])
 |117,[.agg [.s 1 cs,.s 1 us,.s 2 es,.v (.int .i64 c),.s 1 rs]]=>some (fun _=>Rw [.sl [tI]] cs/\Rw [tB] us/\Rw [tI,tI] es/\Rw [tI] rs/\ah cs<=1099511627776/\ah us<=1099511627776/\ah es<=1099511627776/\ah rs<=1099511627776,[.agg [.s 1 cs,.s 1 us,.s 2 es,.i c,.s 1 rs]])
 |118,[.agg [.s 1 ls]]=>some (fun _=>Rw [.sl [tI]] ls/\ah ls<=1099511627776,[.agg [.s 1 ls]])
 |119,[.agg [.s 1 b,.s 1 x]]=>some (fun _=>Rw [.sl [tI,tI]] b/\Rw [.sl [tI]] x/\ah b<=1099511627776/\ah x<=1099511627776,[.agg [.s 1 b,.s 1 x]])
 |120,[.agg [.v (.int .i64 r),.s 3 qs]]=>some (fun _=>Rw [tI,tI,tI] qs/\qs.length<=1099511627776,[.agg [.i r,.s 3 qs]])
 |121,[.agg [.v (.int .i64 k),.v (.int .i64 m),.s 1 cs,.v (.int .i64 p),.v (.int .i64 n)]]=>some (fun _=>Rw [tI] cs/\cs.length<=1099511627776,[.agg [.i k,.i m,.s 1 cs,.i p,.i n]])
 |_,_=>none
theorem ai :aS (ct F0):=by
 intro f ds pre res h hp;unfold ct at h;split at h<;>cases h
 exact ie hp;exact ig hp;exact oW hp;exact ri hp;exact rn hp;exact tE hp;exact uw hp;exact uA hp;exact uB hp;exact uD hp;exact uz hp
abbrev B :cy:=tb ai
end Ia4
theorem fU {a0 a1 a2:aa}{a3:Int}{a4 a5 a6 a7 a8 a9 aA aB:aa}{aC:Int}{aD:aa}{aE aF aG aH:Int}{aI:Bool}{aJ aK:Int}{aL:aa}{aM aN:Int}(hp:gg a0 a1 a2 a4 a5 a6 a7 a8 a9 aA aB aD aL):au 50 [.agg (eD a0 a1 a2 a3 a4 a5 a6 a7 a8 a9 aA aB aC aD aE aF aG aH aI aJ aK aL aM aN)] [.agg (eD a0 a1 a2 a3 a4 a5 a6 a7 a8 a9 aA aB aC aD aE aF aG aH aI aJ aK aL aM aN)]:=by
 have hr0:=hp.r0;have hc0:=hp.c0;have hl0:=ay (es:=a0);have hr1:=hp.r1;have hc1:=hp.c1;have hl1:=ay (es:=a1);have hr2:=hp.r2;have hc2:=hp.c2;have hl2:=ay (es:=a2);have hr4:=hp.r4;have hc4:=hp.c4;have hl4:=ay (es:=a4);have hr5:=hp.r5;have hc5:=hp.c5;have hl5:=ay (es:=a5);have hr6:=hp.r6;have hc6:=hp.c6;have hl6:=ay (es:=a6);have hr7:=hp.r7;have hc7:=hp.c7;have hl7:=ay (es:=a7);have hr8:=hp.r8;have hc8:=hp.c8;have hl8:=ay (es:=a8);have hr9:=hp.r9;have hc9:=hp.c9;have hl9:=ay (es:=a9);have hr10:=hp.r10;have hc10:=hp.c10;have hl10:=ay (es:=aA);have hr11:=hp.r11;have hc11:=hp.c11;have hl11:=ay (es:=aB);have hr13:=hp.r13;have hc13:=hp.c13;have hl13:=ay (es:=aD);have hr21:=hp.r21;have hc21:=hp.c21;have hl21:=ay (es:=aL);have hs5:=hr5.scal rfl;have hs6:=hr6.scal rfl;have hs7:=hr7.scal rfl;have hs8:=hr8.scal rfl;refine cb Ia4.B Tryz.func50 ?_
 intro O r F hO hr hF;cbv
 repeat' first|apply And.intro|(apply be<;>intro hb<;>cbv)|(refine⟨[1,2,3,32,33,34],[1,2,3],Int×aa,fun s_=>match s_ with|(i,out)=>[.reg 34 (.j i),.leaf 3 9 ⟨0,0,none,.own (.s 1 out)⟩],fun s_=>match s_ with|(i,out)=>0<=i/\i<=(a9.length:Int)/\out=a9.take i.toNat,fun s_=>match s_ with|(i,out)=>a9.length-i.toNat,⟨(0,[]),?_,?_⟩,?_⟩;rotate_left;(focus (cbv;done));intro s_ hi;obtain⟨i,out⟩:=s_;replace hi:0<=i/\i<=(a9.length:Int)/\out=a9.take i.toNat:=hi;obtain⟨i0,i1,i2⟩:=hi;cbv)|(refine ab (O.ar .add .i64 i 1,O.cat out [[.s 1 (O.gs a9 i 0)]]) ?_ ?_ ?_;focus (cbv;done))
 all_goals exact SC
theorem gQ {a0 a1 a2:aa}{a3:Int}{a4 a5 a6 a7 a8 a9 aA aB:aa}{aC:Int}{aD:aa}{aE aF aG aH:Int}{aI:Bool}{aJ aK:Int}{aL:aa}{aM aN:Int}(hp:gg a0 a1 a2 a4 a5 a6 a7 a8 a9 aA aB aD aL):au 38 [.agg (eD a0 a1 a2 a3 a4 a5 a6 a7 a8 a9 aA aB aC aD aE aF aG aH aI aJ aK aL aM aN)] [.agg (eD a0 a1 a2 a3 a4 a5 a6 a7 a8 a9 aA aB aC aD aE aF aG aH aI aJ aK aL aM aN)]:=by
 have hr0:=hp.r0;have hc0:=hp.c0;have hl0:=ay (es:=a0);have hr1:=hp.r1;have hc1:=hp.c1;have hl1:=ay (es:=a1);have hr2:=hp.r2;have hc2:=hp.c2;have hl2:=ay (es:=a2);have hr4:=hp.r4;have hc4:=hp.c4;have hl4:=ay (es:=a4);have hr5:=hp.r5;have hc5:=hp.c5;have hl5:=ay (es:=a5);have hr6:=hp.r6;have hc6:=hp.c6;have hl6:=ay (es:=a6);have hr7:=hp.r7;have hc7:=hp.c7;have hl7:=ay (es:=a7);have hr8:=hp.r8;have hc8:=hp.c8;have hl8:=ay (es:=a8);have hr9:=hp.r9;have hc9:=hp.c9;have hl9:=ay (es:=a9);have hr10:=hp.r10;have hc10:=hp.c10;have hl10:=ay (es:=aA);have hr11:=hp.r11;have hc11:=hp.c11;have hl11:=ay (es:=aB);have hr13:=hp.r13;have hc13:=hp.c13;have hl13:=ay (es:=aD);have hr21:=hp.r21;have hc21:=hp.c21;have hl21:=ay (es:=aL);have hs5:=hr5.scal rfl;have hs6:=hr6.scal rfl;have hs7:=hr7.scal rfl;have hs8:=hr8.scal rfl;refine cb Ia4.B Tryz.func38 ?_
 intro O r F hO hr hF;cbv
 repeat' first|apply And.intro|(apply be<;>intro hb<;>cbv)|(refine⟨[1,2,3,4],[1,2,3],Int×aa,fun s_=>match s_ with|(i,out)=>[.reg 4 (.j i),.reg 3 (.one (.vw 3 0 0 0 (O.ln out))),.leaf 3 0 ⟨0,0,none,.own (.s 1 out)⟩],fun s_=>match s_ with|(i,out)=>0<=i/\i<=(a9.length:Int)/\out=a9.take i.toNat,fun s_=>match s_ with|(i,out)=>a9.length-i.toNat,⟨(0,[]),?_,?_⟩,?_⟩;rotate_left;(focus (cbv;done));intro s_ hi;obtain⟨i,out⟩:=s_;replace hi:0<=i/\i<=(a9.length:Int)/\out=a9.take i.toNat:=hi;obtain⟨i0,i1,i2⟩:=hi;cbv)|(refine ab (O.ar .add .i64 i 1,O.cat out [[.s 1 (O.gs a9 i 0)]]) ?_ ?_ ?_;focus (cbv;done))
 all_goals exact SC
end Go.V