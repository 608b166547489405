/- Contracts. -/
import Derived.Test.YtbedjnlfdopeeaaGreatXHB
import Derived.Test.YtbedjnlfdopeeaaGreatXW3
import Derived.Test.YtbedjnlfdopeeaaGreatXKerBu
set_option linter.all false
open Go
open And renaming intro->Zb
open IntKind renaming i64->Za
open List renaming length_take->Zl,length_nil->Zz,length_cons->Zq
namespace Go.V
open Go Go.Proofs
set_option maxRecDepth 1000000
set_option maxHeartbeats 8000000
namespace Ia0
def ct (F:aP):CT:=fun f ds=>match f,ds with
 |222,[.one (.s 1 es)]=>some (fun _=>Rw [tI] es/\es.length<=1099511627776,[.one (.s 1 es)])
 |_,_=>none
theorem aj:aT (ct F0):=by
 intro f ds pre res h hp;unfold ct at h;split at h<;>cases h
 exact fR hp
abbrev B:cF:=tb aj
end Ia0
theorem oz {es:aa}(hp:Rw [tI,tI] es/\es.length<=1099511627776):ap 311 [.agg [.s 2 es]] [.agg [.s 2 es]]:=by
 obtain⟨hw,hl⟩:=hp;have hs:=hw.scal rfl;refine cb Ia0.B Tryz.func311 ?_
 exact Lo
theorem tH {es:aa}(hp:Rw [tI,tI] es/\es.length<=1099511627776):ap 304 [.agg [.s 2 es]] [.agg [.s 2 es]]:=by
 obtain⟨hw,hl⟩:=hp;have hs:=hw.scal rfl;refine cb Ia0.B Tryz.func304 ?_
 exact Lo
theorem hH {es:aa}(hp:Rw [tI,tI] es/\es.length<=1099511627776):ap 119 [.one (.s 2 es)] [.one (.s 2 es)]:=by
 obtain⟨hw,hl⟩:=hp;have hs:=hw.scal rfl;refine cb Ia0.B Tryz.func119 ?_
 exact Lo
theorem jH {r:Int}{qs:aa}(hp:Rw [tI,tI,tI] qs/\qs.length<=1099511627776):ap 122 [.agg [.i r,.s 3 qs]] [.agg [.i r,.s 3 qs]]:=by
 obtain⟨hw,hl⟩:=hp;have hs:=hw.scal rfl;refine cb Ia0.B Tryz.func122 ?_
 exact Lo
theorem j8 {r:Int}{qs:aa}(hp:Rw [tI,tI,tI] qs/\qs.length<=1099511627776):ap 103 [.agg [.i r,.s 3 qs]] [.agg [.i r,.s 3 qs]]:=by
 obtain⟨hw,hl⟩:=hp;have hs:=hw.scal rfl;refine cb Ia0.B Tryz.func103 ?_
 exact Lo
def Tryz.laysC15_ren:Go.Shelf.Ren:=⟨fun|15=>312|n=>n,fun|22=>31|3=>3|4=>4|n=>n,fun|n=>n⟩
theorem Tryz.laysC15:Lays2.n15 Tryz.prog Tryz.laysC15_ren:=⟨by kernel_rfl,Tryz.func312.trans (congrArg some (by kernel_rfl)),Tryz.underlying3,Tryz.isAgg3,Tryz.sizeOf3,Tryz.zeroValue3,Tryz.underlying4,Tryz.isAgg4,Tryz.sizeOf4,Tryz.zeroValue4,Tryz.underlying31,Tryz.isAgg31,Tryz.sizeOf31,Tryz.zeroValue31,by kernel_rfl⟩
theorem iW {l:aa}(hp:Rw [tI] l/\l.length<=1099511627776):ap 312 [.one (.s 1 l)] [.one (.s 1 l)]:=by
 exact D5 (Any.slices_Clone_int_nil Tryz.laysC15) (Any.slices_Clone_int_zero Tryz.laysC15) (Any.slices_Clone_int Tryz.laysC15) l hp
theorem tN {k m:Int}{cs:aa}{p n:Int}(hp:Rw [tI] cs/\cs.length<=1099511627776):ap 104 [.agg [.i k,.i m,.s 1 cs,.i p,.i n]] [.agg [.i k,.i m,.s 1 cs,.i p,.i n]]:=by
 obtain⟨hw,hl⟩:=hp;have hs:=hw.scal rfl;refine cb Ia0.B Tryz.func104 ?_
 exact Lo
theorem mG {cs us:aa}(hp:Rw [.sl [tI]] cs/\Rw [tB] us/\ah cs<=1099511627776/\ah us<=1099511627776):ap 310 [.agg [.s 1 cs,.s 1 us]] [.agg [.s 1 cs,.s 1 us]]:=by
 obtain⟨hc,hu,hn,hm⟩:=hp;have hs:=hu.scal rfl;have hl1:=aO (es:=cs);have hl2:=aO (es:=us);refine cb Ia0.B Tryz.func310 ?_
 intro O r F hO hr hF;cbv
 repeat' first|apply Zb|(apply bu<;>intro hb<;>cbv)|(refine⟨[2,3,12,13,14],[2,3],Int×aa,fun s_=>match s_ with|(i,out)=>[.reg 14 (.j i),.leaf 3 0 ⟨0,0,none,.own (.s 1 out)⟩],fun s_=>match s_ with|(i,out)=>0<=i/\i<=(cs.length:Int)/\out=cs.take i.toNat,fun s_=>match s_ with|(i,out)=>cs.length-i.toNat,⟨(0,[]),?_,?_⟩,?_⟩;rotate_left;(focus (cbv;done));intro s_ hi;obtain⟨i,out⟩:=s_;replace hi:0<=i/\i<=(cs.length:Int)/\out=cs.take i.toNat:=hi;obtain⟨i0,i1,i2⟩:=hi;cbv)|(refine ab (O.ar .add Za i 1,O.cat out [[.s 1 (O.gs cs i 0)]]) ?_ ?_ ?_;focus (cbv;done))
 all_goals(subst hO hr hF;(try simp only[nc]at*);(try simp only[ak,SS,sa,az]at*);(try rw[cy (by omega) (by omega)]);(try(have hol:out.length=i.toNat:=(by rw[i2,Zl];omega)));(try(have hsc:=lh hc i0 (by assumption);have hsl:=aO (es:=aR cs i 0))))
 all_goals first|exact hs|omega|exact eF|(show aV _ _=true;kernel_rfl)|exact⟨by(first|assumption|exact Rw.sub (by first|assumption|exact Rw.sub (by assumption) (by omega) rfl) (by omega) rfl),by omega⟩|(simp only[Zz,Zq];omega)|(rw[i2];exact(eX hc i0 (by assumption)).symm)|(rw[i2,eW (by omega)];rfl)|exact⟨trivial,trivial⟩|trivial|exact rfl|trace_state
theorem tG {cs us:aa}(hp:Rw [.sl [tI]] cs/\Rw [tB] us/\ah cs<=1099511627776/\ah us<=1099511627776):ap 303 [.agg [.s 1 cs,.s 1 us]] [.agg [.s 1 cs,.s 1 us]]:=by
 obtain⟨hc,hu,hn,hm⟩:=hp;have hs:=hu.scal rfl;have hl1:=aO (es:=cs);have hl2:=aO (es:=us);refine cb Ia0.B Tryz.func303 ?_
 intro O r F hO hr hF;cbv
 repeat' first|apply Zb|(apply bu<;>intro hb<;>cbv)|(refine⟨[1,2,3,4],[1,2,3],Int×aa,fun s_=>match s_ with|(i,out)=>[.reg 4 (.j i),.leaf 3 0 ⟨0,0,none,.own (.s 1 out)⟩],fun s_=>match s_ with|(i,out)=>0<=i/\i<=(cs.length:Int)/\out=cs.take i.toNat,fun s_=>match s_ with|(i,out)=>cs.length-i.toNat,⟨(0,[]),?_,?_⟩,?_⟩;rotate_left;(focus (cbv;done));intro s_ hi;obtain⟨i,out⟩:=s_;replace hi:0<=i/\i<=(cs.length:Int)/\out=cs.take i.toNat:=hi;obtain⟨i0,i1,i2⟩:=hi;cbv)|(refine ab (O.ar .add Za i 1,O.cat out [[.s 1 (O.gs cs i 0)]]) ?_ ?_ ?_;focus (cbv;done))|(refine ab (O.ar .add Za i 1,O.cat out [[.s 1 (O.cat [] (O.gs cs i 0))]]) ?_ ?_ ?_;focus (cbv;done))
 all_goals(subst hO hr hF;(try simp only[nc]at*);(try simp only[ak,SS,sa,az]at*);(try rw[cy (by omega) (by omega)]);(try(have hol:out.length=i.toNat:=(by rw[i2,Zl];omega)));(try(have hsc:=lh hc i0 (by assumption);have hsl:=aO (es:=aR cs i 0))))
 all_goals first|exact hs|exact Rw.scal (fs:=[tI]) (by(first|assumption|exact Rw.sub (by first|assumption|exact Rw.sub (by assumption) (by omega) rfl) (by omega) rfl)) rfl|omega|exact eF|(show aV _ _=true;kernel_rfl)|exact⟨by(first|assumption|exact Rw.sub (by first|assumption|exact Rw.sub (by assumption) (by omega) rfl) (by omega) rfl),by omega⟩|(simp only[Zz,Zq];omega)|(rw[i2];exact(eX hc i0 (by assumption)).symm)|(rw[i2,List.nil_append];exact(eX hc i0 (by assumption)).symm)|(rw[i2,eW (by omega)];rfl)|exact⟨trivial,trivial⟩|trivial|exact rfl|trace_state
namespace Ia1
def ct (F:aP):CT:=fun f ds=>match f,ds with
 |310,[.agg [.s 1 cs,.s 1 us]]=>some (fun _=>Rw [.sl [tI]] cs/\Rw [tB] us/\ah cs<=1099511627776/\ah us<=1099511627776,[.agg [.s 1 cs,.s 1 us]])
 |311,[.agg [.s 2 es]]=>some (fun _=>Rw [tI,tI] es/\es.length<=1099511627776,[.agg [.s 2 es]])
 |303,[.agg [.s 1 cs,.s 1 us]]=>some (fun _=>Rw [.sl [tI]] cs/\Rw [tB] us/\ah cs<=1099511627776/\ah us<=1099511627776,[.agg [.s 1 cs,.s 1 us]])
 |304,[.agg [.s 2 es]]=>some (fun _=>Rw [tI,tI] es/\es.length<=1099511627776,[.agg [.s 2 es]])
 |312,[.one (.s 1 l)]=>some (fun _=>Rw [tI] l/\l.length<=1099511627776,[.one (.s 1 l)])
 |_,_=>none
theorem aj:aT (ct F0):=by
 intro f ds pre res h hp;unfold ct at h;split at h<;>cases h
 exact mG hp;exact oz hp;exact tG hp;exact tH hp;exact iW hp
abbrev B:cF:=tb aj
end Ia1
theorem lS {cs us es:aa}(hp:Rw [.sl [tI]] cs/\Rw [tB] us/\Rw [tI,tI] es/\ah cs<=1099511627776/\ah us<=1099511627776/\ah es<=1099511627776):ap 221 [.agg [.s 1 cs,.s 1 us,.s 2 es]] [.agg [.s 1 cs,.s 1 us,.s 2 es]]:=by
 obtain⟨hc,hu,he,hn,hm,hk⟩:=hp;have hl:=aO (es:=es);refine cb Ia1.B Tryz.func221 ?_
 exact SU
theorem tJ {cs us es:aa}(hp:Rw [.sl [tI]] cs/\Rw [tB] us/\Rw [tI,tI] es/\ah cs<=1099511627776/\ah us<=1099511627776/\ah es<=1099511627776):ap 212 [.agg [.s 1 cs,.s 1 us,.s 2 es]] [.agg [.s 1 cs,.s 1 us,.s 2 es]]:=by
 obtain⟨hc,hu,he,hn,hm,hk⟩:=hp;have hl:=aO (es:=es);refine cb Ia1.B Tryz.func212 ?_
 exact SU
theorem qt {k m:Int}{cs:aa}(hp:Rw [tI] cs/\cs.length<=1099511627776):ap 223 [.agg [.i k,.i m,.s 1 cs]] [.agg [.i k,.i m,.s 1 cs]]:=by
 obtain⟨hw,hl⟩:=hp;have hs:=hw.scal rfl;refine cb Ia1.B Tryz.func223 ?_
 exact Lo
namespace Ia2
def ct (F:aP):CT:=fun f ds=>match f,ds with
 |221,[.agg [.s 1 cs,.s 1 us,.s 2 es]]=>some (fun _=>Rw [.sl [tI]] cs/\Rw [tB] us/\Rw [tI,tI] es/\ah cs<=1099511627776/\ah us<=1099511627776/\ah es<=1099511627776,[.agg [.s 1 cs,.s 1 us,.s 2 es]])
 |212,[.agg [.s 1 cs,.s 1 us,.s 2 es]]=>some (fun _=>Rw [.sl [tI]] cs/\Rw [tB] us/\Rw [tI,tI] es/\ah cs<=1099511627776/\ah us<=1099511627776/\ah es<=1099511627776,[.agg [.s 1 cs,.s 1 us,.s 2 es]])
 |222,[.one (.s 1 es)]=>some (fun _=>Rw [tI] es/\es.length<=1099511627776,[.one (.s 1 es)])
 |223,[.agg [.v (.int Za k),.v (.int Za m),.s 1 cs]]=>some (fun _=>Rw [tI] cs/\cs.length<=1099511627776,[.agg [.i k,.i m,.s 1 cs]])
 |_,_=>none
theorem aj:aT (ct F0):=by
 intro f ds pre res h hp;unfold ct at h;split at h<;>cases h
 exact lS hp;exact tJ hp;exact fR hp;exact qt hp
abbrev B:cF:=tb aj
end Ia2
theorem hE {cs us es:aa}{c:Int}{rs:aa}(hp:Rw [.sl [tI]] cs/\Rw [tB] us/\Rw [tI,tI] es/\Rw [tI] rs/\ah cs<=1099511627776/\ah us<=1099511627776/\ah es<=1099511627776/\ah rs<=1099511627776):ap 118 [.agg [.s 1 cs,.s 1 us,.s 2 es,.i c,.s 1 rs]] [.agg [.s 1 cs,.s 1 us,.s 2 es,.i c,.s 1 rs]]:=by
 obtain⟨hc,hu,he,hr,hn,hm,hk,hl⟩:=hp;have l1:=aO (es:=rs);have hs:=hr.scal rfl;refine cb Ia2.B Tryz.func118 ?_
 exact SO
theorem tK {cs us es:aa}{c:Int}{rs:aa}(hp:Rw [.sl [tI]] cs/\Rw [tB] us/\Rw [tI,tI] es/\Rw [tI] rs/\ah cs<=1099511627776/\ah us<=1099511627776/\ah es<=1099511627776/\ah rs<=1099511627776):ap 100 [.agg [.s 1 cs,.s 1 us,.s 2 es,.i c,.s 1 rs]] [.agg [.s 1 cs,.s 1 us,.s 2 es,.i c,.s 1 rs]]:=by
 obtain⟨hc,hu,he,hr,hn,hm,hk,hl⟩:=hp;have l1:=aO (es:=rs);have hs:=hr.scal rfl;refine cb Ia2.B Tryz.func100 ?_
 exact SO
theorem sO {k m:Int}{cs:aa}{p n:Int}(hp:Rw [tI] cs/\cs.length<=1099511627776):ap 123 [.agg [.i k,.i m,.s 1 cs,.i p,.i n]] [.agg [.i k,.i m,.s 1 cs,.i p,.i n]]:=by
 obtain⟨hw,hl⟩:=hp;have hs:=hw.scal rfl;refine cb Ia2.B Tryz.func123 ?_
 exact Lo
namespace Ia3
def ct (F:aP):CT:=fun f ds=>match f,ds with
 |222,[.one (.s 1 es)]=>some (fun _=>Rw [tI] es/\es.length<=1099511627776,[.one (.s 1 es)])
 |_,_=>none
theorem aj:aT (ct F0):=by
 intro f ds pre res h hp;unfold ct at h;split at h<;>cases h
 exact fR hp
abbrev B:cF:=tb aj
end Ia3
theorem oy {ls:aa}(hp:Rw [.sl [tI]] ls/\ah ls<=1099511627776):ap 120 [.agg [.s 1 ls]] [.agg [.s 1 ls]]:=by
 obtain⟨hc,hn⟩:=hp;have hl1:=aO (es:=ls);refine cb Ia3.B Tryz.func120 ?_
 intro O r F hO hr hF;cbv
 repeat' first|apply Zb|(apply bu<;>intro hb<;>cbv)|(refine⟨[2,3,8,9,10],[2,3],Int×aa,fun s_=>match s_ with|(i,out)=>[.reg 10 (.j i),.leaf 3 0 ⟨0,0,none,.own (.s 1 out)⟩],fun s_=>match s_ with|(i,out)=>0<=i/\i<=(ls.length:Int)/\out=ls.take i.toNat,fun s_=>match s_ with|(i,out)=>ls.length-i.toNat,⟨(0,[]),?_,?_⟩,?_⟩;rotate_left;(focus (cbv;done));intro s_ hi;obtain⟨i,out⟩:=s_;replace hi:0<=i/\i<=(ls.length:Int)/\out=ls.take i.toNat:=hi;obtain⟨i0,i1,i2⟩:=hi;cbv)|(refine ab (O.ar .add Za i 1,O.cat out [[.s 1 (O.gs ls i 0)]]) ?_ ?_ ?_;focus (cbv;done))|(refine ab (O.ar .add Za i 1,O.cat out [[.s 1 (O.cat [] (O.gs ls i 0))]]) ?_ ?_ ?_;focus (cbv;done))
 all_goals exact Si
theorem tO {ls:aa}(hp:Rw [.sl [tI]] ls/\ah ls<=1099511627776):ap 101 [.agg [.s 1 ls]] [.agg [.s 1 ls]]:=by
 obtain⟨hc,hn⟩:=hp;have hl1:=aO (es:=ls);refine cb Ia3.B Tryz.func101 ?_
 intro O r F hO hr hF;cbv
 repeat' first|apply Zb|(apply bu<;>intro hb<;>cbv)|(refine⟨[1,2,3,4],[1,2,3],Int×aa,fun s_=>match s_ with|(i,out)=>[.reg 4 (.j i),.leaf 3 0 ⟨0,0,none,.own (.s 1 out)⟩],fun s_=>match s_ with|(i,out)=>0<=i/\i<=(ls.length:Int)/\out=ls.take i.toNat,fun s_=>match s_ with|(i,out)=>ls.length-i.toNat,⟨(0,[]),?_,?_⟩,?_⟩;rotate_left;(focus (cbv;done));intro s_ hi;obtain⟨i,out⟩:=s_;replace hi:0<=i/\i<=(ls.length:Int)/\out=ls.take i.toNat:=hi;obtain⟨i0,i1,i2⟩:=hi;cbv)|(refine ab (O.ar .add Za i 1,O.cat out [[.s 1 (O.gs ls i 0)]]) ?_ ?_ ?_;focus (cbv;done))|(refine ab (O.ar .add Za i 1,O.cat out [[.s 1 (O.cat [] (O.gs ls i 0))]]) ?_ ?_ ?_;focus (cbv;done))
 all_goals exact Si
theorem qq {b x:aa}(hp:Rw [.sl [tI,tI]] b/\Rw [.sl [tI]] x/\ah b<=1099511627776/\ah x<=1099511627776):ap 121 [.agg [.s 1 b,.s 1 x]] [.agg [.s 1 b,.s 1 x]]:=by
 obtain⟨wb,wx,nb,nx⟩:=hp;have hl1:=aO (es:=b);have hl2:=aO (es:=x);refine cb Ia3.B Tryz.func121 ?_
 intro O r F hO hr hF;cbv
 repeat' first|apply Zb|(apply bu<;>intro hb<;>cbv)|(refine⟨[1,2,3,10,11,12],[1,2,3],Int×aa,fun s_=>match s_ with|(i,out)=>[.reg 12 (.j i),.leaf 3 0 ⟨0,0,none,.own (.s 1 out)⟩],fun s_=>match s_ with|(i,out)=>0<=i/\i<=(b.length:Int)/\out=b.take i.toNat,fun s_=>match s_ with|(i,out)=>b.length-i.toNat,⟨(0,[]),?_,?_⟩,?_⟩;rotate_left;(focus (cbv;done));intro s_ hi;obtain⟨i,out⟩:=s_;replace hi:0<=i/\i<=(b.length:Int)/\out=b.take i.toNat:=hi;obtain⟨i0,i1,i2⟩:=hi;cbv)|(refine⟨[2,3,26,27,28],[2,3],Int×aa,fun s_=>match s_ with|(k,ou2)=>[.reg 28 (.j k),.leaf 3 1 ⟨0,0,none,.own (.s 1 ou2)⟩],fun s_=>match s_ with|(k,ou2)=>0<=k/\k<=(x.length:Int)/\ou2=x.take k.toNat,fun s_=>match s_ with|(k,ou2)=>x.length-k.toNat,⟨(0,[]),?_,?_⟩,?_⟩;rotate_left;(focus (cbv;done));intro s_ hk;obtain⟨k,ou2⟩:=s_;replace hk:0<=k/\k<=(x.length:Int)/\ou2=x.take k.toNat:=hk;obtain⟨k0,k1,k2⟩:=hk;cbv)|(refine ab (O.ar .add Za i 1,O.cat out [[.s 2 (O.cat [] (O.gs b i 0))]]) ?_ ?_ ?_;focus (cbv;done))|(refine ab (O.ar .add Za k 1,O.cat ou2 [[.s 1 (O.gs x k 0)]]) ?_ ?_ ?_;focus (cbv;done))|(refine ab (O.ar .add Za k 1,O.cat ou2 [[.s 1 (O.cat [] (O.gs x k 0))]]) ?_ ?_ ?_;focus (cbv;done))
 all_goals exact Sg
theorem tP {b x:aa}(hp:Rw [.sl [tI,tI]] b/\Rw [.sl [tI]] x/\ah b<=1099511627776/\ah x<=1099511627776):ap 102 [.agg [.s 1 b,.s 1 x]] [.agg [.s 1 b,.s 1 x]]:=by
 obtain⟨wb,wx,nb,nx⟩:=hp;have hl1:=aO (es:=b);have hl2:=aO (es:=x);refine cb Ia3.B Tryz.func102 ?_
 intro O r F hO hr hF;cbv
 repeat' first|apply Zb|(apply bu<;>intro hb<;>cbv)|(refine⟨[1,2,3,4],[1,2,3],Int×aa,fun s_=>match s_ with|(i,out)=>[.reg 4 (.j i),.leaf 3 0 ⟨0,0,none,.own (.s 1 out)⟩],fun s_=>match s_ with|(i,out)=>0<=i/\i<=(b.length:Int)/\out=b.take i.toNat,fun s_=>match s_ with|(i,out)=>b.length-i.toNat,⟨(0,[]),?_,?_⟩,?_⟩;rotate_left;(focus (cbv;done));intro s_ hi;obtain⟨i,out⟩:=s_;replace hi:0<=i/\i<=(b.length:Int)/\out=b.take i.toNat:=hi;obtain⟨i0,i1,i2⟩:=hi;cbv)|(refine⟨[1,2,3,5],[1,2,3],Int×aa,fun s_=>match s_ with|(k,ou2)=>[.reg 5 (.j k),.leaf 3 1 ⟨0,0,none,.own (.s 1 ou2)⟩],fun s_=>match s_ with|(k,ou2)=>0<=k/\k<=(x.length:Int)/\ou2=x.take k.toNat,fun s_=>match s_ with|(k,ou2)=>x.length-k.toNat,⟨(0,[]),?_,?_⟩,?_⟩;rotate_left;(focus (cbv;done));intro s_ hk;obtain⟨k,ou2⟩:=s_;replace hk:0<=k/\k<=(x.length:Int)/\ou2=x.take k.toNat:=hk;obtain⟨k0,k1,k2⟩:=hk;cbv)|(refine ab (O.ar .add Za i 1,O.cat out [[.s 2 (O.cat [] (O.gs b i 0))]]) ?_ ?_ ?_;focus (cbv;done))|(refine ab (O.ar .add Za k 1,O.cat ou2 [[.s 1 (O.gs x k 0)]]) ?_ ?_ ?_;focus (cbv;done))|(refine ab (O.ar .add Za k 1,O.cat ou2 [[.s 1 (O.cat [] (O.gs x k 0))]]) ?_ ?_ ?_;focus (cbv;done))
 all_goals exact Sg
namespace Ia4
def ct (F:aP):CT:=fun f ds=>match f,ds with
 |118,[.agg [.s 1 cs,.s 1 us,.s 2 es,.v (.int Za c),.s 1 rs]]=>some (fun _=>Rw [.sl [tI]] cs/\Rw [tB] us/\Rw [tI,tI] es/\Rw [tI] rs/\ah cs<=1099511627776/\ah us<=1099511627776/\ah es<=1099511627776/\ah rs<=1099511627776,[.agg [.s 1 cs,.s 1 us,.s 2 es,.i c,.s 1 rs]])
 |119,[.one (.s 2 es)]=>some (fun _=>Rw [tI,tI] es/\es.length<=1099511627776,[.one (.s 2 es)])
 |120,[.agg [.s 1 ls]]=>some (fun _=>Rw [.sl [tI]] ls/\ah ls<=1099511627776,[.agg [.s 1 ls]])
 |121,[.agg [.s 1 b,.s 1 x]]=>some (fun _=>Rw [.sl [tI,tI]] b/\Rw [.sl [tI]] x/\ah b<=1099511627776/\ah x<=1099511627776,[.agg [.s 1 b,.s 1 x]])
 |122,[.agg [.v (.int Za r),.s 3 qs]]=>some (fun _=>Rw [tI,tI,tI] qs/\qs.length<=1099511627776,[.agg [.i r,.s 3 qs]])
 |123,[.agg [.v (.int Za k),.v (.int Za m),.s 1 cs,.v (.int Za p),.v (.int Za n)]]=>some (fun _=>Rw [tI] cs/\cs.length<=1099511627776,[.agg [.i k,.i m,.s 1 cs,.i p,.i n]])
 |100,[.agg [.s 1 cs,.s 1 us,.s 2 es,.v (.int Za c),.s 1 rs]]=>some (fun _=>Rw [.sl [tI]] cs/\Rw [tB] us/\Rw [tI,tI] es/\Rw [tI] rs/\ah cs<=1099511627776/\ah us<=1099511627776/\ah es<=1099511627776/\ah rs<=1099511627776,[.agg [.s 1 cs,.s 1 us,.s 2 es,.i c,.s 1 rs]])
 |101,[.agg [.s 1 ls]]=>some (fun _=>Rw [.sl [tI]] ls/\ah ls<=1099511627776,[.agg [.s 1 ls]])
 |102,[.agg [.s 1 b,.s 1 x]]=>some (fun _=>Rw [.sl [tI,tI]] b/\Rw [.sl [tI]] x/\ah b<=1099511627776/\ah x<=1099511627776,[.agg [.s 1 b,.s 1 x]])
 |103,[.agg [.v (.int Za r),.s 3 qs]]=>some (fun _=>Rw [tI,tI,tI] qs/\qs.length<=1099511627776,[.agg [.i r,.s 3 qs]])
 |104,[.agg [.v (.int Za k),.v (.int Za m),.s 1 cs,.v (.int Za p),.v (.int Za n)]]=>some (fun _=>Rw [tI] cs/\cs.length<=1099511627776,[.agg [.i k,.i m,.s 1 cs,.i p,.i n]])
 |_,_=>none
theorem aj:aT (ct F0):=by
 intro f ds pre res h hp;unfold ct at h;split at h<;>cases h
 exact hE hp;exact hH hp;exact oy hp;exact qq hp;exact jH hp;exact sO hp;exact tK hp;exact tO hp;exact tP hp;exact j8 hp;exact tN hp
abbrev B:cF:=tb aj
end Ia4
theorem qp {a0 a1 a2:aa}{a3:Int}{a4 a5 a6 a7 a8 a9 aA aB:aa}{aC:Int}{aD:aa}{aE aF aG aH:Int}{aI:Bool}{aJ aK:Int}{aL:aa}{aM aN:Int}(hp:iI a0 a1 a2 a4 a5 a6 a7 a8 a9 aA aB aD aL):ap 39 [.agg (iF a0 a1 a2 a3 a4 a5 a6 a7 a8 a9 aA aB aC aD aE aF aG aH aI aJ aK aL aM aN)] [.agg (iF a0 a1 a2 a3 a4 a5 a6 a7 a8 a9 aA aB aC aD aE aF aG aH aI aJ aK aL aM aN)]:=by
 have hr0:=hp.r0;have hc0:=hp.c0;have hl0:=aO (es:=a0);have hr1:=hp.r1;have hc1:=hp.c1;have hl1:=aO (es:=a1);have hr2:=hp.r2;have hc2:=hp.c2;have hl2:=aO (es:=a2);have hr4:=hp.r4;have hc4:=hp.c4;have hl4:=aO (es:=a4);have hr5:=hp.r5;have hc5:=hp.c5;have hl5:=aO (es:=a5);have hr6:=hp.r6;have hc6:=hp.c6;have hl6:=aO (es:=a6);have hr7:=hp.r7;have hc7:=hp.c7;have hl7:=aO (es:=a7);have hr8:=hp.r8;have hc8:=hp.c8;have hl8:=aO (es:=a8);have hr9:=hp.r9;have hc9:=hp.c9;have hl9:=aO (es:=a9);have hr10:=hp.r10;have hc10:=hp.c10;have hl10:=aO (es:=aA);have hr11:=hp.r11;have hc11:=hp.c11;have hl11:=aO (es:=aB);have hr13:=hp.r13;have hc13:=hp.c13;have hl13:=aO (es:=aD);have hr21:=hp.r21;have hc21:=hp.c21;have hl21:=aO (es:=aL);have hs5:=hr5.scal rfl;have hs6:=hr6.scal rfl;have hs7:=hr7.scal rfl;have hs8:=hr8.scal rfl;refine cb Ia4.B Tryz.func39 ?_
 intro O r F hO hr hF;cbv
 repeat' first|apply Zb|(apply bu<;>intro hb<;>cbv)|(refine⟨[1,2,3,32,33,34],[1,2,3],Int×aa,fun s_=>match s_ with|(i,out)=>[.reg 34 (.j i),.leaf 3 9 ⟨0,0,none,.own (.s 1 out)⟩],fun s_=>match s_ with|(i,out)=>0<=i/\i<=(a9.length:Int)/\out=a9.take i.toNat,fun s_=>match s_ with|(i,out)=>a9.length-i.toNat,⟨(0,[]),?_,?_⟩,?_⟩;rotate_left;(focus (cbv;done));intro s_ hi;obtain⟨i,out⟩:=s_;replace hi:0<=i/\i<=(a9.length:Int)/\out=a9.take i.toNat:=hi;obtain⟨i0,i1,i2⟩:=hi;cbv)|(refine ab (O.ar .add Za i 1,O.cat out [[.s 1 (O.gs a9 i 0)]]) ?_ ?_ ?_;focus (cbv;done))
 all_goals exact Sk
theorem j9 {a0 a1 a2:aa}{a3:Int}{a4 a5 a6 a7 a8 a9 aA aB:aa}{aC:Int}{aD:aa}{aE aF aG aH:Int}{aI:Bool}{aJ aK:Int}{aL:aa}{aM aN:Int}(hp:iI a0 a1 a2 a4 a5 a6 a7 a8 a9 aA aB aD aL):ap 26 [.agg (iF a0 a1 a2 a3 a4 a5 a6 a7 a8 a9 aA aB aC aD aE aF aG aH aI aJ aK aL aM aN)] [.agg (iF a0 a1 a2 a3 a4 a5 a6 a7 a8 a9 aA aB aC aD aE aF aG aH aI aJ aK aL aM aN)]:=by
 have hr0:=hp.r0;have hc0:=hp.c0;have hl0:=aO (es:=a0);have hr1:=hp.r1;have hc1:=hp.c1;have hl1:=aO (es:=a1);have hr2:=hp.r2;have hc2:=hp.c2;have hl2:=aO (es:=a2);have hr4:=hp.r4;have hc4:=hp.c4;have hl4:=aO (es:=a4);have hr5:=hp.r5;have hc5:=hp.c5;have hl5:=aO (es:=a5);have hr6:=hp.r6;have hc6:=hp.c6;have hl6:=aO (es:=a6);have hr7:=hp.r7;have hc7:=hp.c7;have hl7:=aO (es:=a7);have hr8:=hp.r8;have hc8:=hp.c8;have hl8:=aO (es:=a8);have hr9:=hp.r9;have hc9:=hp.c9;have hl9:=aO (es:=a9);have hr10:=hp.r10;have hc10:=hp.c10;have hl10:=aO (es:=aA);have hr11:=hp.r11;have hc11:=hp.c11;have hl11:=aO (es:=aB);have hr13:=hp.r13;have hc13:=hp.c13;have hl13:=aO (es:=aD);have hr21:=hp.r21;have hc21:=hp.c21;have hl21:=aO (es:=aL);have hs5:=hr5.scal rfl;have hs6:=hr6.scal rfl;have hs7:=hr7.scal rfl;have hs8:=hr8.scal rfl;refine cb Ia4.B Tryz.func26 ?_
 intro O r F hO hr hF;cbv
 repeat' first|apply Zb|(apply bu<;>intro hb<;>cbv)|(refine⟨[1,2,3,4],[1,2,3],Int×aa,fun s_=>match s_ with|(i,out)=>[.reg 4 (.j i),.reg 3 (.one (.vw 3 0 0 0 (O.ln out))),.leaf 3 0 ⟨0,0,none,.own (.s 1 out)⟩],fun s_=>match s_ with|(i,out)=>0<=i/\i<=(a9.length:Int)/\out=a9.take i.toNat,fun s_=>match s_ with|(i,out)=>a9.length-i.toNat,⟨(0,[]),?_,?_⟩,?_⟩;rotate_left;(focus (cbv;done));intro s_ hi;obtain⟨i,out⟩:=s_;replace hi:0<=i/\i<=(a9.length:Int)/\out=a9.take i.toNat:=hi;obtain⟨i0,i1,i2⟩:=hi;cbv)|(refine ab (O.ar .add Za i 1,O.cat out [[.s 1 (O.gs a9 i 0)]]) ?_ ?_ ?_;focus (cbv;done))
 all_goals exact Sk
end Go.V