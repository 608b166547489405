/- Contracts. -/
import Derived.Test.YtcodmgmliopheaaGreatHB
import Derived.Test.YtcodmgmliopheaaGreatW3
import Derived.Test.YtcodmgmliopheaaGreatKerBt
set_option linter.all false
open Go
open And renaming intro->AT
open List renaming length_take->VK,length_nil->Wy,length_cons->V9
namespace Go.V
open Go Go.Proofs
set_option maxRecDepth 1000000
set_option maxHeartbeats 8000000
namespace Ia0
def ct (F:aQ):CT:=fun f ds=>match f,ds with
 |222,[.one (.s 1 es)]=>some (fun _=>Rw [tI] es/\es.length<=1099511627776,[.one (.s 1 es)])
 |_,_=>none
theorem aj :aR (ct F0):=by
 intro f ds pre res h hp;unfold ct at h;split at h<;>cases h
 exact fK hp
abbrev B :cy:=tb aj
end Ia0
theorem oY {es:aa}(hp:Rw [tI,tI] es/\es.length<=1099511627776):aw 378 [.agg [.s 2 es]] [.agg [.s 2 es]]:=by
 obtain⟨hw,hl⟩:=hp;have hs:=hw.scal rfl;refine cb Ia0.B Tryz.func378 ?_
 exact KX
theorem t6 {es:aa}(hp:Rw [tI,tI] es/\es.length<=1099511627776):aw 365 [.agg [.s 2 es]] [.agg [.s 2 es]]:=by
 obtain⟨hw,hl⟩:=hp;have hs:=hw.scal rfl;refine cb Ia0.B Tryz.func365 ?_
 exact KX
theorem mT {es:aa}(hp:Rw [tI,tI] es/\es.length<=1099511627776):aw 160 [.one (.s 2 es)] [.one (.s 2 es)]:=by
 obtain⟨hw,hl⟩:=hp;have hs:=hw.scal rfl;refine cb Ia0.B Tryz.func160 ?_
 exact KX
theorem qT {r:Int}{qs:aa}(hp:Rw [tI,tI,tI] qs/\qs.length<=1099511627776):aw 163 [.agg [.i r,.s 3 qs]] [.agg [.i r,.s 3 qs]]:=by
 obtain⟨hw,hl⟩:=hp;have hs:=hw.scal rfl;refine cb Ia0.B Tryz.func163 ?_
 exact KX
theorem ui {r:Int}{qs:aa}(hp:Rw [tI,tI,tI] qs/\qs.length<=1099511627776):aw 132 [.agg [.i r,.s 3 qs]] [.agg [.i r,.s 3 qs]]:=by
 obtain⟨hw,hl⟩:=hp;have hs:=hw.scal rfl;refine cb Ia0.B Tryz.func132 ?_
 exact KX
def Tryz.laysC15_ren :Go.Shelf.Ren:=⟨fun|15=>317|n=>n,fun|22=>31|3=>3|4=>4|n=>n,fun|n=>n⟩
theorem Tryz.laysC15 :Lays2.n15 Tryz.prog Tryz.laysC15_ren:=⟨by kernel_rfl,Tryz.func317.trans (congrArg some (by kernel_rfl)),Tryz.underlying3,Tryz.isAgg3,Tryz.sizeOf3,Tryz.zeroValue3,Tryz.underlying4,Tryz.isAgg4,Tryz.sizeOf4,Tryz.zeroValue4,Tryz.underlying31,Tryz.isAgg31,Tryz.sizeOf31,Tryz.zeroValue31,by kernel_rfl⟩
theorem iZ {l:aa}(hp:Rw [tI] l/\l.length<=1099511627776):aw 317 [.one (.s 1 l)] [.one (.s 1 l)]:=by
 exact Ec (Any.slices_Clone_int_nil Tryz.laysC15) (Any.slices_Clone_int_zero Tryz.laysC15) (Any.slices_Clone_int Tryz.laysC15) l hp
theorem uc {k m:Int}{cs:aa}{p n:Int}(hp:Rw [tI] cs/\cs.length<=1099511627776):aw 133 [.agg [.i k,.i m,.s 1 cs,.i p,.i n]] [.agg [.i k,.i m,.s 1 cs,.i p,.i n]]:=by
 obtain⟨hw,hl⟩:=hp;have hs:=hw.scal rfl;refine cb Ia0.B Tryz.func133 ?_
 exact KX
theorem mS {cs us:aa}(hp:Rw [.sl [tI]] cs/\Rw [tB] us/\ag cs<=1099511627776/\ag us<=1099511627776):aw 377 [.agg [.s 1 cs,.s 1 us]] [.agg [.s 1 cs,.s 1 us]]:=by
 obtain⟨hc,hu,hn,hm⟩:=hp;have hs:=hu.scal rfl;have hl1:=aU (es:=cs);have hl2:=aU (es:=us);refine cb Ia0.B Tryz.func377 ?_
 intro O r F hO hr hF;cbv
 repeat' first|apply AT|(apply bi<;>intro hb<;>cbv)|(refine⟨[2,3,12,13,14],[2,3],Int×aa,fun s_=>match s_ with|(i,out)=>[.reg 14 (.j i),.leaf 3 0 ⟨0,0,none,.own (.s 1 out)⟩],fun s_=>match s_ with|(i,out)=>0<=i/\i<=(cs.length:Int)/\out=cs.take i.toNat,fun s_=>match s_ with|(i,out)=>cs.length-i.toNat,⟨(0,[]),?_,?_⟩,?_⟩;rotate_left;(focus (cbv;done));intro s_ hi;obtain⟨i,out⟩:=s_;replace hi:0<=i/\i<=(cs.length:Int)/\out=cs.take i.toNat:=hi;obtain⟨i0,i1,i2⟩:=hi;cbv)|(refine ab (O.ar .add .i64 i 1,O.cat out [[.s 1 (O.gs cs i 0)]]) ?_ ?_ ?_;focus (cbv;done))
 all_goals(subst hO hr hF;(try simp only[nc]at*);(try simp only[ah,SS,sa,az]at*);(try rw[cE (by omega) (by omega)]);(try(have hol:out.length=i.toNat:=(by rw[i2,VK];omega)));(try(have hsc:=lH hc i0 (by assumption);have hsl:=aU (es:=aO cs i 0))))
 all_goals first|exact hs|omega|exact fe|(show aV _ _=true;kernel_rfl)|exact⟨by(first|assumption|exact Rw.sub (by first|assumption|exact Rw.sub (by assumption) (by omega) rfl) (by omega) rfl),by omega⟩|(simp only[Wy,V9];omega)|(rw[i2];exact(eX hc i0 (by assumption)).symm)|(rw[i2,eW (by omega)];rfl)|exact⟨trivial,trivial⟩|trivial|exact rfl|trace_state
theorem tZ {cs us:aa}(hp:Rw [.sl [tI]] cs/\Rw [tB] us/\ag cs<=1099511627776/\ag us<=1099511627776):aw 364 [.agg [.s 1 cs,.s 1 us]] [.agg [.s 1 cs,.s 1 us]]:=by
 obtain⟨hc,hu,hn,hm⟩:=hp;have hs:=hu.scal rfl;have hl1:=aU (es:=cs);have hl2:=aU (es:=us);refine cb Ia0.B Tryz.func364 ?_
 intro O r F hO hr hF;cbv
 repeat' first|apply AT|(apply bi<;>intro hb<;>cbv)|(refine⟨[1,2,3,4],[1,2,3],Int×aa,fun s_=>match s_ with|(i,out)=>[.reg 4 (.j i),.leaf 3 0 ⟨0,0,none,.own (.s 1 out)⟩],fun s_=>match s_ with|(i,out)=>0<=i/\i<=(cs.length:Int)/\out=cs.take i.toNat,fun s_=>match s_ with|(i,out)=>cs.length-i.toNat,⟨(0,[]),?_,?_⟩,?_⟩;rotate_left;(focus (cbv;done));intro s_ hi;obtain⟨i,out⟩:=s_;replace hi:0<=i/\i<=(cs.length:Int)/\out=cs.take i.toNat:=hi;obtain⟨i0,i1,i2⟩:=hi;cbv)|(refine ab (O.ar .add .i64 i 1,O.cat out [[.s 1 (O.gs cs i 0)]]) ?_ ?_ ?_;focus (cbv;done))|(refine ab (O.ar .add .i64 i 1,O.cat out [[.s 1 (O.cat [] (O.gs cs i 0))]]) ?_ ?_ ?_;focus (cbv;done))
 all_goals(subst hO hr hF;(try simp only[nc]at*);(try simp only[ah,SS,sa,az]at*);(try rw[cE (by omega) (by omega)]);(try(have hol:out.length=i.toNat:=(by rw[i2,VK];omega)));(try(have hsc:=lH hc i0 (by assumption);have hsl:=aU (es:=aO cs i 0))))
 all_goals first|exact hs|exact Rw.scal (fs:=[tI]) (by(first|assumption|exact Rw.sub (by first|assumption|exact Rw.sub (by assumption) (by omega) rfl) (by omega) rfl)) rfl|omega|exact fe|(show aV _ _=true;kernel_rfl)|exact⟨by(first|assumption|exact Rw.sub (by first|assumption|exact Rw.sub (by assumption) (by omega) rfl) (by omega) rfl),by omega⟩|(simp only[Wy,V9];omega)|(rw[i2];exact(eX hc i0 (by assumption)).symm)|(rw[i2,List.nil_append];exact(eX hc i0 (by assumption)).symm)|(rw[i2,eW (by omega)];rfl)|exact⟨trivial,trivial⟩|trivial|exact rfl|trace_state
namespace Ia1
def ct (F:aQ):CT:=fun f ds=>match f,ds with
 |377,[.agg [.s 1 cs,.s 1 us]]=>some (fun _=>Rw [.sl [tI]] cs/\Rw [tB] us/\ag cs<=1099511627776/\ag us<=1099511627776,[.agg [.s 1 cs,.s 1 us]])
 |378,[.agg [.s 2 es]]=>some (fun _=>Rw [tI,tI] es/\es.length<=1099511627776,[.agg [.s 2 es]])
 |364,[.agg [.s 1 cs,.s 1 us]]=>some (fun _=>Rw [.sl [tI]] cs/\Rw [tB] us/\ag cs<=1099511627776/\ag us<=1099511627776,[.agg [.s 1 cs,.s 1 us]])
 |365,[.agg [.s 2 es]]=>some (fun _=>Rw [tI,tI] es/\es.length<=1099511627776,[.agg [.s 2 es]])
 |317,[.one (.s 1 l)]=>some (fun _=>Rw [tI] l/\l.length<=1099511627776,[.one (.s 1 l)])
 |_,_=>none
theorem aj :aR (ct F0):=by
 intro f ds pre res h hp;unfold ct at h;split at h<;>cases h
 exact mS hp;exact oY hp;exact tZ hp;exact t6 hp;exact iZ hp
abbrev B :cy:=tb aj
end Ia1
theorem eG {cs us es:aa}(hp:Rw [.sl [tI]] cs/\Rw [tB] us/\Rw [tI,tI] es/\ag cs<=1099511627776/\ag us<=1099511627776/\ag es<=1099511627776):aw 283 [.agg [.s 1 cs,.s 1 us,.s 2 es]] [.agg [.s 1 cs,.s 1 us,.s 2 es]]:=by
 obtain⟨hc,hu,he,hn,hm,hk⟩:=hp;have hl:=aU (es:=es);refine cb Ia1.B Tryz.func283 ?_
 exact Rs
theorem kv {cs us es:aa}(hp:Rw [.sl [tI]] cs/\Rw [tB] us/\Rw [tI,tI] es/\ag cs<=1099511627776/\ag us<=1099511627776/\ag es<=1099511627776):aw 262 [.agg [.s 1 cs,.s 1 us,.s 2 es]] [.agg [.s 1 cs,.s 1 us,.s 2 es]]:=by
 obtain⟨hc,hu,he,hn,hm,hk⟩:=hp;have hl:=aU (es:=es);refine cb Ia1.B Tryz.func262 ?_
 exact Rs
theorem qS {k m:Int}{cs:aa}(hp:Rw [tI] cs/\cs.length<=1099511627776):aw 212 [.agg [.i k,.i m,.s 1 cs]] [.agg [.i k,.i m,.s 1 cs]]:=by
 obtain⟨hw,hl⟩:=hp;have hs:=hw.scal rfl;refine cb Ia1.B Tryz.func212 ?_
 exact KX
namespace Ia2
def ct (F:aQ):CT:=fun f ds=>match f,ds with
 |283,[.agg [.s 1 cs,.s 1 us,.s 2 es]]=>some (fun _=>Rw [.sl [tI]] cs/\Rw [tB] us/\Rw [tI,tI] es/\ag cs<=1099511627776/\ag us<=1099511627776/\ag es<=1099511627776,[.agg [.s 1 cs,.s 1 us,.s 2 es]])
 |262,[.agg [.s 1 cs,.s 1 us,.s 2 es]]=>some (fun _=>Rw [.sl [tI]] cs/\Rw [tB] us/\Rw [tI,tI] es/\ag cs<=1099511627776/\ag us<=1099511627776/\ag es<=1099511627776,[.agg [.s 1 cs,.s 1 us,.s 2 es]])
 |222,[.one (.s 1 es)]=>some (fun _=>Rw [tI] es/\es.length<=1099511627776,[.one (.s 1 es)])
 |212,[.agg [.v (.int .i64 k),.v (.int .i64 m),.s 1 cs]]=>some (fun _=>Rw [tI] cs/\cs.length<=1099511627776,[.agg [.i k,.i m,.s 1 cs]])
 |_,_=>none
theorem aj :aR (ct F0):=by
 intro f ds pre res h hp;unfold ct at h;split at h<;>cases h
 exact eG hp;exact kv hp;exact fK hp;exact qS hp
abbrev B :cy:=tb aj
end Ia2
theorem cY {cs us es:aa}{c:Int}{rs:aa}(hp:Rw [.sl [tI]] cs/\Rw [tB] us/\Rw [tI,tI] es/\Rw [tI] rs/\ag cs<=1099511627776/\ag us<=1099511627776/\ag es<=1099511627776/\ag rs<=1099511627776):aw 159 [.agg [.s 1 cs,.s 1 us,.s 2 es,.i c,.s 1 rs]] [.agg [.s 1 cs,.s 1 us,.s 2 es,.i c,.s 1 rs]]:=by
 obtain⟨hc,hu,he,hr,hn,hm,hk,hl⟩:=hp;have l1:=aU (es:=rs);have hs:=hr.scal rfl;refine cb Ia2.B Tryz.func159 ?_
 exact Ro
theorem t8 {cs us es:aa}{c:Int}{rs:aa}(hp:Rw [.sl [tI]] cs/\Rw [tB] us/\Rw [tI,tI] es/\Rw [tI] rs/\ag cs<=1099511627776/\ag us<=1099511627776/\ag es<=1099511627776/\ag rs<=1099511627776):aw 129 [.agg [.s 1 cs,.s 1 us,.s 2 es,.i c,.s 1 rs]] [.agg [.s 1 cs,.s 1 us,.s 2 es,.i c,.s 1 rs]]:=by
 obtain⟨hc,hu,he,hr,hn,hm,hk,hl⟩:=hp;have l1:=aU (es:=rs);have hs:=hr.scal rfl;refine cb Ia2.B Tryz.func129 ?_
 exact Ro
theorem kn {k m:Int}{cs:aa}{p n:Int}(hp:Rw [tI] cs/\cs.length<=1099511627776):aw 164 [.agg [.i k,.i m,.s 1 cs,.i p,.i n]] [.agg [.i k,.i m,.s 1 cs,.i p,.i n]]:=by
 obtain⟨hw,hl⟩:=hp;have hs:=hw.scal rfl;refine cb Ia2.B Tryz.func164 ?_
 exact KX
namespace Ia3
def ct (F:aQ):CT:=fun f ds=>match f,ds with
 |222,[.one (.s 1 es)]=>some (fun _=>Rw [tI] es/\es.length<=1099511627776,[.one (.s 1 es)])
 |_,_=>none
theorem aj :aR (ct F0):=by
 intro f ds pre res h hp;unfold ct at h;split at h<;>cases h
 exact fK hp
abbrev B :cy:=tb aj
end Ia3
theorem oX {ls:aa}(hp:Rw [.sl [tI]] ls/\ag ls<=1099511627776):aw 161 [.agg [.s 1 ls]] [.agg [.s 1 ls]]:=by
 obtain⟨hc,hn⟩:=hp;have hl1:=aU (es:=ls);refine cb Ia3.B Tryz.func161 ?_
 intro O r F hO hr hF;cbv
 repeat' first|apply AT|(apply bi<;>intro hb<;>cbv)|(refine⟨[2,3,8,9,10],[2,3],Int×aa,fun s_=>match s_ with|(i,out)=>[.reg 10 (.j i),.leaf 3 0 ⟨0,0,none,.own (.s 1 out)⟩],fun s_=>match s_ with|(i,out)=>0<=i/\i<=(ls.length:Int)/\out=ls.take i.toNat,fun s_=>match s_ with|(i,out)=>ls.length-i.toNat,⟨(0,[]),?_,?_⟩,?_⟩;rotate_left;(focus (cbv;done));intro s_ hi;obtain⟨i,out⟩:=s_;replace hi:0<=i/\i<=(ls.length:Int)/\out=ls.take i.toNat:=hi;obtain⟨i0,i1,i2⟩:=hi;cbv)|(refine ab (O.ar .add .i64 i 1,O.cat out [[.s 1 (O.gs ls i 0)]]) ?_ ?_ ?_;focus (cbv;done))|(refine ab (O.ar .add .i64 i 1,O.cat out [[.s 1 (O.cat [] (O.gs ls i 0))]]) ?_ ?_ ?_;focus (cbv;done))
 all_goals exact Q5
theorem ug {ls:aa}(hp:Rw [.sl [tI]] ls/\ag ls<=1099511627776):aw 130 [.agg [.s 1 ls]] [.agg [.s 1 ls]]:=by
 obtain⟨hc,hn⟩:=hp;have hl1:=aU (es:=ls);refine cb Ia3.B Tryz.func130 ?_
 intro O r F hO hr hF;cbv
 repeat' first|apply AT|(apply bi<;>intro hb<;>cbv)|(refine⟨[1,2,3,4],[1,2,3],Int×aa,fun s_=>match s_ with|(i,out)=>[.reg 4 (.j i),.leaf 3 0 ⟨0,0,none,.own (.s 1 out)⟩],fun s_=>match s_ with|(i,out)=>0<=i/\i<=(ls.length:Int)/\out=ls.take i.toNat,fun s_=>match s_ with|(i,out)=>ls.length-i.toNat,⟨(0,[]),?_,?_⟩,?_⟩;rotate_left;(focus (cbv;done));intro s_ hi;obtain⟨i,out⟩:=s_;replace hi:0<=i/\i<=(ls.length:Int)/\out=ls.take i.toNat:=hi;obtain⟨i0,i1,i2⟩:=hi;cbv)|(refine ab (O.ar .add .i64 i 1,O.cat out [[.s 1 (O.gs ls i 0)]]) ?_ ?_ ?_;focus (cbv;done))|(refine ab (O.ar .add .i64 i 1,O.cat out [[.s 1 (O.cat [] (O.gs ls i 0))]]) ?_ ?_ ?_;focus (cbv;done))
 all_goals exact Q5
theorem qR {b x:aa}(hp:Rw [.sl [tI,tI]] b/\Rw [.sl [tI]] x/\ag b<=1099511627776/\ag x<=1099511627776):aw 162 [.agg [.s 1 b,.s 1 x]] [.agg [.s 1 b,.s 1 x]]:=by
 obtain⟨wb,wx,nb,nx⟩:=hp;have hl1:=aU (es:=b);have hl2:=aU (es:=x);refine cb Ia3.B Tryz.func162 ?_
 intro O r F hO hr hF;cbv
 repeat' first|apply AT|(apply bi<;>intro hb<;>cbv)|(refine⟨[1,2,3,10,11,12],[1,2,3],Int×aa,fun s_=>match s_ with|(i,out)=>[.reg 12 (.j i),.leaf 3 0 ⟨0,0,none,.own (.s 1 out)⟩],fun s_=>match s_ with|(i,out)=>0<=i/\i<=(b.length:Int)/\out=b.take i.toNat,fun s_=>match s_ with|(i,out)=>b.length-i.toNat,⟨(0,[]),?_,?_⟩,?_⟩;rotate_left;(focus (cbv;done));intro s_ hi;obtain⟨i,out⟩:=s_;replace hi:0<=i/\i<=(b.length:Int)/\out=b.take i.toNat:=hi;obtain⟨i0,i1,i2⟩:=hi;cbv)|(refine⟨[2,3,26,27,28],[2,3],Int×aa,fun s_=>match s_ with|(k,ou2)=>[.reg 28 (.j k),.leaf 3 1 ⟨0,0,none,.own (.s 1 ou2)⟩],fun s_=>match s_ with|(k,ou2)=>0<=k/\k<=(x.length:Int)/\ou2=x.take k.toNat,fun s_=>match s_ with|(k,ou2)=>x.length-k.toNat,⟨(0,[]),?_,?_⟩,?_⟩;rotate_left;(focus (cbv;done));intro s_ hk;obtain⟨k,ou2⟩:=s_;replace hk:0<=k/\k<=(x.length:Int)/\ou2=x.take k.toNat:=hk;obtain⟨k0,k1,k2⟩:=hk;cbv)|(refine ab (O.ar .add .i64 i 1,O.cat out [[.s 2 (O.cat [] (O.gs b i 0))]]) ?_ ?_ ?_;focus (cbv;done))|(refine ab (O.ar .add .i64 k 1,O.cat ou2 [[.s 1 (O.gs x k 0)]]) ?_ ?_ ?_;focus (cbv;done))|(refine ab (O.ar .add .i64 k 1,O.cat ou2 [[.s 1 (O.cat [] (O.gs x k 0))]]) ?_ ?_ ?_;focus (cbv;done))
 all_goals exact UO
theorem uh {b x:aa}(hp:Rw [.sl [tI,tI]] b/\Rw [.sl [tI]] x/\ag b<=1099511627776/\ag x<=1099511627776):aw 131 [.agg [.s 1 b,.s 1 x]] [.agg [.s 1 b,.s 1 x]]:=by
 obtain⟨wb,wx,nb,nx⟩:=hp;have hl1:=aU (es:=b);have hl2:=aU (es:=x);refine cb Ia3.B Tryz.func131 ?_
 intro O r F hO hr hF;cbv
 repeat' first|apply AT|(apply bi<;>intro hb<;>cbv)|(refine⟨[1,2,3,4],[1,2,3],Int×aa,fun s_=>match s_ with|(i,out)=>[.reg 4 (.j i),.leaf 3 0 ⟨0,0,none,.own (.s 1 out)⟩],fun s_=>match s_ with|(i,out)=>0<=i/\i<=(b.length:Int)/\out=b.take i.toNat,fun s_=>match s_ with|(i,out)=>b.length-i.toNat,⟨(0,[]),?_,?_⟩,?_⟩;rotate_left;(focus (cbv;done));intro s_ hi;obtain⟨i,out⟩:=s_;replace hi:0<=i/\i<=(b.length:Int)/\out=b.take i.toNat:=hi;obtain⟨i0,i1,i2⟩:=hi;cbv)|(refine⟨[1,2,3,5],[1,2,3],Int×aa,fun s_=>match s_ with|(k,ou2)=>[.reg 5 (.j k),.leaf 3 1 ⟨0,0,none,.own (.s 1 ou2)⟩],fun s_=>match s_ with|(k,ou2)=>0<=k/\k<=(x.length:Int)/\ou2=x.take k.toNat,fun s_=>match s_ with|(k,ou2)=>x.length-k.toNat,⟨(0,[]),?_,?_⟩,?_⟩;rotate_left;(focus (cbv;done));intro s_ hk;obtain⟨k,ou2⟩:=s_;replace hk:0<=k/\k<=(x.length:Int)/\ou2=x.take k.toNat:=hk;obtain⟨k0,k1,k2⟩:=hk;cbv)|(refine ab (O.ar .add .i64 i 1,O.cat out [[.s 2 (O.cat [] (O.gs b i 0))]]) ?_ ?_ ?_;focus (cbv;done))|(refine ab (O.ar .add .i64 k 1,O.cat ou2 [[.s 1 (O.gs x k 0)]]) ?_ ?_ ?_;focus (cbv;done))|(refine ab (O.ar .add .i64 k 1,O.cat ou2 [[.s 1 (O.cat [] (O.gs x k 0))]]) ?_ ?_ ?_;focus (cbv;done))
 all_goals exact UO
namespace Ia4
def ct (F:aQ):CT:=fun f ds=>match f,ds with
 |159,[.agg [.s 1 cs,.s 1 us,.s 2 es,.v (.int .i64 c),.s 1 rs]]=>some (fun _=>Rw [.sl [tI]] cs/\Rw [tB] us/\Rw [tI,tI] es/\Rw [tI] rs/\ag cs<=1099511627776/\ag us<=1099511627776/\ag es<=1099511627776/\ag rs<=1099511627776,[.agg [.s 1 cs,.s 1 us,.s 2 es,.i c,.s 1 rs]])
 |160,[.one (.s 2 es)]=>some (fun _=>Rw [tI,tI] es/\es.length<=1099511627776,[.one (.s 2 es)])
 |161,[.agg [.s 1 ls]]=>some (fun _=>Rw [.sl [tI]] ls/\ag ls<=1099511627776,[.agg [.s 1 ls]])
 |162,[.agg [.s 1 b,.s 1 x]]=>some (fun _=>Rw [.sl [tI,tI]] b/\Rw [.sl [tI]] x/\ag b<=1099511627776/\ag x<=1099511627776,[.agg [.s 1 b,.s 1 x]])
 |163,[.agg [.v (.int .i64 r),.s 3 qs]]=>some (fun _=>Rw [tI,tI,tI] qs/\qs.length<=1099511627776,[.agg [.i r,.s 3 qs]])
 |164,[.agg [.v (.int .i64 k),.v (.int .i64 m),.s 1 cs,.v (.int .i64 p),.v (.int .i64 n)]]=>some (fun _=>Rw [tI] cs/\cs.length<=1099511627776,[.agg [.i k,.i m,.s 1 cs,.i p,.i n]])
 |129,[.agg [.s 1 cs,.s 1 us,.s 2 es,.v (.int .i64 c),.s 1 rs]]=>some (fun _=>Rw [.sl [tI]] cs/\Rw [tB] us/\Rw [tI,tI] es/\Rw [tI] rs/\ag cs<=1099511627776/\ag us<=1099511627776/\ag es<=1099511627776/\ag rs<=1099511627776,[.agg [.s 1 cs,.s 1 us,.s 2 es,.i c,.s 1 rs]])
 |130,[.agg [.s 1 ls]]=>some (fun _=>Rw [.sl [tI]] ls/\ag ls<=1099511627776,[.agg [.s 1 ls]])
 |131,[.agg [.s 1 b,.s 1 x]]=>some (fun _=>Rw [.sl [tI,tI]] b/\Rw [.sl [tI]] x/\ag b<=1099511627776/\ag x<=1099511627776,[.agg [.s 1 b,.s 1 x]])
 |132,[.agg [.v (.int .i64 r),.s 3 qs]]=>some (fun _=>Rw [tI,tI,tI] qs/\qs.length<=1099511627776,[.agg [.i r,.s 3 qs]])
 |133,[.agg [.v (.int .i64 k),.v (.int .i64 m),.s 1 cs,.v (.int .i64 p),.v (.int .i64 n)]]=>some (fun _=>Rw [tI] cs/\cs.length<=1099511627776,[.agg [.i k,.i m,.s 1 cs,.i p,.i n]])
 |_,_=>none
theorem aj :aR (ct F0):=by
 intro f ds pre res h hp;unfold ct at h;split at h<;>cases h
 exact cY hp;exact mT hp;exact oX hp;exact qR hp;exact qT hp;exact kn hp;exact t8 hp;exact ug hp;exact uh hp;exact ui hp;exact uc hp
abbrev B :cy:=tb aj
end Ia4
theorem qQ {a0 a1 a2:aa}{a3:Int}{a4 a5 a6 a7 a8 a9 aA aB:aa}{aC:Int}{aD:aa}{aE aF aG aH:Int}{aI:Bool}{aJ aK:Int}{aL:aa}{aM aN:Int}(hp:yk a0 a1 a2 a4 a5 a6 a7 a8 a9 aA aB aD aL):aw 53 [.agg (ji a0 a1 a2 a3 a4 a5 a6 a7 a8 a9 aA aB aC aD aE aF aG aH aI aJ aK aL aM aN)] [.agg (ji a0 a1 a2 a3 a4 a5 a6 a7 a8 a9 aA aB aC aD aE aF aG aH aI aJ aK aL aM aN)]:=by
 have hr0:=hp.r0;have hc0:=hp.c0;have hl0:=aU (es:=a0);have hr1:=hp.r1;have hc1:=hp.c1;have hl1:=aU (es:=a1);have hr2:=hp.r2;have hc2:=hp.c2;have hl2:=aU (es:=a2);have hr4:=hp.r4;have hc4:=hp.c4;have hl4:=aU (es:=a4);have hr5:=hp.r5;have hc5:=hp.c5;have hl5:=aU (es:=a5);have hr6:=hp.r6;have hc6:=hp.c6;have hl6:=aU (es:=a6);have hr7:=hp.r7;have hc7:=hp.c7;have hl7:=aU (es:=a7);have hr8:=hp.r8;have hc8:=hp.c8;have hl8:=aU (es:=a8);have hr9:=hp.r9;have hc9:=hp.c9;have hl9:=aU (es:=a9);have hr10:=hp.r10;have hc10:=hp.c10;have hl10:=aU (es:=aA);have hr11:=hp.r11;have hc11:=hp.c11;have hl11:=aU (es:=aB);have hr13:=hp.r13;have hc13:=hp.c13;have hl13:=aU (es:=aD);have hr21:=hp.r21;have hc21:=hp.c21;have hl21:=aU (es:=aL);have hs5:=hr5.scal rfl;have hs6:=hr6.scal rfl;have hs7:=hr7.scal rfl;have hs8:=hr8.scal rfl;refine cb Ia4.B Tryz.func53 ?_
 intro O r F hO hr hF;cbv
 repeat' first|apply AT|(apply bi<;>intro hb<;>cbv)|(refine⟨[1,2,3,32,33,34],[1,2,3],Int×aa,fun s_=>match s_ with|(i,out)=>[.reg 34 (.j i),.leaf 3 9 ⟨0,0,none,.own (.s 1 out)⟩],fun s_=>match s_ with|(i,out)=>0<=i/\i<=(a9.length:Int)/\out=a9.take i.toNat,fun s_=>match s_ with|(i,out)=>a9.length-i.toNat,⟨(0,[]),?_,?_⟩,?_⟩;rotate_left;(focus (cbv;done));intro s_ hi;obtain⟨i,out⟩:=s_;replace hi:0<=i/\i<=(a9.length:Int)/\out=a9.take i.toNat:=hi;obtain⟨i0,i1,i2⟩:=hi;cbv)|(refine ab (O.ar .add .i64 i 1,O.cat out [[.s 1 (O.gs a9 i 0)]]) ?_ ?_ ?_;focus (cbv;done))
 all_goals exact Q6
theorem uj {a0 a1 a2:aa}{a3:Int}{a4 a5 a6 a7 a8 a9 aA aB:aa}{aC:Int}{aD:aa}{aE aF aG aH:Int}{aI:Bool}{aJ aK:Int}{aL:aa}{aM aN:Int}(hp:yk a0 a1 a2 a4 a5 a6 a7 a8 a9 aA aB aD aL):aw 41 [.agg (ji a0 a1 a2 a3 a4 a5 a6 a7 a8 a9 aA aB aC aD aE aF aG aH aI aJ aK aL aM aN)] [.agg (ji a0 a1 a2 a3 a4 a5 a6 a7 a8 a9 aA aB aC aD aE aF aG aH aI aJ aK aL aM aN)]:=by
 have hr0:=hp.r0;have hc0:=hp.c0;have hl0:=aU (es:=a0);have hr1:=hp.r1;have hc1:=hp.c1;have hl1:=aU (es:=a1);have hr2:=hp.r2;have hc2:=hp.c2;have hl2:=aU (es:=a2);have hr4:=hp.r4;have hc4:=hp.c4;have hl4:=aU (es:=a4);have hr5:=hp.r5;have hc5:=hp.c5;have hl5:=aU (es:=a5);have hr6:=hp.r6;have hc6:=hp.c6;have hl6:=aU (es:=a6);have hr7:=hp.r7;have hc7:=hp.c7;have hl7:=aU (es:=a7);have hr8:=hp.r8;have hc8:=hp.c8;have hl8:=aU (es:=a8);have hr9:=hp.r9;have hc9:=hp.c9;have hl9:=aU (es:=a9);have hr10:=hp.r10;have hc10:=hp.c10;have hl10:=aU (es:=aA);have hr11:=hp.r11;have hc11:=hp.c11;have hl11:=aU (es:=aB);have hr13:=hp.r13;have hc13:=hp.c13;have hl13:=aU (es:=aD);have hr21:=hp.r21;have hc21:=hp.c21;have hl21:=aU (es:=aL);have hs5:=hr5.scal rfl;have hs6:=hr6.scal rfl;have hs7:=hr7.scal rfl;have hs8:=hr8.scal rfl;refine cb Ia4.B Tryz.func41 ?_
 intro O r F hO hr hF;cbv
 repeat' first|apply AT|(apply bi<;>intro hb<;>cbv)|(refine⟨[1,2,3,4],[1,2,3],Int×aa,fun s_=>match s_ with|(i,out)=>[.reg 4 (.j i),.reg 3 (.one (.vw 3 0 0 0 (O.ln out))),.leaf 3 0 ⟨0,0,none,.own (.s 1 out)⟩],fun s_=>match s_ with|(i,out)=>0<=i/\i<=(a9.length:Int)/\out=a9.take i.toNat,fun s_=>match s_ with|(i,out)=>a9.length-i.toNat,⟨(0,[]),?_,?_⟩,?_⟩;rotate_left;(focus (cbv;done));intro s_ hi;obtain⟨i,out⟩:=s_;replace hi:0<=i/\i<=(a9.length:Int)/\out=a9.take i.toNat:=hi;obtain⟨i0,i1,i2⟩:=hi;cbv)|(refine ab (O.ar .add .i64 i 1,O.cat out [[.s 1 (O.gs a9 i 0)]]) ?_ ?_ ?_;focus (cbv;done))
 all_goals exact Q6
end Go.V