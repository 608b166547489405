/- Contracts. -/
import Derived.Test.YtcodmgmliopheaaGreatXW3
import Derived.Test.YtcodmgmliopheaaGreatXKerBt
set_option linter.all false
open Go
open And renaming intro->By
open List renaming length_take->acX,length_nil->ade,length_cons->ac7
namespace Go.V
open Go Go.Proofs
set_option maxRecDepth 1000000
set_option maxHeartbeats 8000000
abbrev QR :cW:=eF (fun F f=>match f with|222=>dT F|_=>fun _=>none) (by
 intro f;dsimp only;split;exact fP;exact cX)
def ed :EC:=fun F=>fun
 |[.agg [.s 2 es]]=>some (fun _=>Rw [tI,tI] es/\es.length<=1099511627776,[.agg [.s 2 es]])
 |_=>none
theorem vg :ec 378 ed:=by
 intro _ _ _ h hp;dsimp only[ed,F0]at h;split at h<;>cases h
 rename_i es;obtain⟨hw,hl⟩:=hp;have hs:=hw.scal rfl;refine cb QR Tryz.func378 ?_
 exact Tn
theorem zW :ec 365 ed:=by
 intro _ _ _ h hp;dsimp only[ed,F0]at h;split at h<;>cases h
 rename_i es;obtain⟨hw,hl⟩:=hp;have hs:=hw.scal rfl;refine cb QR Tryz.func365 ?_
 exact Tn
def gn :EC:=fun F=>fun
 |[.one (.s 2 es)]=>some (fun _=>Rw [tI,tI] es/\es.length<=1099511627776,[.one (.s 2 es)])
 |_=>none
theorem ny :ec 160 gn:=by
 intro _ _ _ h hp;dsimp only[gn,F0]at h;split at h<;>cases h
 rename_i es;obtain⟨hw,hl⟩:=hp;have hs:=hw.scal rfl;refine cb QR Tryz.func160 ?_
 exact Tn
def dp :EC:=fun F=>fun
 |[.agg [.v (.int .i64 r),.s 3 qs]]=>some (fun _=>Rw [tI,tI,tI] qs/\qs.length<=1099511627776,[.agg [.i r,.s 3 qs]])
 |_=>none
theorem pS :ec 163 dp:=by
 intro _ _ _ h hp;dsimp only[dp,F0]at h;split at h<;>cases h
 rename_i r qs;obtain⟨hw,hl⟩:=hp;have hs:=hw.scal rfl;refine cb QR Tryz.func163 ?_
 exact Tn
theorem qH :ec 132 dp:=by
 intro _ _ _ h hp;dsimp only[dp,F0]at h;split at h<;>cases h
 rename_i r qs;obtain⟨hw,hl⟩:=hp;have hs:=hw.scal rfl;refine cb QR Tryz.func132 ?_
 exact Tn
def Tryz.laysC15_ren :Go.Shelf.Ren:=⟨fun|15=>317|n=>n,fun|22=>31|3=>3|4=>4|n=>n,fun|n=>n⟩
theorem Tryz.laysC15 :Lays2.n15 Tryz.prog Tryz.laysC15_ren:=⟨by kernel_rfl,Tryz.func317.trans (congrArg some (by kernel_rfl)),Tryz.underlying3,Tryz.isAgg3,Tryz.sizeOf3,Tryz.zeroValue3,Tryz.underlying4,Tryz.isAgg4,Tryz.sizeOf4,Tryz.zeroValue4,Tryz.underlying31,Tryz.isAgg31,Tryz.sizeOf31,Tryz.zeroValue31,by kernel_rfl⟩
def fJ :EC:=fun F=>fun
 |[.one (.s 1 l)]=>some (fun _=>Rw [tI] l/\l.length<=1099511627776,[.one (.s 1 l)])
 |_=>none
theorem o9 :ec 317 fJ:=by
 intro _ _ _ h hp;dsimp only[fJ,F0]at h;split at h<;>cases h
 rename_i l;exact KD (Any.slices_Clone_int_nil Tryz.laysC15) (Any.slices_Clone_int_zero Tryz.laysC15) (Any.slices_Clone_int Tryz.laysC15) l hp
def fE :EC:=fun F=>fun
 |[.agg [.v (.int .i64 k),.v (.int .i64 m),.s 1 cs,.v (.int .i64 p),.v (.int .i64 n)]]=>some (fun _=>Rw [tI] cs/\cs.length<=1099511627776,[.agg [.i k,.i m,.s 1 cs,.i p,.i n]])
 |_=>none
theorem Ab :ec 133 fE:=by
 intro _ _ _ h hp;dsimp only[fE,F0]at h;split at h<;>cases h
 rename_i k m cs p n;obtain⟨hw,hl⟩:=hp;have hs:=hw.scal rfl;refine cb QR Tryz.func133 ?_
 exact Tn
def dR :EC:=fun F=>fun
 |[.agg [.s 1 cs,.s 1 us]]=>some (fun _=>Rw [.sl [tI]] cs/\Rw [tB] us/\ak cs<=1099511627776/\ak us<=1099511627776,[.agg [.s 1 cs,.s 1 us]])
 |_=>none
theorem tt :ec 377 dR:=by
 intro _ _ _ h hp;dsimp only[dR,F0]at h;split at h<;>cases h
 rename_i cs us;obtain⟨hc,hu,hn,hm⟩:=hp;have hs:=hu.scal rfl;have hl1:=av (es:=cs);have hl2:=av (es:=us);refine cb QR Tryz.func377 ?_
 intro O r F hO hr hF;cbv
 repeat' first|apply By|(apply bD<;>intro hb<;>cbv)|(refine⟨[2,3,12,13,14],[2,3],Int×aa,fun s_=>match s_ with|(i,out)=>[.reg 14 (.j i),.leaf 3 0 ⟨0,0,none,.own (.s 1 out)⟩],fun s_=>match s_ with|(i,out)=>0<=i/\i<=(cs.length:Int)/\out=cs.take i.toNat,fun s_=>match s_ with|(i,out)=>cs.length-i.toNat,⟨(0,[]),?_,?_⟩,?_⟩;rotate_left;(focus (cbv;done));intro s_ hi;obtain⟨i,out⟩:=s_;replace hi:0<=i/\i<=(cs.length:Int)/\out=cs.take i.toNat:=hi;obtain⟨i0,i1,i2⟩:=hi;cbv)|(refine ab (O.ar .add .i64 i 1,O.cat out [[.s 1 (O.gs cs i 0)]]) ?_ ?_ ?_;focus (cbv;done))
 all_goals(subst hO hr hF;(try simp only[nc]at*);(try simp only[ah,SS,sa,az]at*);(try rw[di (by omega) (by omega)]);(try(have hol:out.length=i.toNat:=(by rw[i2,acX];omega)));(try(have hsc:=rL hc i0 (by assumption);have hsl:=av (es:=ap cs i 0))))
 all_goals first|exact hs|omega|exact gp|(show aP _ _=true;kernel_rfl)|exact⟨by(first|assumption|exact Rw.sub (by first|assumption|exact Rw.sub (by assumption) (by omega) rfl) (by omega) rfl),by omega⟩|(simp only[ade,ac7];omega)|(rw[i2];exact(jf hc i0 (by assumption)).symm)|(rw[i2,je (by omega)];rfl)|exact⟨trivial,trivial⟩|trivial|exact rfl|trace_state
theorem zV :ec 364 dR:=by
 intro _ _ _ h hp;dsimp only[dR,F0]at h;split at h<;>cases h
 rename_i cs us;obtain⟨hc,hu,hn,hm⟩:=hp;have hs:=hu.scal rfl;have hl1:=av (es:=cs);have hl2:=av (es:=us);refine cb QR Tryz.func364 ?_
 intro O r F hO hr hF;cbv
 repeat' first|apply By|(apply bD<;>intro hb<;>cbv)|(refine⟨[1,2,3,4],[1,2,3],Int×aa,fun s_=>match s_ with|(i,out)=>[.reg 4 (.j i),.leaf 3 0 ⟨0,0,none,.own (.s 1 out)⟩],fun s_=>match s_ with|(i,out)=>0<=i/\i<=(cs.length:Int)/\out=cs.take i.toNat,fun s_=>match s_ with|(i,out)=>cs.length-i.toNat,⟨(0,[]),?_,?_⟩,?_⟩;rotate_left;(focus (cbv;done));intro s_ hi;obtain⟨i,out⟩:=s_;replace hi:0<=i/\i<=(cs.length:Int)/\out=cs.take i.toNat:=hi;obtain⟨i0,i1,i2⟩:=hi;cbv)|(refine ab (O.ar .add .i64 i 1,O.cat out [[.s 1 (O.gs cs i 0)]]) ?_ ?_ ?_;focus (cbv;done))|(refine ab (O.ar .add .i64 i 1,O.cat out [[.s 1 (O.cat [] (O.gs cs i 0))]]) ?_ ?_ ?_;focus (cbv;done))
 all_goals(subst hO hr hF;(try simp only[nc]at*);(try simp only[ah,SS,sa,az]at*);(try rw[di (by omega) (by omega)]);(try(have hol:out.length=i.toNat:=(by rw[i2,acX];omega)));(try(have hsc:=rL hc i0 (by assumption);have hsl:=av (es:=ap cs i 0))))
 all_goals first|exact hs|exact Rw.scal (fs:=[tI]) (by(first|assumption|exact Rw.sub (by first|assumption|exact Rw.sub (by assumption) (by omega) rfl) (by omega) rfl)) rfl|omega|exact gp|(show aP _ _=true;kernel_rfl)|exact⟨by(first|assumption|exact Rw.sub (by first|assumption|exact Rw.sub (by assumption) (by omega) rfl) (by omega) rfl),by omega⟩|(simp only[ade,ac7];omega)|(rw[i2];exact(jf hc i0 (by assumption)).symm)|(rw[i2,List.nil_append];exact(jf hc i0 (by assumption)).symm)|(rw[i2,je (by omega)];rfl)|exact⟨trivial,trivial⟩|trivial|exact rfl|trace_state
abbrev Ia1 :cW:=eF (fun F f=>match f with|377=>dR F|378=>ed F|364=>dR F|365=>ed F|317=>fJ F|_=>fun _=>none) (by
 intro f;dsimp only;split;exact tt;exact vg;exact zV;exact zW;exact o9;exact cX)
def dB :EC:=fun F=>fun
 |[.agg [.s 1 cs,.s 1 us,.s 2 es]]=>some (fun _=>Rw [.sl [tI]] cs/\Rw [tB] us/\Rw [tI,tI] es/\ak cs<=1099511627776/\ak us<=1099511627776/\ak es<=1099511627776,[.agg [.s 1 cs,.s 1 us,.s 2 es]])
 |_=>none
theorem sB :ec 283 dB:=by
 intro _ _ _ h hp;dsimp only[dB,F0]at h;split at h<;>cases h
 rename_i cs us es;obtain⟨hc,hu,he,hn,hm,hk⟩:=hp;have hl:=av (es:=es);refine cb Ia1 Tryz.func283 ?_
 exact aa2
theorem zX :ec 262 dB:=by
 intro _ _ _ h hp;dsimp only[dB,F0]at h;split at h<;>cases h
 rename_i cs us es;obtain⟨hc,hu,he,hn,hm,hk⟩:=hp;have hl:=av (es:=es);refine cb Ia1 Tryz.func262 ?_
 exact aa2
def kB :EC:=fun F=>fun
 |[.agg [.v (.int .i64 k),.v (.int .i64 m),.s 1 cs]]=>some (fun _=>Rw [tI] cs/\cs.length<=1099511627776,[.agg [.i k,.i m,.s 1 cs]])
 |_=>none
theorem xp :ec 212 kB:=by
 intro _ _ _ h hp;dsimp only[kB,F0]at h;split at h<;>cases h
 rename_i k m cs;obtain⟨hw,hl⟩:=hp;have hs:=hw.scal rfl;refine cb Ia1 Tryz.func212 ?_
 exact Tn
abbrev Ia2 :cW:=eF (fun F f=>match f with|283=>dB F|262=>dB F|222=>dT F|212=>kB F|_=>fun _=>none) (by
 intro f;dsimp only;split;exact sB;exact zX;exact fP;exact xp;exact cX)
def cZ :EC:=fun F=>fun
 |[.agg [.s 1 cs,.s 1 us,.s 2 es,.v (.int .i64 c),.s 1 rs]]=>some (fun _=>Rw [.sl [tI]] cs/\Rw [tB] us/\Rw [tI,tI] es/\Rw [tI] rs/\ak cs<=1099511627776/\ak us<=1099511627776/\ak es<=1099511627776/\ak rs<=1099511627776,[.agg [.s 1 cs,.s 1 us,.s 2 es,.i c,.s 1 rs]])
 |_=>none
theorem nu :ec 159 cZ:=by
 intro _ _ _ h hp;dsimp only[cZ,F0]at h;split at h<;>cases h
 rename_i cs us es c rs;obtain⟨hc,hu,he,hr,hn,hm,hk,hl⟩:=hp;have l1:=av (es:=rs);have hs:=hr.scal rfl;refine cb Ia2 Tryz.func159 ?_
 exact aaY
theorem zY :ec 129 cZ:=by
 intro _ _ _ h hp;dsimp only[cZ,F0]at h;split at h<;>cases h
 rename_i cs us es c rs;obtain⟨hc,hu,he,hr,hn,hm,hk,hl⟩:=hp;have l1:=av (es:=rs);have hs:=hr.scal rfl;refine cb Ia2 Tryz.func129 ?_
 exact aaY
theorem zd :ec 164 fE:=by
 intro _ _ _ h hp;dsimp only[fE,F0]at h;split at h<;>cases h
 rename_i k m cs p n;obtain⟨hw,hl⟩:=hp;have hs:=hw.scal rfl;refine cb Ia2 Tryz.func164 ?_
 exact Tn
abbrev Ia3 :cW:=eF (fun F f=>match f with|222=>dT F|_=>fun _=>none) (by
 intro f;dsimp only;split;exact fP;exact cX)
def cn :EC:=fun F=>fun
 |[.agg [.s 1 ls]]=>some (fun _=>Rw [.sl [tI]] ls/\ak ls<=1099511627776,[.agg [.s 1 ls]])
 |_=>none
theorem js :ec 161 cn:=by
 intro _ _ _ h hp;dsimp only[cn,F0]at h;split at h<;>cases h
 rename_i ls;obtain⟨hc,hn⟩:=hp;have hl1:=av (es:=ls);refine cb Ia3 Tryz.func161 ?_
 intro O r F hO hr hF;cbv
 repeat' first|apply By|(apply bD<;>intro hb<;>cbv)|(refine⟨[2,3,8,9,10],[2,3],Int×aa,fun s_=>match s_ with|(i,out)=>[.reg 10 (.j i),.leaf 3 0 ⟨0,0,none,.own (.s 1 out)⟩],fun s_=>match s_ with|(i,out)=>0<=i/\i<=(ls.length:Int)/\out=ls.take i.toNat,fun s_=>match s_ with|(i,out)=>ls.length-i.toNat,⟨(0,[]),?_,?_⟩,?_⟩;rotate_left;(focus (cbv;done));intro s_ hi;obtain⟨i,out⟩:=s_;replace hi:0<=i/\i<=(ls.length:Int)/\out=ls.take i.toNat:=hi;obtain⟨i0,i1,i2⟩:=hi;cbv)|(refine ab (O.ar .add .i64 i 1,O.cat out [[.s 1 (O.gs ls i 0)]]) ?_ ?_ ?_;focus (cbv;done))|(refine ab (O.ar .add .i64 i 1,O.cat out [[.s 1 (O.cat [] (O.gs ls i 0))]]) ?_ ?_ ?_;focus (cbv;done))
 all_goals exact aaA
theorem lX :ec 130 cn:=by
 intro _ _ _ h hp;dsimp only[cn,F0]at h;split at h<;>cases h
 rename_i ls;obtain⟨hc,hn⟩:=hp;have hl1:=av (es:=ls);refine cb Ia3 Tryz.func130 ?_
 intro O r F hO hr hF;cbv
 repeat' first|apply By|(apply bD<;>intro hb<;>cbv)|(refine⟨[1,2,3,4],[1,2,3],Int×aa,fun s_=>match s_ with|(i,out)=>[.reg 4 (.j i),.leaf 3 0 ⟨0,0,none,.own (.s 1 out)⟩],fun s_=>match s_ with|(i,out)=>0<=i/\i<=(ls.length:Int)/\out=ls.take i.toNat,fun s_=>match s_ with|(i,out)=>ls.length-i.toNat,⟨(0,[]),?_,?_⟩,?_⟩;rotate_left;(focus (cbv;done));intro s_ hi;obtain⟨i,out⟩:=s_;replace hi:0<=i/\i<=(ls.length:Int)/\out=ls.take i.toNat:=hi;obtain⟨i0,i1,i2⟩:=hi;cbv)|(refine ab (O.ar .add .i64 i 1,O.cat out [[.s 1 (O.gs ls i 0)]]) ?_ ?_ ?_;focus (cbv;done))|(refine ab (O.ar .add .i64 i 1,O.cat out [[.s 1 (O.cat [] (O.gs ls i 0))]]) ?_ ?_ ?_;focus (cbv;done))
 all_goals exact aaA
def dm :EC:=fun F=>fun
 |[.agg [.s 1 b,.s 1 x]]=>some (fun _=>Rw [.sl [tI,tI]] b/\Rw [.sl [tI]] x/\ak b<=1099511627776/\ak x<=1099511627776,[.agg [.s 1 b,.s 1 x]])
 |_=>none
theorem pR :ec 162 dm:=by
 intro _ _ _ h hp;dsimp only[dm,F0]at h;split at h<;>cases h
 rename_i b x;obtain⟨wb,wx,nb,nx⟩:=hp;have hl1:=av (es:=b);have hl2:=av (es:=x);refine cb Ia3 Tryz.func162 ?_
 intro O r F hO hr hF;cbv
 repeat' first|apply By|(apply bD<;>intro hb<;>cbv)|(refine⟨[1,2,3,10,11,12],[1,2,3],Int×aa,fun s_=>match s_ with|(i,out)=>[.reg 12 (.j i),.leaf 3 0 ⟨0,0,none,.own (.s 1 out)⟩],fun s_=>match s_ with|(i,out)=>0<=i/\i<=(b.length:Int)/\out=b.take i.toNat,fun s_=>match s_ with|(i,out)=>b.length-i.toNat,⟨(0,[]),?_,?_⟩,?_⟩;rotate_left;(focus (cbv;done));intro s_ hi;obtain⟨i,out⟩:=s_;replace hi:0<=i/\i<=(b.length:Int)/\out=b.take i.toNat:=hi;obtain⟨i0,i1,i2⟩:=hi;cbv)|(refine⟨[2,3,26,27,28],[2,3],Int×aa,fun s_=>match s_ with|(k,ou2)=>[.reg 28 (.j k),.leaf 3 1 ⟨0,0,none,.own (.s 1 ou2)⟩],fun s_=>match s_ with|(k,ou2)=>0<=k/\k<=(x.length:Int)/\ou2=x.take k.toNat,fun s_=>match s_ with|(k,ou2)=>x.length-k.toNat,⟨(0,[]),?_,?_⟩,?_⟩;rotate_left;(focus (cbv;done));intro s_ hk;obtain⟨k,ou2⟩:=s_;replace hk:0<=k/\k<=(x.length:Int)/\ou2=x.take k.toNat:=hk;obtain⟨k0,k1,k2⟩:=hk;cbv)|(refine ab (O.ar .add .i64 i 1,O.cat out [[.s 2 (O.cat [] (O.gs b i 0))]]) ?_ ?_ ?_;focus (cbv;done))|(refine ab (O.ar .add .i64 k 1,O.cat ou2 [[.s 1 (O.gs x k 0)]]) ?_ ?_ ?_;focus (cbv;done))|(refine ab (O.ar .add .i64 k 1,O.cat ou2 [[.s 1 (O.cat [] (O.gs x k 0))]]) ?_ ?_ ?_;focus (cbv;done))
 all_goals exact aaw
theorem qG :ec 131 dm:=by
 intro _ _ _ h hp;dsimp only[dm,F0]at h;split at h<;>cases h
 rename_i b x;obtain⟨wb,wx,nb,nx⟩:=hp;have hl1:=av (es:=b);have hl2:=av (es:=x);refine cb Ia3 Tryz.func131 ?_
 intro O r F hO hr hF;cbv
 repeat' first|apply By|(apply bD<;>intro hb<;>cbv)|(refine⟨[1,2,3,4],[1,2,3],Int×aa,fun s_=>match s_ with|(i,out)=>[.reg 4 (.j i),.leaf 3 0 ⟨0,0,none,.own (.s 1 out)⟩],fun s_=>match s_ with|(i,out)=>0<=i/\i<=(b.length:Int)/\out=b.take i.toNat,fun s_=>match s_ with|(i,out)=>b.length-i.toNat,⟨(0,[]),?_,?_⟩,?_⟩;rotate_left;(focus (cbv;done));intro s_ hi;obtain⟨i,out⟩:=s_;replace hi:0<=i/\i<=(b.length:Int)/\out=b.take i.toNat:=hi;obtain⟨i0,i1,i2⟩:=hi;cbv)|(refine⟨[1,2,3,5],[1,2,3],Int×aa,fun s_=>match s_ with|(k,ou2)=>[.reg 5 (.j k),.leaf 3 1 ⟨0,0,none,.own (.s 1 ou2)⟩],fun s_=>match s_ with|(k,ou2)=>0<=k/\k<=(x.length:Int)/\ou2=x.take k.toNat,fun s_=>match s_ with|(k,ou2)=>x.length-k.toNat,⟨(0,[]),?_,?_⟩,?_⟩;rotate_left;(focus (cbv;done));intro s_ hk;obtain⟨k,ou2⟩:=s_;replace hk:0<=k/\k<=(x.length:Int)/\ou2=x.take k.toNat:=hk;obtain⟨k0,k1,k2⟩:=hk;cbv)|(refine ab (O.ar .add .i64 i 1,O.cat out [[.s 2 (O.cat [] (O.gs b i 0))]]) ?_ ?_ ?_;focus (cbv;done))|(refine ab (O.ar .add .i64 k 1,O.cat ou2 [[.s 1 (O.gs x k 0)]]) ?_ ?_ ?_;focus (cbv;done))|(refine ab (O.ar .add .i64 k 1,O.cat ou2 [[.s 1 (O.cat [] (O.gs x k 0))]]) ?_ ?_ ?_;focus (cbv;done))
 all_goals exact aaw
abbrev Ia4 :cW:=eF (fun F f=>match f with|159=>cZ F|160=>gn F|161=>cn F|162=>dm F|163=>dp F|164=>fE F|129=>cZ F|130=>cn F|131=>dm F|132=>dp F|133=>fE F|_=>fun _=>none) (by
 intro f;dsimp only;split;exact nu;exact ny;exact js;exact pR;exact pS;exact zd;exact zY;exact lX;exact qG;exact qH;exact Ab;exact cX)
def cE :EC:=fun F=>fun
 |[.agg hl_]=>hL hl_ fun a0 a1 a2 a3 a4 a5 a6 a7 a8 a9 aA aB aC aD aE aF aG aH aI aJ aK aL aM aN=>(fun _=>rT a0 a1 a2 a4 a5 a6 a7 a8 a9 aA aB aD aL,[.agg (UF a0 a1 a2 a3 a4 a5 a6 a7 a8 a9 aA aB aC aD aE aF aG aH aI aJ aK aL aM aN)])
 |_=>none
theorem ko :ec 53 cE:=by
 intro _ _ _ h hp;dsimp only[cE,F0,hL]at h;split at h;rotate_left;cases h;split at h<;>cases h
 rename_i a0 a1 a2 a3 a4 a5 a6 a7 a8 a9 aA aB aC aD aE aF aG aH aI aJ aK aL aM aN;have hr0:=hp.r0;have hc0:=hp.c0;have hl0:=av (es:=a0);have hr1:=hp.r1;have hc1:=hp.c1;have hl1:=av (es:=a1);have hr2:=hp.r2;have hc2:=hp.c2;have hl2:=av (es:=a2);have hr4:=hp.r4;have hc4:=hp.c4;have hl4:=av (es:=a4);have hr5:=hp.r5;have hc5:=hp.c5;have hl5:=av (es:=a5);have hr6:=hp.r6;have hc6:=hp.c6;have hl6:=av (es:=a6);have hr7:=hp.r7;have hc7:=hp.c7;have hl7:=av (es:=a7);have hr8:=hp.r8;have hc8:=hp.c8;have hl8:=av (es:=a8);have hr9:=hp.r9;have hc9:=hp.c9;have hl9:=av (es:=a9);have hr10:=hp.r10;have hc10:=hp.c10;have hl10:=av (es:=aA);have hr11:=hp.r11;have hc11:=hp.c11;have hl11:=av (es:=aB);have hr13:=hp.r13;have hc13:=hp.c13;have hl13:=av (es:=aD);have hr21:=hp.r21;have hc21:=hp.c21;have hl21:=av (es:=aL);have hs5:=hr5.scal rfl;have hs6:=hr6.scal rfl;have hs7:=hr7.scal rfl;have hs8:=hr8.scal rfl;refine cb Ia4 Tryz.func53 ?_
 intro O r F hO hr hF;cbv
 repeat' first|apply By|(apply bD<;>intro hb<;>cbv)|(refine⟨[1,2,3,32,33,34],[1,2,3],Int×aa,fun s_=>match s_ with|(i,out)=>[.reg 34 (.j i),.leaf 3 9 ⟨0,0,none,.own (.s 1 out)⟩],fun s_=>match s_ with|(i,out)=>0<=i/\i<=(a9.length:Int)/\out=a9.take i.toNat,fun s_=>match s_ with|(i,out)=>a9.length-i.toNat,⟨(0,[]),?_,?_⟩,?_⟩;rotate_left;(focus (cbv;done));intro s_ hi;obtain⟨i,out⟩:=s_;replace hi:0<=i/\i<=(a9.length:Int)/\out=a9.take i.toNat:=hi;obtain⟨i0,i1,i2⟩:=hi;cbv)|(refine ab (O.ar .add .i64 i 1,O.cat out [[.s 1 (O.gs a9 i 0)]]) ?_ ?_ ?_;focus (cbv;done))
 all_goals exact aaD
theorem lY :ec 41 cE:=by
 intro _ _ _ h hp;dsimp only[cE,F0,hL]at h;split at h;rotate_left;cases h;split at h<;>cases h
 rename_i a0 a1 a2 a3 a4 a5 a6 a7 a8 a9 aA aB aC aD aE aF aG aH aI aJ aK aL aM aN;have hr0:=hp.r0;have hc0:=hp.c0;have hl0:=av (es:=a0);have hr1:=hp.r1;have hc1:=hp.c1;have hl1:=av (es:=a1);have hr2:=hp.r2;have hc2:=hp.c2;have hl2:=av (es:=a2);have hr4:=hp.r4;have hc4:=hp.c4;have hl4:=av (es:=a4);have hr5:=hp.r5;have hc5:=hp.c5;have hl5:=av (es:=a5);have hr6:=hp.r6;have hc6:=hp.c6;have hl6:=av (es:=a6);have hr7:=hp.r7;have hc7:=hp.c7;have hl7:=av (es:=a7);have hr8:=hp.r8;have hc8:=hp.c8;have hl8:=av (es:=a8);have hr9:=hp.r9;have hc9:=hp.c9;have hl9:=av (es:=a9);have hr10:=hp.r10;have hc10:=hp.c10;have hl10:=av (es:=aA);have hr11:=hp.r11;have hc11:=hp.c11;have hl11:=av (es:=aB);have hr13:=hp.r13;have hc13:=hp.c13;have hl13:=av (es:=aD);have hr21:=hp.r21;have hc21:=hp.c21;have hl21:=av (es:=aL);have hs5:=hr5.scal rfl;have hs6:=hr6.scal rfl;have hs7:=hr7.scal rfl;have hs8:=hr8.scal rfl;refine cb Ia4 Tryz.func41 ?_
 intro O r F hO hr hF;cbv
 repeat' first|apply By|(apply bD<;>intro hb<;>cbv)|(refine⟨[1,2,3,4],[1,2,3],Int×aa,fun s_=>match s_ with|(i,out)=>[.reg 4 (.j i),.reg 3 (.one (.vw 3 0 0 0 (O.ln out))),.leaf 3 0 ⟨0,0,none,.own (.s 1 out)⟩],fun s_=>match s_ with|(i,out)=>0<=i/\i<=(a9.length:Int)/\out=a9.take i.toNat,fun s_=>match s_ with|(i,out)=>a9.length-i.toNat,⟨(0,[]),?_,?_⟩,?_⟩;rotate_left;(focus (cbv;done));intro s_ hi;obtain⟨i,out⟩:=s_;replace hi:0<=i/\i<=(a9.length:Int)/\out=a9.take i.toNat:=hi;obtain⟨i0,i1,i2⟩:=hi;cbv)|(refine ab (O.ar .add .i64 i 1,O.cat out [[.s 1 (O.gs a9 i 0)]]) ?_ ?_ ?_;focus (cbv;done))
 all_goals exact aaD
end Go.V