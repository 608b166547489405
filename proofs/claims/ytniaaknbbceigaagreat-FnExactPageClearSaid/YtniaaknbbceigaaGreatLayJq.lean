/-
  Contracts, by evaluation.
-/
import Derived.Test.YtniaaknbbceigaaGreatS10
import Derived.Test.YtniaaknbbceigaaGreatHB
import Derived.Test.YtniaaknbbceigaaGreatLayIq
set_option linter.all false
namespace Go.V
open Go Go.Proofs
set_option maxRecDepth 1000000
set_option maxHeartbeats 8000000
namespace Lj1
structure Fns where
 mailOk:List (List L)->List (List L)->Bool
def F0 :Fns:=⟨mailOk⟩
def ct (F:Fns):CT:=fun f ds=>match f,ds with
 |146,[.agg [.s 1 b,.s 1 x]]=>some (fun _=>uV b x,[.one (.v (.bool (F.mailOk b x)))])
 |123,[.agg [.s 1 b,.s 1 x]]=>some (fun _=>uV b x,[.one (.v (.bool (F.mailOk b x)))])
 |_,_=>none
theorem ak :aW Tryz.prog (ct F0):=by
 intro f ds pre res h hp;unfold ct at h;split at h<;>(try split at h)<;>cases h
 exact kW _ _ hp;exact kX _ _ hp
def B :TB Tryz.prog:=tb ak
end Lj1
theorem ji (b x:List (List L))(hp:uV b x):aP Tryz.prog 97 [.agg [.s 1 b,.s 1 x]] [.one (.s 1 (ifL b x))]:=by
 have hbw:=hp.bw;have hxw:=hp.xw;have hbl:=hp.bl;have hxl:=hp.xl;refine ai Lj1.B ag mixed 46 _ [31] [.tmp 2] Tryz.func97 rfl rfl rfl rfl rfl ?_;intro O r (F:Lj1.Fns) hO hr (hF:F=Lj1.F0);cbv
 repeat' first|refine And.intro ?_ ?_|(refine aG (fun hb=>?_) (fun hb=>?_)<;>cbv)|(refine⟨[1,3,15,16,17],[1,3],Int×List (List L),fun s_=>match s_ with|(i,o)=>[.reg 17 (.one (.v (.int .i64 i))),.reg 3 (.one (.vw 3 0 0 0 (O.ln o))),.leaf 3 0 ⟨0,0,none,.own (.s 1 o)⟩],fun s_=>match s_ with|(i,o)=>0<=i/\i<=(b.length:Int)/\Iy b i o,fun s_=>match s_ with|(i,o)=>b.length-i.toNat,⟨(0,[]),?_,?_⟩,?_⟩;rotate_left;(focus (cbv;done));intro s_ hi;obtain⟨i,o⟩:=s_;replace hi:0<=i/\i<=(b.length:Int)/\Iy b i o:=hi;obtain⟨i0,i1,i2⟩:=hi;cbv)|(refine⟨[1,3,15,16,17,21,22,23],[1,3],Int×List (List L),fun s_=>match s_ with|(k,o1)=>[.reg 23 (.one (.v (.int .i64 k))),.reg 3 (.one (.vw 3 0 0 0 (O.ln o1))),.leaf 3 0 ⟨0,0,none,.own (.s 1 o1)⟩],fun s_=>match s_ with|(k,o1)=>0<=k/\k<=((ay b i 0).length:Int)/\Iz b i k o1,fun s_=>match s_ with|(k,o1)=>(ay b i 0).length-k.toNat,⟨(0,o),?_,?_⟩,?_⟩;rotate_left;(focus (cbv;done));intro s_ hk;obtain⟨k,o1⟩:=s_;replace hk:0<=k/\k<=((ay b i 0).length:Int)/\Iz b i k o1:=hk;obtain⟨k0,k1,k2⟩:=hk;cbv)|(refine⟨[3,35,36,37],[3],Int×List (List L),fun s_=>match s_ with|(j,o2)=>[.reg 37 (.one (.v (.int .i64 j))),.reg 3 (.one (.vw 3 0 0 0 (O.ln o2))),.leaf 3 0 ⟨0,0,none,.own (.s 1 o2)⟩],fun s_=>match s_ with|(j,o2)=>0<=j/\j<=(x.length:Int)/\IA b x j o2,fun s_=>match s_ with|(j,o2)=>x.length-j.toNat,⟨(0,o),?_,?_⟩,?_⟩;rotate_left;(focus (cbv;done));intro s_ hj;obtain⟨j,o2⟩:=s_;replace hj:0<=j/\j<=(x.length:Int)/\IA b x j o2:=hj;obtain⟨j0,j1,j2⟩:=hj;cbv)|(refine aa (O.ar .add .i64 k 1,O.cat o1 (O.sub [[.v (.int .i64 (O.gi (O.gs b i 0) k 1))]] 0 (O.ln [[.v (.int .i64 (O.gi (O.gs b i 0) k 1))]]))) ?_ ?_ ?_;rotate_left 2;focus (cbv;done))|(refine aa (O.ar .add .i64 i 1,o1) ?_ ?_ ?_;rotate_left 2;focus (cbv;done))|(refine aa (O.ar .add .i64 j 1,O.cat o2 (O.gs x j 0)) ?_ ?_ ?_;rotate_left 2;focus (cbv;done))
 all_goals(subst hO hr hF;(try simp only[af,SS,sa,az]at*);(try simp only[nc]at*);(try simp only[aF]at*))
 all_goals(try simp only[Lj1.F0]at*)
 all_goals try rw[bD (by omega) (by omega)]
 all_goals(try have z:=HS (by assumption))
 all_goals(try have y1:=hp.bn i)
 all_goals(try have y2:=hp.xn j)
 all_goals(try have z6:aV .add .i64 k 1=k+1:=aB (by omega))
 all_goals(try simp only[z6]at*)
 all_goals first
  | (show(_:List DV)=_
     first
      |(refine eQ ?_;exact NX (by assumption))
      |(refine eQ ?_;exact Ek j2 (by assumption) j1 (by assumption))
      |done)
  |omega
  |(refine⟨by omega,by omega,(Rw.eta (by first|assumption|exact Rw.sub (by first|assumption|exact Rw.sub (by assumption) (by omega) rfl) (by omega) rfl) (by omega) (by omega)).trans ?_⟩;rfl)
  |exact Rw.scal (Rw.sub (fs:=[.sl [tI]]) hxw (by omega) rfl) rfl
  |(have q:=k2.l;constructor<;>(simp only[List.length_cons,List.length_nil];omega))
  |(have q:=j2.l;constructor<;>omega)
  |exact Ji k2 k0
  |exact Ed k2 i0 y1 k1 (by omega)
  |exact Np i2
  |exact Ns i2 i1 (by omega)
  |exact Jo j2 j0 y2
  |exact Nj
  |exact⟨True.intro,True.intro⟩
  |done
theorem jn (b x:List (List L))(hp:uV b x):aP Tryz.prog 90 [.agg [.s 1 b,.s 1 x]] [.one (.s 1 (ifL b x))]:=by
 have hbw:=hp.bw;have hxw:=hp.xw;have hbl:=hp.bl;have hxl:=hp.xl;refine ai Lj1.B ag mixed 56 _ [31] [.tmp 2] Tryz.func90 rfl rfl rfl rfl rfl ?_;intro O r (F:Lj1.Fns) hO hr (hF:F=Lj1.F0);cbv
 repeat' first|refine And.intro ?_ ?_|(refine aG (fun hb=>?_) (fun hb=>?_)<;>cbv)|(refine⟨[1,3,4],[1,3],Int×List (List L),fun s_=>match s_ with|(i,o)=>[.reg 4 (.one (.v (.int .i64 i))),.reg 3 (.one (.vw 3 0 0 0 (O.ln o))),.leaf 3 0 ⟨0,0,none,.own (.s 1 o)⟩],fun s_=>match s_ with|(i,o)=>0<=i/\i<=(b.length:Int)/\Iy b i o,fun s_=>match s_ with|(i,o)=>b.length-i.toNat,⟨(0,[]),?_,?_⟩,?_⟩;rotate_left;(focus (cbv;done));intro s_ hi;obtain⟨i,o⟩:=s_;replace hi:0<=i/\i<=(b.length:Int)/\Iy b i o:=hi;obtain⟨i0,i1,i2⟩:=hi;cbv)|(refine⟨[1,3,4,5],[1,3],Int×List (List L),fun s_=>match s_ with|(k,o1)=>[.reg 5 (.one (.v (.int .i64 k))),.reg 3 (.one (.vw 3 0 0 0 (O.ln o1))),.leaf 3 0 ⟨0,0,none,.own (.s 1 o1)⟩],fun s_=>match s_ with|(k,o1)=>0<=k/\k<=((ay b i 0).length:Int)/\Iz b i k o1,fun s_=>match s_ with|(k,o1)=>(ay b i 0).length-k.toNat,⟨(0,o),?_,?_⟩,?_⟩;rotate_left;(focus (cbv;done));intro s_ hk;obtain⟨k,o1⟩:=s_;replace hk:0<=k/\k<=((ay b i 0).length:Int)/\Iz b i k o1:=hk;obtain⟨k0,k1,k2⟩:=hk;cbv)|(refine⟨[1,3,6],[1,3],Int×List (List L),fun s_=>match s_ with|(j,o2)=>[.reg 6 (.one (.v (.int .i64 j))),.reg 3 (.one (.vw 3 0 0 0 (O.ln o2))),.leaf 3 0 ⟨0,0,none,.own (.s 1 o2)⟩],fun s_=>match s_ with|(j,o2)=>0<=j/\j<=(x.length:Int)/\IA b x j o2,fun s_=>match s_ with|(j,o2)=>x.length-j.toNat,⟨(0,o),?_,?_⟩,?_⟩;rotate_left;(focus (cbv;done));intro s_ hj;obtain⟨j,o2⟩:=s_;replace hj:0<=j/\j<=(x.length:Int)/\IA b x j o2:=hj;obtain⟨j0,j1,j2⟩:=hj;cbv)|(refine aa (O.ar .add .i64 k 1,O.cat o1 (O.sub [[.v (.int .i64 (O.gi (O.gs b i 0) k 1))]] 0 (O.ln [[.v (.int .i64 (O.gi (O.gs b i 0) k 1))]]))) ?_ ?_ ?_;rotate_left 2;focus (cbv;done))|(refine aa (O.ar .add .i64 i 1,o1) ?_ ?_ ?_;rotate_left 2;focus (cbv;done))|(refine aa (O.ar .add .i64 j 1,O.cat o2 (O.gs x j 0)) ?_ ?_ ?_;rotate_left 2;focus (cbv;done))
 all_goals(subst hO hr hF;(try simp only[af,SS,sa,az]at*);(try simp only[nc]at*);(try simp only[aF]at*))
 all_goals(try simp only[Lj1.F0]at*)
 all_goals try rw[bD (by omega) (by omega)]
 all_goals(try have z9:aV .add .i64 j 1=j+1:=aB (by omega))
 all_goals(try have z8:aV .add .i64 i 1=i+1:=aB (by omega))
 all_goals(try simp only[z9]at*)
 all_goals(try simp only[z8]at*)
 all_goals(try have z:=HS (by assumption))
 all_goals(try have y1:=hp.bn i)
 all_goals(try have y2:=hp.xn j)
 all_goals(try have z6:aV .add .i64 k 1=k+1:=aB (by omega))
 all_goals(try simp only[z6]at*)
 all_goals first
  | (show(_:List DV)=_
     first
      |(refine eQ ?_;exact NX (by assumption))
      |(refine eQ ?_;exact Ek j2 (by assumption) j1 (by assumption))
      |done)
  |omega
  |(refine⟨by omega,by omega,(Rw.eta (by first|assumption|exact Rw.sub (by first|assumption|exact Rw.sub (by assumption) (by omega) rfl) (by omega) rfl) (by omega) (by omega)).trans ?_⟩;rfl)
  |exact Rw.scal (Rw.sub (fs:=[.sl [tI]]) hxw (by omega) rfl) rfl
  |(have q:=k2.l;constructor<;>(simp only[List.length_cons,List.length_nil];omega))
  |(have q:=j2.l;constructor<;>omega)
  |exact Ji k2 k0
  |exact Ed k2 i0 y1 k1 (by omega)
  |exact Np i2
  |exact Ns i2 i1 (by omega)
  |exact Jo j2 j0 y2
  |exact Nj
  |exact⟨True.intro,True.intro⟩
  |done
end Go.V