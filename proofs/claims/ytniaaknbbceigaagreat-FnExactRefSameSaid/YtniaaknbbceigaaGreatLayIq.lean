/-
  Contracts, by evaluation.
-/
import Derived.Test.YtniaaknbbceigaaGreatS10
import Derived.Test.YtniaaknbbceigaaGreatHB
import Derived.Test.YtniaaknbbceigaaGreatLayHq
set_option linter.all false
namespace Go.V
open Go Go.Proofs
set_option maxRecDepth 1000000
set_option maxHeartbeats 8000000
namespace Li1
structure Fns where
 inR:Int->Int->Int->Bool
def F0 :Fns:=⟨inR⟩
def ct (F:Fns):CT:=fun f ds=>match f,ds with
 |152,[.one (.v (.int .i64 x)),.one (.v (.int .i64 a)),.one (.v (.int .i64 b))]=>some (fun _=>True,[.one (.v (.bool (F.inR x a b)))])
 |126,[.one (.v (.int .i64 x)),.one (.v (.int .i64 a)),.one (.v (.int .i64 b))]=>some (fun _=>True,[.one (.v (.bool (F.inR x a b)))])
 |_,_=>none
theorem ak :aW Tryz.prog (ct F0):=by
 intro f ds pre res h hp;unfold ct at h;split at h<;>(try split at h)<;>cases h
 exact aN _ _ _ hp;exact aU _ _ _ hp
def B :TB Tryz.prog:=tb ak
end Li1
theorem kW (b x:List (List L))(hp:uV b x):aP Tryz.prog 146 [.agg [.s 1 b,.s 1 x]] [.one (.v (.bool (mailOk b x)))]:=by
 have hbw:=hp.bw;have hxw:=hp.xw;have hbl:=hp.bl;have hxl:=hp.xl;have hsb:aV .sub .i64 (b.length:Int) 1=b.length-1:=cH (by omega);refine ai Li1.B ag mixed 82 _ [4] [.tmp 2] Tryz.func146 rfl rfl rfl rfl rfl ?_;intro O r (F:Li1.Fns) hO hr (hF:F=Li1.F0);cbv
 repeat' first|refine And.intro ?_ ?_|(refine aG (fun hb=>?_) (fun hb=>?_)<;>cbv)|(refine⟨[1,3,4,25,26],[1],Int×Int,fun s_=>match s_ with|(i,t)=>[.reg 26 (.one (.v (.int .i64 i))),.reg 4 (.one (.v (.int .i64 t)))],fun s_=>match s_ with|(i,t)=>0<=i/\i<=(b.length:Int)/\GY b x i t,fun s_=>match s_ with|(i,t)=>b.length-i.toNat,⟨(0,0),?_,?_⟩,?_⟩;rotate_left;(focus (cbv;done));intro s_ hi;obtain⟨i,t⟩:=s_;replace hi:0<=i/\i<=(b.length:Int)/\GY b x i t:=hi;obtain⟨i0,i1,i2⟩:=hi;cbv)|(refine⟨[1,3,4,5,25,26,33,34,35],[1],Int,fun k=>[.reg 35 (.one (.v (.int .i64 k)))],fun k=>0<=k/\k<=(((ay b i 0).length:Nat):Int)/\upto (CO b i) k,fun k=>((ay b i 0).length)-k.toNat,⟨0,?_,?_⟩,?_⟩;rotate_left;(focus (cbv;done));intro k hk;replace hk:0<=k/\k<=(((ay b i 0).length:Nat):Int)/\upto (CO b i) k:=hk;obtain⟨k0,k1,k2⟩:=hk;cbv)|(refine aa (O.ar .add .i64 k 1) ?_ ?_ ?_;rotate_left 2;focus (cbv;done))|(refine⟨[1,3,4,5,25,26,55,56,57],[1],Int,fun j=>[.reg 57 (.one (.v (.int .i64 j)))],fun j=>0<=j/\j<=(((ay x i 0).length:Nat):Int)/\upto (Dg x i) j,fun j=>((ay x i 0).length)-j.toNat,⟨0,?_,?_⟩,?_⟩;rotate_left;(focus (cbv;done));intro j hj;replace hj:0<=j/\j<=(((ay x i 0).length:Nat):Int)/\upto (Dg x i) j:=hj;obtain⟨j0,j1,j2⟩:=hj;cbv)|(refine aa (O.ar .add .i64 j 1) ?_ ?_ ?_;rotate_left 2;focus (cbv;done))|(refine aa (O.ar .add .i64 i 1,O.ar .add .i64 t (O.ar .add .i64 (O.zi (O.ln (O.gs b i 0))) (O.zi (O.ln (O.gs x i 0))))) ?_ ?_ ?_;rotate_left 2;focus (cbv;done))
 all_goals(subst hO hr hF;(try simp only[af,SS,sa,az]at*);(try simp only[nc]at*);(try simp only[aF]at*))
 all_goals(try simp only[Li1.F0]at*)
 all_goals(try simp only[hsb]at*)
 all_goals try rw[bD (by omega) (by omega)]
 all_goals(try have y1:=hp.bn i)
 all_goals(try have y2:=hp.xn i)
 all_goals(try have z6:aV .add .i64 k 1=k+1:=aB (by omega))
 all_goals(try simp only[z6]at*)
 all_goals(try have z7:aV .add .i64 j 1=j+1:=aB (by omega))
 all_goals(try simp only[z7]at*)
 all_goals(try have q:=Oy hp i2 i0 (by have r:=bh.1 (by assumption:inR (b.length:Int) 1 4=true);omega))
 all_goals(try have z8:aV .add .i64 (((ay b i 0).length:Nat):Int) (((ay x i 0).length:Nat):Int)=((ay b i 0).length:Int)+(ay x i 0).length:=aB (by omega))
 all_goals(try simp only[z8]at*)
 all_goals(try have z9:aV .add .i64 t (((ay b i 0).length:Int)+(ay x i 0).length)=t+(((ay b i 0).length:Int)+(ay x i 0).length):=aB (by omega))
 all_goals(try simp only[z9]at*)
 all_goals first
  | (show(_:List DV)=_
     first
      |(refine ah ?_;symm;exact E8 (by assumption))
      |(refine ah ?_;symm;exact E9 (by assumption))
      |(refine ah ?_;symm;exact wz i0 (by omega) k0 (by assumption) (J1 (by assumption)))
      |(refine ah ?_;symm;exact wz i0 (by omega) k0 (by assumption) (J2 (by assumption)))
      |(refine ah ?_;symm;exact Fa i0 (by omega) j0 (by assumption) (M2 (by assumption)))
      |(refine ah ?_;rw[E7 i2 (by assumption) (by omega) i1 (by omega)];rfl)
      |done)
  |omega
  |(refine⟨by omega,by omega,(Rw.eta (by first|assumption|exact Rw.sub (by first|assumption|exact Rw.sub (by assumption) (by omega) rfl) (by omega) rfl) (by omega) (by omega)).trans ?_⟩;rfl)
  |(show aK _ _=true;kernel_rfl)
  |exact aL
  |exact ax k2 (J3 (by assumption) (by assumption))
  |exact ax j2 (IJ (by assumption))
  |exact JK i2 i0 k2 (by omega) j2 (by omega)
  |exact Ox
  |done
theorem kX (b x:List (List L))(hp:uV b x):aP Tryz.prog 123 [.agg [.s 1 b,.s 1 x]] [.one (.v (.bool (mailOk b x)))]:=by
 have hbw:=hp.bw;have hxw:=hp.xw;have hbl:=hp.bl;have hxl:=hp.xl;have hsb:aV .sub .i64 (b.length:Int) 1=b.length-1:=cH (by omega);refine ai Li1.B ag mixed 92 _ [4] [.tmp 2] Tryz.func123 rfl rfl rfl rfl rfl ?_;intro O r (F:Li1.Fns) hO hr (hF:F=Li1.F0);cbv
 repeat' first|refine And.intro ?_ ?_|(refine aG (fun hb=>?_) (fun hb=>?_)<;>cbv)|(refine⟨[1,3,4,5],[1],Int×Int,fun s_=>match s_ with|(i,t)=>[.reg 5 (.one (.v (.int .i64 i))),.reg 4 (.one (.v (.int .i64 t)))],fun s_=>match s_ with|(i,t)=>0<=i/\i<=(b.length:Int)/\GY b x i t,fun s_=>match s_ with|(i,t)=>b.length-i.toNat,⟨(0,0),?_,?_⟩,?_⟩;rotate_left;(focus (cbv;done));intro s_ hi;obtain⟨i,t⟩:=s_;replace hi:0<=i/\i<=(b.length:Int)/\GY b x i t:=hi;obtain⟨i0,i1,i2⟩:=hi;cbv)|(refine⟨[1,3,4,5,6],[1],Int,fun k=>[.reg 6 (.one (.v (.int .i64 k)))],fun k=>0<=k/\k<=(((ay b i 0).length:Nat):Int)/\upto (CO b i) k,fun k=>((ay b i 0).length)-k.toNat,⟨0,?_,?_⟩,?_⟩;rotate_left;(focus (cbv;done));intro k hk;replace hk:0<=k/\k<=(((ay b i 0).length:Nat):Int)/\upto (CO b i) k:=hk;obtain⟨k0,k1,k2⟩:=hk;cbv)|(refine aa (O.ar .add .i64 k 1) ?_ ?_ ?_;rotate_left 2;focus (cbv;done))|(refine⟨[1,3,4,5,8],[1],Int,fun j=>[.reg 8 (.one (.v (.int .i64 j)))],fun j=>0<=j/\j<=(((ay x i 0).length:Nat):Int)/\upto (Dg x i) j,fun j=>((ay x i 0).length)-j.toNat,⟨0,?_,?_⟩,?_⟩;rotate_left;(focus (cbv;done));intro j hj;replace hj:0<=j/\j<=(((ay x i 0).length:Nat):Int)/\upto (Dg x i) j:=hj;obtain⟨j0,j1,j2⟩:=hj;cbv)|(refine aa (O.ar .add .i64 j 1) ?_ ?_ ?_;rotate_left 2;focus (cbv;done))|(refine aa (O.ar .add .i64 i 1,O.ar .add .i64 (O.ar .add .i64 t (O.zi (O.ln (O.gs b i 0)))) (O.zi (O.ln (O.gs x i 0)))) ?_ ?_ ?_;rotate_left 2;focus (cbv;done))
 all_goals(subst hO hr hF;(try simp only[af,SS,sa,az]at*);(try simp only[nc]at*);(try simp only[aF]at*))
 all_goals(try simp only[Li1.F0]at*)
 all_goals(try simp only[hsb]at*)
 all_goals try rw[bD (by omega) (by omega)]
 all_goals(try have y1:=hp.bn i)
 all_goals(try have y2:=hp.xn i)
 all_goals(try have z6:aV .add .i64 k 1=k+1:=aB (by omega))
 all_goals(try simp only[z6]at*)
 all_goals(try have z7:aV .add .i64 j 1=j+1:=aB (by omega))
 all_goals(try simp only[z7]at*)
 all_goals(try have q:=Oy hp i2 i0 (by have r:=bh.1 (by assumption:inR (b.length:Int) 1 4=true);omega))
 all_goals(try have z8:aV .add .i64 t (((ay b i 0).length:Nat):Int)=t+((ay b i 0).length:Int):=aB (by omega))
 all_goals(try simp only[z8]at*)
 all_goals(try have z9:aV .add .i64 (t+((ay b i 0).length:Int)) (((ay x i 0).length:Nat):Int)=t+(((ay b i 0).length:Int)+(ay x i 0).length):=(aB (by omega)).trans (by omega))
 all_goals(try simp only[z9]at*)
 all_goals first
  | (show(_:List DV)=_
     first
      |(refine ah ?_;symm;exact E8 (by assumption))
      |(refine ah ?_;symm;exact E9 (by assumption))
      |(refine ah ?_;symm;exact wz i0 (by omega) k0 (by assumption) (J1 (by assumption)))
      |(refine ah ?_;symm;exact wz i0 (by omega) k0 (by assumption) (J2 (by assumption)))
      |(refine ah ?_;symm;exact Fa i0 (by omega) j0 (by assumption) (M2 (by assumption)))
      |(refine ah ?_;rw[E7 i2 (by assumption) (by omega) i1 (by omega)];rfl)
      |done)
  |omega
  |(refine⟨by omega,by omega,(Rw.eta (by first|assumption|exact Rw.sub (by first|assumption|exact Rw.sub (by assumption) (by omega) rfl) (by omega) rfl) (by omega) (by omega)).trans ?_⟩;rfl)
  |(show aK _ _=true;kernel_rfl)
  |exact aL
  |exact ax k2 (J3 (by assumption) (by assumption))
  |exact ax j2 (IJ (by assumption))
  |exact JK i2 i0 k2 (by omega) j2 (by omega)
  |exact Ox
  |done
end Go.V