/-
  Contracts, by evaluation.
-/
import Derived.Test.YtniaaknbbceigaaGreatS10
import Derived.Test.YtniaaknbbceigaaGreatHA
import Derived.Test.YtniaaknbbceigaaGreatLayBq
set_option linter.all false
namespace Go.V
open Go Go.Proofs
set_option maxRecDepth 1000000
set_option maxHeartbeats 8000000
namespace Lc1
structure Fns where
 spOk:Int->Int->Int->Bool
 lgOk:Int->Int->Int->Bool
 mgbI:List (List L)->Int->Bool
 muT:List (List L)->Int->List (List L)
def F0 :Fns:=⟨spOk,lgOk,mgbI,muT⟩
def ct (F:Fns):CT:=fun f ds=>match f,ds with
 |216,[.agg [.v (.int .i64 p),.v (.int .i64 k),.v (.int .i64 b)]]=>some (fun _=>True,[.one (.v (.bool (F.spOk p k b)))])
 |217,[.agg [.v (.int .i64 p),.v (.int .i64 n),.v (.int .i64 s)]]=>some (fun _=>True,[.one (.v (.bool (F.lgOk p n s)))])
 |_,_=>none
theorem ak :aW Tryz.prog (ct F0):=by
 intro f ds pre res h hp;unfold ct at h;split at h<;>(try split at h)<;>cases h
 exact ff _ _ _ hp;exact jN _ _ _ hp
def pt (F:Fns):PT:=fun f=>match f with
 | 215=>some fun ds=>match ds with
   |[.one (.v (.int .i64 pg)),.mp [.own (.m true es)]]=>some (fun _=>True,[[.own (.m true (F.muT es pg))]],[.one (.v (.bool (!(F.mgbI es pg))))])
   |_=>none
 |_=>none
theorem FR :vI Tryz.prog (pt F0):=by
 intro f mk h ds pre outs res hm hp;unfold pt at h;split at h
 ·cases h;dsimp only at hm;split at hm
  ·cases hm;exact lX _ _ hp
  ·cases hm
 ·cases h
def B :TB Tryz.prog:={Φ:=Fns,F0:=F0,ct:=ct,hc:=ak,pt:=pt,hp:=FR}
end Lc1
theorem fN (sp lg:List (List L))(hp:Rw [tI,tI,tI] sp/\Rw [tI,tI,tI] lg/\sp.length<=1073741824/\lg.length<=1073741824):aP Tryz.prog 144 [.one (.s 3 sp),.one (.s 3 lg)] [.one (.v (.bool (layOk sp lg)))]:=by
 obtain⟨hs,hl,ns,nl⟩:=hp;refine ai Lc1.B ag mixed 54 _ [4] [.tmp 4] Tryz.func144 rfl rfl rfl rfl rfl ?_;intro O r (F:Lc1.Fns) hO hr (hF:F=Lc1.F0);cbv
 repeat' first|refine And.intro ?_ ?_|(refine aG (fun hb=>?_) (fun hb=>?_)<;>cbv)|(refine⟨[1,6,14,15,16],[5],Int×List (List L),fun s_=>match s_ with|(i,es)=>[.reg 16 (.one (.v (.int .i64 i))),.leaf 5 0 ⟨0,0,none,.own (.m true es)⟩],fun s_=>match s_ with|(i,es)=>0<=i/\i<=(sp.length:Int)/\KD sp i es,fun s_=>match s_ with|(i,es)=>sp.length-i.toNat,⟨(0,[]),?_,?_⟩,?_⟩;rotate_left;(focus (cbv;done));intro s_ hi;obtain⟨i,es⟩:=s_;replace hi:0<=i/\i<=(sp.length:Int)/\KD sp i es:=hi;obtain⟨i0,i1,i2⟩:=hi;cbv)|(refine⟨[6,31,32,33],[5],Int×List (List L),fun s_=>match s_ with|(j,es1)=>[.reg 33 (.one (.v (.int .i64 j))),.leaf 5 0 ⟨0,0,none,.own (.m true es1)⟩],fun s_=>match s_ with|(j,es1)=>0<=j/\j<=(lg.length:Int)/\MG sp lg j es1,fun s_=>match s_ with|(j,es1)=>lg.length-j.toNat,⟨(0,es),?_,?_⟩,?_⟩;rotate_left;(focus (cbv;done));intro s_ hj;obtain⟨j,es1⟩:=s_;replace hj:0<=j/\j<=(lg.length:Int)/\MG sp lg j es1:=hj;obtain⟨j0,j1,j2⟩:=hj;cbv)|(refine⟨[6,10,11,31,32,33],[5,10],Int×List (List L),fun s_=>match s_ with|(k,es2)=>[.reg 11 (.one (.v (.int .i64 k))),.leaf 5 0 ⟨0,0,none,.own (.m true es2)⟩],fun s_=>match s_ with|(k,es2)=>0<=k/\k<=ab lg j 1/\KB sp lg j k es2,fun s_=>match s_ with|(k,es2)=>(ab lg j 1-k).toNat,⟨(0,es1),?_,?_⟩,?_⟩;rotate_left;(focus (cbv;done));intro s_ hk;obtain⟨k,es2⟩:=s_;replace hk:0<=k/\k<=ab lg j 1/\KB sp lg j k es2:=hk;obtain⟨k0,k1,k2⟩:=hk;cbv)|(refine aa (O.ar .add .i64 k 1,F.muT es2 (O.ar .add .i64 (O.gi lg j 0) k)) ?_ ?_ ?_;rotate_left 2;focus (cbv;done))|(refine aa (O.ar .add .i64 j 1,es2) ?_ ?_ ?_;rotate_left 2;focus (cbv;done))|(refine aa (O.ar .add .i64 i 1,F.muT es (O.gi sp i 0)) ?_ ?_ ?_;rotate_left 2;focus (cbv;done))
 all_goals(subst hO hr hF;(try simp only[af,SS,sa,az]at*);(try simp only[nc]at*);(try simp only[aF]at*))
 all_goals(try simp only[Lc1.F0]at*)
 all_goals try rw[bD (by omega) (by omega)]
 all_goals(try have z:=(N6 (k:=k) (by assumption) k0 (by assumption)))
 all_goals(try(obtain⟨z1,z2,z3,z4,z5⟩:=z))
 all_goals(try have z6:aV .add .i64 k 1=k+1:=aB (by omega))
 all_goals(try simp only[z3]at*)
 all_goals(try simp only[z6]at*)
 all_goals first
  | (show(_:List DV)=_
     first
      |(refine ah ?_;symm;exact Lv i2 i0 (by assumption) (OH (b:=mgbI es (ab sp i 0)) hb))
      |(refine ah ?_;symm;exact Lp k2 j0 (by assumption) k0 (by assumption) (OH (b:=mgbI es2 (ab lg j 0+k)) hb))
      |(refine ah ?_;symm;exact Bb i0 (by assumption) (by assumption))
      |(refine ah ?_;symm;exact Bc j0 (by assumption) (by assumption))
      |(refine ah ?_;symm;exact Lr j2 j1 (by assumption))
      |done)
  |omega
  |(refine⟨by omega,by omega,(Rw.eta (by first|assumption|exact Rw.sub (by first|assumption|exact Rw.sub (by assumption) (by omega) rfl) (by omega) rfl) (by omega) (by omega)).trans ?_⟩;rfl)
  |exact NZ i2 i0 (by assumption) (OI (b:=mgbI es (ab sp i 0)) hb)
  |exact NY k2 k0 (OI (b:=mgbI es2 (ab lg j 0+k)) hb)
  |exact Lq k2 j0 (by assumption) k1 (by assumption)
  |exact QA j2
  |exact Lw i2 i1 (by assumption)
  |exact QB
  |(have t:=fH (by assumption);have b:=gK t.1;omega)
  |done
end Go.V