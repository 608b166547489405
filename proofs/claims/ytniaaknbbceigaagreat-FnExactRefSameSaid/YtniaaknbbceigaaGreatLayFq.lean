/-
  Contracts, by evaluation.
-/
import Derived.Test.YtniaaknbbceigaaGreatS10
import Derived.Test.YtniaaknbbceigaaGreatHB
import Derived.Test.YtniaaknbbceigaaGreatLayEq
set_option linter.all false
namespace Go.V
open Go Go.Proofs
set_option maxRecDepth 1000000
set_option maxHeartbeats 8000000
open Go.Shelf in
shelf_lay Lays.n189 Nm 189 at Tryz as Tryz.lays189
theorem jz (l:List (List L))(hp:Rw [tI] l/\l.length<=70368744177664):eF Tryz.prog 257 [.one (.s 1 l)] [.s 1 (srtL l)] []:=by
 exact CK (Any.slices_Sort_int_none Tryz.lays189) (Any.slices_Sort_int Tryz.lays189) l hp
namespace Lf1
structure Fns where
 layOk:List (List L)->List (List L)->Bool
 slN:Int->Int
 hsB:Int->Int->Bool
 aaI:Int->Int->Int->Int->Int
 srtL:List (List L)->List (List L)
def F0 :Fns:=⟨layOk,slN,hsB,aaI,srtL⟩
def ct (F:Fns):CT:=fun f ds=>match f,ds with
 |144,[.one (.s 3 sp),.one (.s 3 lg)]=>some (fun _=>Rw [tI,tI,tI] sp/\Rw [tI,tI,tI] lg/\sp.length<=1073741824/\lg.length<=1073741824,[.one (.v (.bool (F.layOk sp lg)))])
 |251,[.one (.v (.int .i64 k))]=>some (fun _=>True,[.one (.v (.int .i64 (F.slN k)))])
 |189,[.one (.v (.int .i64 b)),.one (.v (.int .i64 i))]=>some (fun _=>True,[.one (.v (.bool (F.hsB b i)))])
 |256,[.agg [.v (.int .i64 p),.v (.int .i64 k),.v (.int .i64 b)],.one (.v (.int .i64 s))]=>some (fun _=>True,[.one (.v (.int .i64 (F.aaI p k b s)))])
 |_,_=>none
theorem ak :aW Tryz.prog (ct F0):=by
 intro f ds pre res h hp;unfold ct at h;split at h<;>(try split at h)<;>cases h
 exact fN _ _ hp;exact gh _ hp;exact gg _ _ hp;exact pA _ _ _ _ hp
def mt (F:Fns):MT:=fun f=>match f with
 | 257=>some fun ds=>match ds with
   |[.one (.s 1 l)]=>some (fun _=>Rw [tI] l/\l.length<=70368744177664,[.s 1 (F.srtL l)],[])
   |_=>none
 |_=>none
theorem cL :ga Tryz.prog (mt F0):=by
 intro f mk h ds pre outs res hm hp;unfold mt at h;split at h
 ·cases h;dsimp only at hm;split at hm
  ·cases hm;exact jz _ hp
  ·cases hm
 ·cases h
def B :TB Tryz.prog:={Φ:=Fns,F0:=F0,ct:=ct,hc:=ak,mt:=mt,hm:=cL}
end Lf1
theorem nu (sp lg:List (List L))(hp:Rw [tI,tI,tI] sp/\Rw [tI,tI,tI] lg/\sp.length<=1073741824/\lg.length<=1073741824):aP Tryz.prog 225 [.one (.s 3 sp),.one (.s 3 lg)] [.one (.s 1 (iaL sp lg))]:=by
 obtain⟨hs,hl,ns,nl⟩:=hp;refine ai Lf1.B ag mixed 56 _ [31] [.tmp 4] Tryz.func225 rfl rfl rfl rfl rfl ?_;intro O r (F:Lf1.Fns) hO hr (hF:F=Lf1.F0);cbv
 repeat' first|refine And.intro ?_ ?_|(refine aG (fun hb=>?_) (fun hb=>?_)<;>cbv)|(refine⟨[1,5,16,17,18],[5],Int×List (List L),fun s_=>match s_ with|(i,o)=>[.reg 18 (.one (.v (.int .i64 i))),.reg 5 (.one (.vw 5 0 0 0 (O.ln o))),.leaf 5 0 ⟨0,0,none,.own (.s 1 o)⟩],fun s_=>match s_ with|(i,o)=>0<=i/\i<=(sp.length:Int)/\MF sp i o,fun s_=>match s_ with|(i,o)=>sp.length-i.toNat,⟨(0,[]),?_,?_⟩,?_⟩;rotate_left;(focus (cbv;done));intro s_ hi;obtain⟨i,o⟩:=s_;replace hi:0<=i/\i<=(sp.length:Int)/\MF sp i o:=hi;obtain⟨i0,i1,i2⟩:=hi;cbv)|(refine⟨[1,5,7,8,16,17,18],[5,7],Int×List (List L),fun s_=>match s_ with|(k,o1)=>[.reg 8 (.one (.v (.int .i64 k))),.reg 5 (.one (.vw 5 0 0 0 (O.ln o1))),.leaf 5 0 ⟨0,0,none,.own (.s 1 o1)⟩],fun s_=>match s_ with|(k,o1)=>0<=k/\k<=slN (ab sp i 1)/\GT sp i k o1,fun s_=>match s_ with|(k,o1)=>(slN (ab sp i 1)-k).toNat,⟨(0,o),?_,?_⟩,?_⟩;rotate_left;(focus (cbv;done));intro s_ hk;obtain⟨k,o1⟩:=s_;replace hk:0<=k/\k<=slN (ab sp i 1)/\GT sp i k o1:=hk;obtain⟨k0,k1,k2⟩:=hk;cbv)|(refine⟨[5,40,41,42],[5],Int×List (List L),fun s_=>match s_ with|(j,o2)=>[.reg 42 (.one (.v (.int .i64 j))),.reg 5 (.one (.vw 5 0 0 0 (O.ln o2))),.leaf 5 0 ⟨0,0,none,.own (.s 1 o2)⟩],fun s_=>match s_ with|(j,o2)=>0<=j/\j<=(lg.length:Int)/\IC sp lg j o2,fun s_=>match s_ with|(j,o2)=>lg.length-j.toNat,⟨(0,o),?_,?_⟩,?_⟩;rotate_left;(focus (cbv;done));intro s_ hj;obtain⟨j,o2⟩:=s_;replace hj:0<=j/\j<=(lg.length:Int)/\IC sp lg j o2:=hj;obtain⟨j0,j1,j2⟩:=hj;cbv)|(refine aa (O.ar .add .i64 k 1,O.cat o1 (O.sub [[.v (.int .i64 (F.aaI (O.gi sp i 0) (O.gi sp i 1) (O.gi sp i 2) k))]] 0 (O.ln [[.v (.int .i64 (F.aaI (O.gi sp i 0) (O.gi sp i 1) (O.gi sp i 2) k))]]))) ?_ ?_ ?_;rotate_left 2;focus (cbv;done))|(refine aa (O.ar .add .i64 k 1,o1) ?_ ?_ ?_;rotate_left 2;focus (cbv;done))|(refine aa (O.ar .add .i64 i 1,o1) ?_ ?_ ?_;rotate_left 2;focus (cbv;done))|(refine aa (O.ar .add .i64 j 1,O.cat o2 (O.sub [[.v (.int .i64 (O.ar .mul .i64 (O.gi lg j 0) 16))]] 0 (O.ln [[.v (.int .i64 (O.ar .mul .i64 (O.gi lg j 0) 16))]]))) ?_ ?_ ?_;rotate_left 2;focus (cbv;done))
 all_goals(subst hO hr hF;(try simp only[af,SS,sa,az]at*);(try simp only[nc]at*);(try simp only[aF]at*))
 all_goals(try simp only[Lf1.F0]at*)
 all_goals try rw[bD (by omega) (by omega)]
 all_goals(try have z1:=Rl (sp:=sp) (lg:=lg) (i:=i) (by assumption) i0 (by assumption))
 all_goals(try have z6:aV .add .i64 k 1=k+1:=aB (by omega))
 all_goals(try simp only[z6]at*)
 all_goals(try have z7:=QF (sp:=sp) (lg:=lg) (j:=j) (by assumption) j0 (by assumption))
 all_goals(try have z8:aV .mul .i64 (ab lg j 0) 16=ab lg j 0*16:=zJ (by omega))
 all_goals(try simp only[z8]at*)
 all_goals first
  | (show(_:List DV)=_
     first
      |(refine eQ ?_;exact Qx (by assumption))
      |(refine eQ ?_;exact Lm j2 j1 (by assumption) (by assumption))
      |done)
  |omega
  |(refine⟨by omega,by omega,(Rw.eta (by first|assumption|exact Rw.sub (by first|assumption|exact Rw.sub (by assumption) (by omega) rfl) (by omega) rfl) (by omega) (by omega)).trans ?_⟩;rfl)
  |(show aK _ _=true;kernel_rfl)
  |exact scal_one
  |exact⟨hs,hl,ns,nl⟩
  |exact NS j2 (by omega) (by omega)
  |(have q:=Lk k2;constructor<;>(simp only[List.length_cons,List.length_nil];omega))
  |(have q:=Ey j2;constructor<;>(simp only[List.length_cons,List.length_nil];omega))
  |exact Ll k2 k0 (by assumption)
  |exact NR k2 k0 (by assumption)
  |exact Lj k2 i0 k1 (by assumption) z1
  |exact Qy i2
  |exact Qz i2 i1 (by assumption)
  |exact NU j2 j0 z7
  |exact Qw
  |exact yu
  |exact⟨True.intro,yu.symm⟩
  |exact⟨True.intro,True.intro⟩
  |exact True.intro
  |done
end Go.V