/- Contracts. -/
import Derived.Test.YtcodmgmliopheaaGreatXM0
set_option linter.all false
open Go
open List renaming length_cons->ac7,length_nil->ade
open True renaming intro->ac2
namespace Go.V
open Go Go.Proofs
set_option maxRecDepth 1000000
set_option maxHeartbeats 8000000
def Tryz.lays189_ren :Go.Shelf.Ren:=⟨fun|189=>384|125=>421|257=>420|128=>438|129=>439|294=>429|295=>430|296=>431|297=>432|298=>433|299=>434|216=>435|300=>436|301=>437|328=>441|329=>442|330=>443|331=>444|332=>445|215=>446|343=>447|n=>n,fun|28=>31|3=>3|46=>329|0=>0|51=>386|53=>388|4=>4|183=>380|182=>379|131=>188|5=>5|9=>9|218=>390|222=>394|228=>396|229=>185|n=>n,fun|n=>n⟩
theorem Tryz.lays189 :Lays.n189 Tryz.prog Tryz.lays189_ren:=⟨by kernel_rfl,Tryz.func421.trans (congrArg some (by kernel_rfl)),Tryz.func438.trans (congrArg some (by kernel_rfl)),Tryz.func439.trans (congrArg some (by kernel_rfl)),Tryz.func384.trans (congrArg some (by kernel_rfl)),Tryz.func446.trans (congrArg some (by kernel_rfl)),Tryz.func435.trans (congrArg some (by kernel_rfl)),Tryz.func420.trans (congrArg some (by kernel_rfl)),Tryz.func429.trans (congrArg some (by kernel_rfl)),Tryz.func430.trans (congrArg some (by kernel_rfl)),Tryz.func431.trans (congrArg some (by kernel_rfl)),Tryz.func432.trans (congrArg some (by kernel_rfl)),Tryz.func433.trans (congrArg some (by kernel_rfl)),Tryz.func434.trans (congrArg some (by kernel_rfl)),Tryz.func436.trans (congrArg some (by kernel_rfl)),Tryz.func437.trans (congrArg some (by kernel_rfl)),Tryz.func441.trans (congrArg some (by kernel_rfl)),Tryz.func442.trans (congrArg some (by kernel_rfl)),Tryz.func443.trans (congrArg some (by kernel_rfl)),Tryz.func444.trans (congrArg some (by kernel_rfl)),Tryz.func445.trans (congrArg some (by kernel_rfl)),Tryz.func447.trans (congrArg some (by kernel_rfl)),Tryz.underlying0,Tryz.isAgg0,Tryz.sizeOf0,Tryz.zeroValue0,Tryz.underlying3,Tryz.isAgg3,Tryz.sizeOf3,Tryz.zeroValue3,Tryz.underlying4,Tryz.isAgg4,Tryz.sizeOf4,Tryz.zeroValue4,Tryz.underlying5,Tryz.isAgg5,Tryz.sizeOf5,Tryz.zeroValue5,Tryz.underlying9,Tryz.isAgg9,Tryz.sizeOf9,Tryz.zeroValue9,Tryz.underlying31,Tryz.isAgg31,Tryz.sizeOf31,Tryz.zeroValue31,Tryz.underlying329,Tryz.isAgg329,Tryz.sizeOf329,Tryz.zeroValue329,Tryz.underlying386,Tryz.isAgg386,Tryz.sizeOf386,Tryz.zeroValue386,Tryz.underlying388,Tryz.isAgg388,Tryz.sizeOf388,Tryz.zeroValue388,Tryz.underlying188,Tryz.isAgg188,Tryz.sizeOf188,Tryz.zeroValue188,Tryz.underlying379,Tryz.isAgg379,Tryz.sizeOf379,Tryz.zeroValue379,Tryz.underlying380,Tryz.isAgg380,Tryz.sizeOf380,Tryz.zeroValue380,Tryz.underlying390,Tryz.isAgg390,Tryz.sizeOf390,Tryz.zeroValue390,Tryz.underlying394,Tryz.isAgg394,Tryz.sizeOf394,Tryz.zeroValue394,Tryz.underlying396,Tryz.isAgg396,Tryz.sizeOf396,Tryz.zeroValue396,Tryz.underlying185,Tryz.isAgg185,Tryz.sizeOf185,Tryz.zeroValue185⟩
def gd :EM:=fun F=>fun
 |[.one (.s 1 l)]=>some (fun _=>Rw [tI] l/\l.length<=70368744177664,[.s 1 (F.srtL l)],[])
 |_=>none
theorem qg :em 384 gd:=by
 intro _ _ _ _ h hp;dsimp only[gd,F0]at h;split at h<;>cases h
 rename_i l;exact KO (Any.slices_Sort_int_none Tryz.lays189) (Any.slices_Sort_int Tryz.lays189) l hp
abbrev Lf1 :cW:={
 Φ:=qj
 F0:=F0
 ct:=fun F f=>match f with|168=>cR F|352=>dI F|311=>cB F|355=>ky F|_=>fun _=>none
 hc:=(by
  intro f;dsimp only;split;exact pP;exact lP;exact iG;exact xk;exact cX)
 mt:=fun F f=>match f with|384=>some (gd F)|_=>none
 hm:=(by
  intro f mk h;dsimp only at h;split at h<;>cases h
  exact qg)}
def jv :EC:=fun F=>fun
 |[.one (.s 3 sp),.one (.s 3 lg)]=>some (fun _=>Rw [tI,tI,tI] sp/\Rw [tI,tI,tI] lg/\sp.length<=1073741824/\lg.length<=1073741824,[.one (.s 1 (F.iaL sp lg))])
 |_=>none
theorem ve :ec 295 jv:=by
 intro _ _ _ h hp;dsimp only[jv,F0]at h;split at h<;>cases h
 rename_i sp lg;obtain⟨hs,hl,ns,nl⟩:=hp;refine cb Lf1 Tryz.func295 ?_
 intro O r F hO hr hF;cbv
 repeat' first|apply And.intro|(apply bD<;>intro hb<;>cbv)|(refine⟨[1,5,16,17,18],[5],Int×aa,fun s_=>match s_ with|(i,o)=>[.reg 18 (.j i),.reg 5 (.one (.vw 5 0 0 0 (O.ln o))),.leaf 5 0 ⟨0,0,none,.own (.s 1 o)⟩],fun s_=>match s_ with|(i,o)=>0<=i/\i<=(sp.length:Int)/\Wm sp i o,fun s_=>match s_ with|(i,o)=>sp.length-i.toNat,⟨(0,[]),?_,?_⟩,?_⟩;rotate_left;(focus (cbv;done));intro s_ hi;obtain⟨i,o⟩:=s_;replace hi:0<=i/\i<=(sp.length:Int)/\Wm sp i o:=hi;obtain⟨i0,i1,i2⟩:=hi;cbv)|(refine⟨[1,5,7,8,16,17,18],[5,7],Int×aa,fun s_=>match s_ with|(k,o1)=>[.reg 8 (.j k),.reg 5 (.one (.vw 5 0 0 0 (O.ln o1))),.leaf 5 0 ⟨0,0,none,.own (.s 1 o1)⟩],fun s_=>match s_ with|(k,o1)=>0<=k/\k<=slN (ag sp i 1)/\OR sp i k o1,fun s_=>match s_ with|(k,o1)=>(slN (ag sp i 1)-k).toNat,⟨(0,o),?_,?_⟩,?_⟩;rotate_left;(focus (cbv;done));intro s_ hk;obtain⟨k,o1⟩:=s_;replace hk:0<=k/\k<=slN (ag sp i 1)/\OR sp i k o1:=hk;obtain⟨k0,k1,k2⟩:=hk;cbv)|(refine⟨[5,40,41,42],[5],Int×aa,fun s_=>match s_ with|(j,o2)=>[.reg 42 (.j j),.reg 5 (.one (.vw 5 0 0 0 (O.ln o2))),.leaf 5 0 ⟨0,0,none,.own (.s 1 o2)⟩],fun s_=>match s_ with|(j,o2)=>0<=j/\j<=(lg.length:Int)/\QS sp lg j o2,fun s_=>match s_ with|(j,o2)=>lg.length-j.toNat,⟨(0,o),?_,?_⟩,?_⟩;rotate_left;(focus (cbv;done));intro s_ hj;obtain⟨j,o2⟩:=s_;replace hj:0<=j/\j<=(lg.length:Int)/\QS sp lg j o2:=hj;obtain⟨j0,j1,j2⟩:=hj;cbv)|(refine ab (O.ar .add .i64 k 1,O.cat o1 (O.sub [[.i (F.aaI (O.gi sp i 0) (O.gi sp i 1) (O.gi sp i 2) k)]] 0 (O.ln [[.i (F.aaI (O.gi sp i 0) (O.gi sp i 1) (O.gi sp i 2) k)]]))) ?_ ?_ ?_;focus (cbv;done))|(refine ab (O.ar .add .i64 k 1,o1) ?_ ?_ ?_;focus (cbv;done))|(refine ab (O.ar .add .i64 i 1,o1) ?_ ?_ ?_;focus (cbv;done))|(refine ab (O.ar .add .i64 j 1,O.cat o2 (O.sub [[.i (O.ar .mul .i64 (O.gi lg j 0) 16)]] 0 (O.ln [[.i (O.ar .mul .i64 (O.gi lg j 0) 16)]]))) ?_ ?_ ?_;focus (cbv;done))
 all_goals(subst hO hr hF;(try simp only[nc]at*);(try simp only[ah,SS,sa,az]at*);(try rw[di (by omega) (by omega)]);(try have z1:=acI (sp:=sp) (lg:=lg) (i:=i) (by assumption) i0 (by assumption));(try have z6:bR .add .i64 k 1=k+1:=bE (by omega));(try simp only[z6]at*);(try have z7:=abW (sp:=sp) (lg:=lg) (j:=j) (by assumption) j0 (by assumption));(try have z8:bR .mul .i64 (ag lg j 0) 16=ag lg j 0*16:=Vq (by omega));(try simp only[z8]at*))
 all_goals first
  | (show(_:List DV)=_
     first
      |(refine v5 ?_;exact abN (by assumption))
      |(refine v5 ?_;exact UP j2 j1 (by assumption) (by assumption))
      |done)
  |omega
  |exact gp
  |(show aP _ _=true;kernel_rfl)
  |exact scal_one
  |exact⟨hs,hl,ns,nl⟩
  |exact Yk j2 (by omega) (by omega)
  |(have q:=UN k2;constructor<;>(simp only[ac7,ade];omega))
  |(have q:=MH j2;constructor<;>(simp only[ac7,ade];omega))
  |exact UO k2 k0 (by assumption)
  |exact Yj k2 k0 (by assumption)
  |exact UM k2 i0 k1 (by assumption) z1
  |exact abO i2
  |exact abP i2 i1 (by assumption)
  |exact Yl j2 j0 z7
  |exact abM
  |exact GP
  |exact⟨ac2,GP.symm⟩
  |exact⟨ac2,ac2⟩
  |exact ac2
  |done
end Go.V