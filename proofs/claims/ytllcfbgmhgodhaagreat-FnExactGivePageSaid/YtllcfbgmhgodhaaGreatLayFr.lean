/- Contracts. -/
import Derived.Test.YtllcfbgmhgodhaaGreatHB
import Derived.Test.YtllcfbgmhgodhaaGreatLayEr
set_option linter.all false
namespace Go.V
open Go Go.Proofs
set_option maxRecDepth 1000000
set_option maxHeartbeats 8000000
def Tryz.lays189_ren :Go.Shelf.Ren:=⟨fun|189=>337|125=>359|257=>358|128=>374|129=>375|294=>365|295=>366|296=>367|297=>368|298=>369|299=>370|216=>371|300=>372|301=>373|328=>377|329=>378|330=>379|331=>380|332=>381|215=>382|343=>383|n=>n,fun|28=>31|3=>3|46=>318|0=>0|51=>354|53=>356|4=>4|183=>347|182=>346|131=>351|5=>5|9=>9|218=>357|222=>361|228=>363|229=>302|n=>n,fun|n=>n⟩
theorem Tryz.lays189 :Lays.n189 Tryz.prog Tryz.lays189_ren:=⟨by kernel_rfl,Tryz.func359.trans (congrArg some (by kernel_rfl)),Tryz.func374.trans (congrArg some (by kernel_rfl)),Tryz.func375.trans (congrArg some (by kernel_rfl)),Tryz.func337.trans (congrArg some (by kernel_rfl)),Tryz.func382.trans (congrArg some (by kernel_rfl)),Tryz.func371.trans (congrArg some (by kernel_rfl)),Tryz.func358.trans (congrArg some (by kernel_rfl)),Tryz.func365.trans (congrArg some (by kernel_rfl)),Tryz.func366.trans (congrArg some (by kernel_rfl)),Tryz.func367.trans (congrArg some (by kernel_rfl)),Tryz.func368.trans (congrArg some (by kernel_rfl)),Tryz.func369.trans (congrArg some (by kernel_rfl)),Tryz.func370.trans (congrArg some (by kernel_rfl)),Tryz.func372.trans (congrArg some (by kernel_rfl)),Tryz.func373.trans (congrArg some (by kernel_rfl)),Tryz.func377.trans (congrArg some (by kernel_rfl)),Tryz.func378.trans (congrArg some (by kernel_rfl)),Tryz.func379.trans (congrArg some (by kernel_rfl)),Tryz.func380.trans (congrArg some (by kernel_rfl)),Tryz.func381.trans (congrArg some (by kernel_rfl)),Tryz.func383.trans (congrArg some (by kernel_rfl)),Tryz.underlying0,Tryz.isAgg0,Tryz.sizeOf0,Tryz.zeroValue0,Tryz.underlying3,Tryz.isAgg3,Tryz.sizeOf3,Tryz.zeroValue3,Tryz.underlying4,Tryz.isAgg4,Tryz.sizeOf4,Tryz.zeroValue4,Tryz.underlying5,Tryz.isAgg5,Tryz.sizeOf5,Tryz.zeroValue5,Tryz.underlying9,Tryz.isAgg9,Tryz.sizeOf9,Tryz.zeroValue9,Tryz.underlying31,Tryz.isAgg31,Tryz.sizeOf31,Tryz.zeroValue31,Tryz.underlying318,Tryz.isAgg318,Tryz.sizeOf318,Tryz.zeroValue318,Tryz.underlying354,Tryz.isAgg354,Tryz.sizeOf354,Tryz.zeroValue354,Tryz.underlying356,Tryz.isAgg356,Tryz.sizeOf356,Tryz.zeroValue356,Tryz.underlying351,Tryz.isAgg351,Tryz.sizeOf351,Tryz.zeroValue351,Tryz.underlying346,Tryz.isAgg346,Tryz.sizeOf346,Tryz.zeroValue346,Tryz.underlying347,Tryz.isAgg347,Tryz.sizeOf347,Tryz.zeroValue347,Tryz.underlying357,Tryz.isAgg357,Tryz.sizeOf357,Tryz.zeroValue357,Tryz.underlying361,Tryz.isAgg361,Tryz.sizeOf361,Tryz.zeroValue361,Tryz.underlying363,Tryz.isAgg363,Tryz.sizeOf363,Tryz.zeroValue363,Tryz.underlying302,Tryz.isAgg302,Tryz.sizeOf302,Tryz.zeroValue302⟩
theorem kh {l:aa}(hp:Rw [tI] l/\l.length<=70368744177664):eg 337 [.one (.s 1 l)] [.s 1 (srtL l)] []:=by
 exact EI (Any.slices_Sort_int_none Tryz.lays189) (Any.slices_Sort_int Tryz.lays189) l hp
namespace Lf1
structure aQ where
 layOk:aa->aa->Bool
 slN:Int->Int
 hsB:Int->Int->Bool
 aaI:Int->Int->Int->Int->Int
 srtL:aa->aa
abbrev F0 :aQ:=⟨layOk,slN,hsB,aaI,srtL⟩
def ct (F:aQ):CT:=fun f ds=>match f,ds with
 |155,[.one (.s 3 sp),.one (.s 3 lg)]=>some (fun _=>Rw [tI,tI,tI] sp/\Rw [tI,tI,tI] lg/\sp.length<=1073741824/\lg.length<=1073741824,[.k (F.layOk sp lg)])
 |332,[.one (.v (.int .i64 k))]=>some (fun _=>True,[.j (F.slN k)])
 |294,[.one (.v (.int .i64 b)),.one (.v (.int .i64 i))]=>some (fun _=>True,[.k (F.hsB b i)])
 |336,[.agg [.v (.int .i64 p),.v (.int .i64 k),.v (.int .i64 b)],.one (.v (.int .i64 s))]=>some (fun _=>True,[.j (F.aaI p k b s)])
 |_,_=>none
theorem ai :aS (ct F0):=by
 intro f ds pre res h hp;unfold ct at h;split at h<;>cases h
 exact jV hp;exact gH hp;exact gE hp;exact rf hp
def mt (F:aQ):MT:=fun f=>match f with
 | 337=>some fun ds=>match ds with
   |[.one (.s 1 l)]=>some (fun _=>Rw [tI] l/\l.length<=70368744177664,[.s 1 (F.srtL l)],[])
   |_=>none
 |_=>none
theorem cW :gh (mt F0):=by
 intro f mk h ds pre outs res hm hp;unfold mt at h;split at h
 ·cases h;dsimp only at hm;split at hm
  ·cases hm;exact kh hp
  ·cases hm
 ·cases h
abbrev B :cy:={Φ:=aQ,F0:=F0,ct:=ct,hc:=ai,mt:=mt,hm:=cW}
end Lf1
theorem oV {sp lg:aa}(hp:Rw [tI,tI,tI] sp/\Rw [tI,tI,tI] lg/\sp.length<=1073741824/\lg.length<=1073741824):au 271 [.one (.s 3 sp),.one (.s 3 lg)] [.one (.s 1 (iaL sp lg))]:=by
 obtain⟨hs,hl,ns,nl⟩:=hp;refine cb Lf1.B Tryz.func271 ?_
 intro O r F hO hr hF;cbv
 repeat' first|apply And.intro|(apply be<;>intro hb<;>cbv)|(refine⟨[1,5,16,17,18],[5],Int×aa,fun s_=>match s_ with|(i,o)=>[.reg 18 (.j i),.reg 5 (.one (.vw 5 0 0 0 (O.ln o))),.leaf 5 0 ⟨0,0,none,.own (.s 1 o)⟩],fun s_=>match s_ with|(i,o)=>0<=i/\i<=(sp.length:Int)/\Ox sp i o,fun s_=>match s_ with|(i,o)=>sp.length-i.toNat,⟨(0,[]),?_,?_⟩,?_⟩;rotate_left;(focus (cbv;done));intro s_ hi;obtain⟨i,o⟩:=s_;replace hi:0<=i/\i<=(sp.length:Int)/\Ox sp i o:=hi;obtain⟨i0,i1,i2⟩:=hi;cbv)|(refine⟨[1,5,7,8,16,17,18],[5,7],Int×aa,fun s_=>match s_ with|(k,o1)=>[.reg 8 (.j k),.reg 5 (.one (.vw 5 0 0 0 (O.ln o1))),.leaf 5 0 ⟨0,0,none,.own (.s 1 o1)⟩],fun s_=>match s_ with|(k,o1)=>0<=k/\k<=slN (ag sp i 1)/\Ij sp i k o1,fun s_=>match s_ with|(k,o1)=>(slN (ag sp i 1)-k).toNat,⟨(0,o),?_,?_⟩,?_⟩;rotate_left;(focus (cbv;done));intro s_ hk;obtain⟨k,o1⟩:=s_;replace hk:0<=k/\k<=slN (ag sp i 1)/\Ij sp i k o1:=hk;obtain⟨k0,k1,k2⟩:=hk;cbv)|(refine⟨[5,40,41,42],[5],Int×aa,fun s_=>match s_ with|(j,o2)=>[.reg 42 (.j j),.reg 5 (.one (.vw 5 0 0 0 (O.ln o2))),.leaf 5 0 ⟨0,0,none,.own (.s 1 o2)⟩],fun s_=>match s_ with|(j,o2)=>0<=j/\j<=(lg.length:Int)/\J7 sp lg j o2,fun s_=>match s_ with|(j,o2)=>lg.length-j.toNat,⟨(0,o),?_,?_⟩,?_⟩;rotate_left;(focus (cbv;done));intro s_ hj;obtain⟨j,o2⟩:=s_;replace hj:0<=j/\j<=(lg.length:Int)/\J7 sp lg j o2:=hj;obtain⟨j0,j1,j2⟩:=hj;cbv)|(refine ab (O.ar .add .i64 k 1,O.cat o1 (O.sub [[.i (F.aaI (O.gi sp i 0) (O.gi sp i 1) (O.gi sp i 2) k)]] 0 (O.ln [[.i (F.aaI (O.gi sp i 0) (O.gi sp i 1) (O.gi sp i 2) k)]]))) ?_ ?_ ?_;focus (cbv;done))|(refine ab (O.ar .add .i64 k 1,o1) ?_ ?_ ?_;focus (cbv;done))|(refine ab (O.ar .add .i64 i 1,o1) ?_ ?_ ?_;focus (cbv;done))|(refine ab (O.ar .add .i64 j 1,O.cat o2 (O.sub [[.i (O.ar .mul .i64 (O.gi lg j 0) 16)]] 0 (O.ln [[.i (O.ar .mul .i64 (O.gi lg j 0) 16)]]))) ?_ ?_ ?_;focus (cbv;done))
 all_goals(subst hO hr hF;(try simp only[nc]at*);(try simp only[aj,SS,sa,az]at*);(try rw[cv (by omega) (by omega)]);(try have z1:=Vd (sp:=sp) (lg:=lg) (i:=i) (by assumption) i0 (by assumption));(try have z6:bF .add .i64 k 1=k+1:=bc (by omega));(try simp only[z6]at*);(try have z7:=Un (sp:=sp) (lg:=lg) (j:=j) (by assumption) j0 (by assumption));(try have z8:bF .mul .i64 (ag lg j 0) 16=ag lg j 0*16:=y9 (by omega));(try simp only[z8]at*))
 all_goals first
  | (show(_:List DV)=_
     first
      |(refine pS ?_;exact Ud (by assumption))
      |(refine pS ?_;exact MZ j2 j1 (by assumption) (by assumption))
      |done)
  |omega
  |exact eR
  |(show aW _ _=true;kernel_rfl)
  |exact scal_one
  |exact⟨hs,hl,ns,nl⟩
  |exact P3 j2 (by omega) (by omega)
  |(have q:=MX k2;constructor<;>(simp only[List.length_cons,List.length_nil];omega))
  |(have q:=Ge j2;constructor<;>(simp only[List.length_cons,List.length_nil];omega))
  |exact MY k2 k0 (by assumption)
  |exact P2 k2 k0 (by assumption)
  |exact MW k2 i0 k1 (by assumption) z1
  |exact Ue i2
  |exact Uf i2 i1 (by assumption)
  |exact P4 j2 j0 z7
  |exact Uc
  |exact A9
  |exact⟨True.intro,A9.symm⟩
  |exact⟨True.intro,True.intro⟩
  |exact True.intro
  |done
end Go.V