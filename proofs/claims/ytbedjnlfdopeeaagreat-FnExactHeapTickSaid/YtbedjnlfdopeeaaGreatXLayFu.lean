/- Contracts. -/
import Derived.Test.YtbedjnlfdopeeaaGreatXHB
import Derived.Test.YtbedjnlfdopeeaaGreatXLayEu
set_option linter.all false
open Go
open IntKind renaming i64->Za
open List renaming length_cons->Zq,length_nil->Zz
open True renaming intro->Zk
namespace Go.V
open Go Go.Proofs
set_option maxRecDepth 1000000
set_option maxHeartbeats 8000000
def Tryz.lays189_ren:Go.Shelf.Ren:=⟨fun|189=>319|125=>362|257=>361|128=>378|129=>379|294=>369|295=>370|296=>371|297=>372|298=>373|299=>374|216=>375|300=>376|301=>377|328=>381|329=>382|330=>383|331=>384|332=>385|215=>386|343=>387|n=>n,fun|28=>31|3=>3|46=>286|0=>0|51=>343|53=>345|4=>4|183=>337|182=>336|131=>162|5=>5|9=>9|218=>347|222=>351|228=>353|229=>159|n=>n,fun|n=>n⟩
theorem Tryz.lays189:Lays.n189 Tryz.prog Tryz.lays189_ren:=⟨by kernel_rfl,Tryz.func362.trans (congrArg some (by kernel_rfl)),Tryz.func378.trans (congrArg some (by kernel_rfl)),Tryz.func379.trans (congrArg some (by kernel_rfl)),Tryz.func319.trans (congrArg some (by kernel_rfl)),Tryz.func386.trans (congrArg some (by kernel_rfl)),Tryz.func375.trans (congrArg some (by kernel_rfl)),Tryz.func361.trans (congrArg some (by kernel_rfl)),Tryz.func369.trans (congrArg some (by kernel_rfl)),Tryz.func370.trans (congrArg some (by kernel_rfl)),Tryz.func371.trans (congrArg some (by kernel_rfl)),Tryz.func372.trans (congrArg some (by kernel_rfl)),Tryz.func373.trans (congrArg some (by kernel_rfl)),Tryz.func374.trans (congrArg some (by kernel_rfl)),Tryz.func376.trans (congrArg some (by kernel_rfl)),Tryz.func377.trans (congrArg some (by kernel_rfl)),Tryz.func381.trans (congrArg some (by kernel_rfl)),Tryz.func382.trans (congrArg some (by kernel_rfl)),Tryz.func383.trans (congrArg some (by kernel_rfl)),Tryz.func384.trans (congrArg some (by kernel_rfl)),Tryz.func385.trans (congrArg some (by kernel_rfl)),Tryz.func387.trans (congrArg some (by kernel_rfl)),Tryz.underlying0,Tryz.isAgg0,Tryz.sizeOf0,Tryz.zeroValue0,Tryz.underlying3,Tryz.isAgg3,Tryz.sizeOf3,Tryz.zeroValue3,Tryz.underlying4,Tryz.isAgg4,Tryz.sizeOf4,Tryz.zeroValue4,Tryz.underlying5,Tryz.isAgg5,Tryz.sizeOf5,Tryz.zeroValue5,Tryz.underlying9,Tryz.isAgg9,Tryz.sizeOf9,Tryz.zeroValue9,Tryz.underlying31,Tryz.isAgg31,Tryz.sizeOf31,Tryz.zeroValue31,Tryz.underlying286,Tryz.isAgg286,Tryz.sizeOf286,Tryz.zeroValue286,Tryz.underlying343,Tryz.isAgg343,Tryz.sizeOf343,Tryz.zeroValue343,Tryz.underlying345,Tryz.isAgg345,Tryz.sizeOf345,Tryz.zeroValue345,Tryz.underlying162,Tryz.isAgg162,Tryz.sizeOf162,Tryz.zeroValue162,Tryz.underlying336,Tryz.isAgg336,Tryz.sizeOf336,Tryz.zeroValue336,Tryz.underlying337,Tryz.isAgg337,Tryz.sizeOf337,Tryz.zeroValue337,Tryz.underlying347,Tryz.isAgg347,Tryz.sizeOf347,Tryz.zeroValue347,Tryz.underlying351,Tryz.isAgg351,Tryz.sizeOf351,Tryz.zeroValue351,Tryz.underlying353,Tryz.isAgg353,Tryz.sizeOf353,Tryz.zeroValue353,Tryz.underlying159,Tryz.isAgg159,Tryz.sizeOf159,Tryz.zeroValue159⟩
theorem jS {l:aa}(hp:Rw [tI] l/\l.length<=70368744177664):eb 319 [.one (.s 1 l)] [.s 1 (srtL l)] []:=by
 exact Eh (Any.slices_Sort_int_none Tryz.lays189) (Any.slices_Sort_int Tryz.lays189) l hp
namespace Lf1
structure aP where
 layOk:aa->aa->Bool
 slN:Int->Int
 hsB:Int->Int->Bool
 aaI:Int->Int->Int->Int->Int
 srtL:aa->aa
abbrev F0:aP:=⟨layOk,slN,hsB,aaI,srtL⟩
def ct (F:aP):CT:=fun f ds=>match f,ds with
 |126,[.one (.s 3 sp),.one (.s 3 lg)]=>some (fun _=>Rw [tI,tI,tI] sp/\Rw [tI,tI,tI] lg/\sp.length<=1073741824/\lg.length<=1073741824,[.k (F.layOk sp lg)])
 |290,[.one (.v (.int Za k))]=>some (fun _=>True,[.j (F.slN k)])
 |242,[.one (.v (.int Za b)),.one (.v (.int Za i))]=>some (fun _=>True,[.k (F.hsB b i)])
 |294,[.agg [.v (.int Za p),.v (.int Za k),.v (.int Za b)],.one (.v (.int Za s))]=>some (fun _=>True,[.j (F.aaI p k b s)])
 |_,_=>none
theorem aj:aT (ct F0):=by
 intro f ds pre res h hp;unfold ct at h;split at h<;>cases h
 exact jF hp;exact gr hp;exact eP hp;exact qm hp
def mt (F:aP):MT:=fun f=>match f with
 | 319=>some fun ds=>match ds with
   |[.one (.s 1 l)]=>some (fun _=>Rw [tI] l/\l.length<=70368744177664,[.s 1 (F.srtL l)],[])
   |_=>none
 |_=>none
theorem dB:gY (mt F0):=by
 intro f mk h ds pre outs res hm hp;unfold mt at h;split at h
 ·cases h;dsimp only at hm;split at hm
  ·cases hm;exact jS hp
  ·cases hm
 ·cases h
abbrev B:cF:={Φ:=aP,F0:=F0,ct:=ct,hc:=aj,mt:=mt,hm:=dB}
end Lf1
theorem ou {sp lg:aa}(hp:Rw [tI,tI,tI] sp/\Rw [tI,tI,tI] lg/\sp.length<=1073741824/\lg.length<=1073741824):ap 237 [.one (.s 3 sp),.one (.s 3 lg)] [.one (.s 1 (iaL sp lg))]:=by
 obtain⟨hs,hl,ns,nl⟩:=hp;refine cb Lf1.B Tryz.func237 ?_
 intro O r F hO hr hF;cbv
 repeat' first|apply And.intro|(apply bu<;>intro hb<;>cbv)|(refine⟨[1,5,16,17,18],[5],Int×aa,fun s_=>match s_ with|(i,o)=>[.reg 18 (.j i),.reg 5 (.one (.vw 5 0 0 0 (O.ln o))),.leaf 5 0 ⟨0,0,none,.own (.s 1 o)⟩],fun s_=>match s_ with|(i,o)=>0<=i/\i<=(sp.length:Int)/\Oe sp i o,fun s_=>match s_ with|(i,o)=>sp.length-i.toNat,⟨(0,[]),?_,?_⟩,?_⟩;rotate_left;(focus (cbv;done));intro s_ hi;obtain⟨i,o⟩:=s_;replace hi:0<=i/\i<=(sp.length:Int)/\Oe sp i o:=hi;obtain⟨i0,i1,i2⟩:=hi;cbv)|(refine⟨[1,5,7,8,16,17,18],[5,7],Int×aa,fun s_=>match s_ with|(k,o1)=>[.reg 8 (.j k),.reg 5 (.one (.vw 5 0 0 0 (O.ln o1))),.leaf 5 0 ⟨0,0,none,.own (.s 1 o1)⟩],fun s_=>match s_ with|(k,o1)=>0<=k/\k<=slN (ag sp i 1)/\HO sp i k o1,fun s_=>match s_ with|(k,o1)=>(slN (ag sp i 1)-k).toNat,⟨(0,o),?_,?_⟩,?_⟩;rotate_left;(focus (cbv;done));intro s_ hk;obtain⟨k,o1⟩:=s_;replace hk:0<=k/\k<=slN (ag sp i 1)/\HO sp i k o1:=hk;obtain⟨k0,k1,k2⟩:=hk;cbv)|(refine⟨[5,40,41,42],[5],Int×aa,fun s_=>match s_ with|(j,o2)=>[.reg 42 (.j j),.reg 5 (.one (.vw 5 0 0 0 (O.ln o2))),.leaf 5 0 ⟨0,0,none,.own (.s 1 o2)⟩],fun s_=>match s_ with|(j,o2)=>0<=j/\j<=(lg.length:Int)/\JH sp lg j o2,fun s_=>match s_ with|(j,o2)=>lg.length-j.toNat,⟨(0,o),?_,?_⟩,?_⟩;rotate_left;(focus (cbv;done));intro s_ hj;obtain⟨j,o2⟩:=s_;replace hj:0<=j/\j<=(lg.length:Int)/\JH sp lg j o2:=hj;obtain⟨j0,j1,j2⟩:=hj;cbv)|(refine ab (O.ar .add Za k 1,O.cat o1 (O.sub [[.i (F.aaI (O.gi sp i 0) (O.gi sp i 1) (O.gi sp i 2) k)]] 0 (O.ln [[.i (F.aaI (O.gi sp i 0) (O.gi sp i 1) (O.gi sp i 2) k)]]))) ?_ ?_ ?_;focus (cbv;done))|(refine ab (O.ar .add Za k 1,o1) ?_ ?_ ?_;focus (cbv;done))|(refine ab (O.ar .add Za i 1,o1) ?_ ?_ ?_;focus (cbv;done))|(refine ab (O.ar .add Za j 1,O.cat o2 (O.sub [[.i (O.ar .mul Za (O.gi lg j 0) 16)]] 0 (O.ln [[.i (O.ar .mul Za (O.gi lg j 0) 16)]]))) ?_ ?_ ?_;focus (cbv;done))
 all_goals(subst hO hr hF;(try simp only[nc]at*);(try simp only[ak,SS,sa,az]at*);(try rw[cy (by omega) (by omega)]);(try have z1:=UZ (sp:=sp) (lg:=lg) (i:=i) (by assumption) i0 (by assumption));(try have z6:bK .add Za k 1=k+1:=bh (by omega));(try simp only[z6]at*);(try have z7:=Ue (sp:=sp) (lg:=lg) (j:=j) (by assumption) j0 (by assumption));(try have z8:bK .mul Za (ag lg j 0) 16=ag lg j 0*16:=Nc (by omega));(try simp only[z8]at*))
 all_goals first
  | (show(_:List DV)=_
     first
      |(refine pd ?_;exact TZ (by assumption))
      |(refine pd ?_;exact MA j2 j1 (by assumption) (by assumption))
      |done)
  |omega
  |exact eF
  |(show aV _ _=true;kernel_rfl)
  |exact scal_one
  |exact⟨hs,hl,ns,nl⟩
  |exact PW j2 (by omega) (by omega)
  |(have q:=My k2;constructor<;>(simp only[Zq,Zz];omega))
  |(have q:=FK j2;constructor<;>(simp only[Zq,Zz];omega))
  |exact Mz k2 k0 (by assumption)
  |exact PV k2 k0 (by assumption)
  |exact Mx k2 i0 k1 (by assumption) z1
  |exact T0 i2
  |exact T4 i2 i1 (by assumption)
  |exact PX j2 j0 z7
  |exact TY
  |exact AK
  |exact⟨Zk,AK.symm⟩
  |exact⟨Zk,Zk⟩
  |exact Zk
  |done
end Go.V