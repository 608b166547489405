/- Contracts. -/
import Derived.Test.YtniaaknbbceigaaGreatHB
import Derived.Test.YtniaaknbbceigaaGreatLayEq
set_option linter.all false
namespace Go.V
open Go Go.Proofs
set_option maxRecDepth 1000000
set_option maxHeartbeats 8000000
def Tryz.lays189_ren :Go.Shelf.Ren:=⟨fun|189=>257|125=>269|257=>268|128=>281|129=>282|294=>272|295=>273|296=>274|297=>275|298=>276|299=>277|216=>278|300=>279|301=>280|328=>283|329=>284|330=>285|331=>286|332=>287|215=>288|343=>289|n=>n,fun|28=>31|3=>3|46=>228|0=>0|51=>310|53=>312|4=>4|183=>303|182=>302|131=>307|5=>5|9=>9|218=>313|222=>317|228=>319|229=>82|n=>n,fun|n=>n⟩
theorem Tryz.lays189 :Lays.n189 Tryz.prog Tryz.lays189_ren:=⟨by kernel_rfl,Tryz.func269.trans (congrArg some (by kernel_rfl)),Tryz.func281.trans (congrArg some (by kernel_rfl)),Tryz.func282.trans (congrArg some (by kernel_rfl)),Tryz.func257.trans (congrArg some (by kernel_rfl)),Tryz.func288.trans (congrArg some (by kernel_rfl)),Tryz.func278.trans (congrArg some (by kernel_rfl)),Tryz.func268.trans (congrArg some (by kernel_rfl)),Tryz.func272.trans (congrArg some (by kernel_rfl)),Tryz.func273.trans (congrArg some (by kernel_rfl)),Tryz.func274.trans (congrArg some (by kernel_rfl)),Tryz.func275.trans (congrArg some (by kernel_rfl)),Tryz.func276.trans (congrArg some (by kernel_rfl)),Tryz.func277.trans (congrArg some (by kernel_rfl)),Tryz.func279.trans (congrArg some (by kernel_rfl)),Tryz.func280.trans (congrArg some (by kernel_rfl)),Tryz.func283.trans (congrArg some (by kernel_rfl)),Tryz.func284.trans (congrArg some (by kernel_rfl)),Tryz.func285.trans (congrArg some (by kernel_rfl)),Tryz.func286.trans (congrArg some (by kernel_rfl)),Tryz.func287.trans (congrArg some (by kernel_rfl)),Tryz.func289.trans (congrArg some (by kernel_rfl)),Tryz.underlying0,Tryz.isAgg0,Tryz.sizeOf0,Tryz.zeroValue0,Tryz.underlying3,Tryz.isAgg3,Tryz.sizeOf3,Tryz.zeroValue3,Tryz.underlying4,Tryz.isAgg4,Tryz.sizeOf4,Tryz.zeroValue4,Tryz.underlying5,Tryz.isAgg5,Tryz.sizeOf5,Tryz.zeroValue5,Tryz.underlying9,Tryz.isAgg9,Tryz.sizeOf9,Tryz.zeroValue9,Tryz.underlying31,Tryz.isAgg31,Tryz.sizeOf31,Tryz.zeroValue31,Tryz.underlying228,Tryz.isAgg228,Tryz.sizeOf228,Tryz.zeroValue228,Tryz.underlying310,Tryz.isAgg310,Tryz.sizeOf310,Tryz.zeroValue310,Tryz.underlying312,Tryz.isAgg312,Tryz.sizeOf312,Tryz.zeroValue312,Tryz.underlying307,Tryz.isAgg307,Tryz.sizeOf307,Tryz.zeroValue307,Tryz.underlying302,Tryz.isAgg302,Tryz.sizeOf302,Tryz.zeroValue302,Tryz.underlying303,Tryz.isAgg303,Tryz.sizeOf303,Tryz.zeroValue303,Tryz.underlying313,Tryz.isAgg313,Tryz.sizeOf313,Tryz.zeroValue313,Tryz.underlying317,Tryz.isAgg317,Tryz.sizeOf317,Tryz.zeroValue317,Tryz.underlying319,Tryz.isAgg319,Tryz.sizeOf319,Tryz.zeroValue319,Tryz.underlying82,Tryz.isAgg82,Tryz.sizeOf82,Tryz.zeroValue82⟩
theorem jQ {l:aa}(hp:Rw [tI] l/\l.length<=70368744177664):d5 257 [.one (.s 1 l)] [.s 1 (srtL l)] []:=by
 exact Dl (Any.slices_Sort_int_none Tryz.lays189) (Any.slices_Sort_int Tryz.lays189) l hp
namespace Lf1
structure av where
 layOk:aa->aa->Bool
 slN:Int->Int
 hsB:Int->Int->Bool
 aaI:Int->Int->Int->Int->Int
 srtL:aa->aa
abbrev F0 :av:=⟨layOk,slN,hsB,aaI,srtL⟩
def ct (F:av):CT:=fun f ds=>match f,ds with
 |144,[.one (.s 3 sp),.one (.s 3 lg)]=>some (fun _=>Rw [tI,tI,tI] sp/\Rw [tI,tI,tI] lg/\sp.length<=1073741824/\lg.length<=1073741824,[.k (F.layOk sp lg)])
 |251,[.one (.v (.int .i64 k))]=>some (fun _=>True,[.j (F.slN k)])
 |189,[.one (.v (.int .i64 b)),.one (.v (.int .i64 i))]=>some (fun _=>True,[.k (F.hsB b i)])
 |256,[.agg [.v (.int .i64 p),.v (.int .i64 k),.v (.int .i64 b)],.one (.v (.int .i64 s))]=>some (fun _=>True,[.j (F.aaI p k b s)])
 |_,_=>none
theorem ah :aO (ct F0):=by
 intro f ds pre res h hp;unfold ct at h;split at h<;>cases h
 exact fM hp;exact gj hp;exact gg hp;exact pY hp
def mt (F:av):MT:=fun f=>match f with
 | 257=>some fun ds=>match ds with
   |[.one (.s 1 l)]=>some (fun _=>Rw [tI] l/\l.length<=70368744177664,[.s 1 (F.srtL l)],[])
   |_=>none
 |_=>none
theorem cQ :fQ (mt F0):=by
 intro f mk h ds pre outs res hm hp;unfold mt at h;split at h
 ·cases h;dsimp only at hm;split at hm
  ·cases hm;exact jQ hp
  ·cases hm
 ·cases h
abbrev B :ce:={Φ:=av,F0:=F0,ct:=ct,hc:=ah,mt:=mt,hm:=cQ}
end Lf1
theorem nT {sp lg:aa}(hp:Rw [tI,tI,tI] sp/\Rw [tI,tI,tI] lg/\sp.length<=1073741824/\lg.length<=1073741824):ap 225 [.one (.s 3 sp),.one (.s 3 lg)] [.one (.s 1 (iaL sp lg))]:=by
 obtain⟨hs,hl,ns,nl⟩:=hp;refine cb Lf1.B Tryz.func225 ?_
 intro O r F hO hr hF;cbv
 repeat' first|apply And.intro|(apply be<;>intro hb<;>cbv)|(refine⟨[1,5,16,17,18],[5],Int×aa,fun s_=>match s_ with|(i,o)=>[.reg 18 (.j i),.reg 5 (.one (.vw 5 0 0 0 (O.ln o))),.leaf 5 0 ⟨0,0,none,.own (.s 1 o)⟩],fun s_=>match s_ with|(i,o)=>0<=i/\i<=(sp.length:Int)/\Nx sp i o,fun s_=>match s_ with|(i,o)=>sp.length-i.toNat,⟨(0,[]),?_,?_⟩,?_⟩;rotate_left;(focus (cbv;done));intro s_ hi;obtain⟨i,o⟩:=s_;replace hi:0<=i/\i<=(sp.length:Int)/\Nx sp i o:=hi;obtain⟨i0,i1,i2⟩:=hi;cbv)|(refine⟨[1,5,7,8,16,17,18],[5,7],Int×aa,fun s_=>match s_ with|(k,o1)=>[.reg 8 (.j k),.reg 5 (.one (.vw 5 0 0 0 (O.ln o1))),.leaf 5 0 ⟨0,0,none,.own (.s 1 o1)⟩],fun s_=>match s_ with|(k,o1)=>0<=k/\k<=slN (af sp i 1)/\Hj sp i k o1,fun s_=>match s_ with|(k,o1)=>(slN (af sp i 1)-k).toNat,⟨(0,o),?_,?_⟩,?_⟩;rotate_left;(focus (cbv;done));intro s_ hk;obtain⟨k,o1⟩:=s_;replace hk:0<=k/\k<=slN (af sp i 1)/\Hj sp i k o1:=hk;obtain⟨k0,k1,k2⟩:=hk;cbv)|(refine⟨[5,40,41,42],[5],Int×aa,fun s_=>match s_ with|(j,o2)=>[.reg 42 (.j j),.reg 5 (.one (.vw 5 0 0 0 (O.ln o2))),.leaf 5 0 ⟨0,0,none,.own (.s 1 o2)⟩],fun s_=>match s_ with|(j,o2)=>0<=j/\j<=(lg.length:Int)/\Je sp lg j o2,fun s_=>match s_ with|(j,o2)=>lg.length-j.toNat,⟨(0,o),?_,?_⟩,?_⟩;rotate_left;(focus (cbv;done));intro s_ hj;obtain⟨j,o2⟩:=s_;replace hj:0<=j/\j<=(lg.length:Int)/\Je sp lg j o2:=hj;obtain⟨j0,j1,j2⟩:=hj;cbv)|(refine ab (O.ar .add .i64 k 1,O.cat o1 (O.sub [[.i (F.aaI (O.gi sp i 0) (O.gi sp i 1) (O.gi sp i 2) k)]] 0 (O.ln [[.i (F.aaI (O.gi sp i 0) (O.gi sp i 1) (O.gi sp i 2) k)]]))) ?_ ?_ ?_;focus (cbv;done))|(refine ab (O.ar .add .i64 k 1,o1) ?_ ?_ ?_;focus (cbv;done))|(refine ab (O.ar .add .i64 i 1,o1) ?_ ?_ ?_;focus (cbv;done))|(refine ab (O.ar .add .i64 j 1,O.cat o2 (O.sub [[.i (O.ar .mul .i64 (O.gi lg j 0) 16)]] 0 (O.ln [[.i (O.ar .mul .i64 (O.gi lg j 0) 16)]]))) ?_ ?_ ?_;focus (cbv;done))
 all_goals(subst hO hr hF;(try simp only[nc]at*);(try simp only[ai,SS,sa,az]at*);(try rw[bX (by omega) (by omega)]);(try have z1:=TG (sp:=sp) (lg:=lg) (i:=i) (by assumption) i0 (by assumption));(try have z6:bu .add .i64 k 1=k+1:=bj (by omega));(try simp only[z6]at*);(try have z7:=SG (sp:=sp) (lg:=lg) (j:=j) (by assumption) j0 (by assumption));(try have z8:bu .mul .i64 (af lg j 0) 16=af lg j 0*16:=AF (by omega));(try simp only[z8]at*))
 all_goals first
  | (show(_:List DV)=_
     first
      |(refine gH ?_;exact Sn (by assumption))
      |(refine gH ?_;exact LU j2 j1 (by assumption) (by assumption))
      |done)
  |omega
  |exact d9
  |(show aU _ _=true;kernel_rfl)
  |exact scal_one
  |exact⟨hs,hl,ns,nl⟩
  |exact OO j2 (by omega) (by omega)
  |(have q:=LR k2;constructor<;>(simp only[List.length_cons,List.length_nil];omega))
  |(have q:=EY j2;constructor<;>(simp only[List.length_cons,List.length_nil];omega))
  |exact LS k2 k0 (by assumption)
  |exact ON k2 k0 (by assumption)
  |exact LQ k2 i0 k1 (by assumption) z1
  |exact Sv i2
  |exact Sw i2 i1 (by assumption)
  |exact OP j2 j0 z7
  |exact Sl
  |exact zq
  |exact⟨True.intro,zq.symm⟩
  |exact⟨True.intro,True.intro⟩
  |exact True.intro
  |done
end Go.V