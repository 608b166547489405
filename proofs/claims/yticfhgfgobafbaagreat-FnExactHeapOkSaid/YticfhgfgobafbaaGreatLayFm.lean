/- Contracts. -/
import Derived.Test.YticfhgfgobafbaaGreatHB
import Derived.Test.YticfhgfgobafbaaGreatLayEm
set_option linter.all false
namespace Go.V
open Go Go.Proofs
set_option maxRecDepth 1000000
set_option maxHeartbeats 8000000
def Tryz.lays189_ren :Go.Shelf.Ren:=⟨fun|189=>113|125=>185|257=>184|128=>229|129=>230|294=>220|295=>221|296=>222|297=>223|298=>224|299=>225|216=>226|300=>227|301=>228|328=>239|329=>240|330=>241|331=>242|332=>243|215=>244|343=>246|n=>n,fun|28=>31|3=>3|46=>233|0=>0|51=>263|53=>265|4=>4|183=>256|182=>255|131=>260|5=>5|9=>9|218=>274|222=>278|228=>281|229=>222|n=>n,fun|n=>n⟩
theorem Tryz.lays189 :Lays.n189 Tryz.prog Tryz.lays189_ren:=⟨by kernel_rfl,Tryz.func185.trans (congrArg some (by kernel_rfl)),Tryz.func229.trans (congrArg some (by kernel_rfl)),Tryz.func230.trans (congrArg some (by kernel_rfl)),Tryz.func113.trans (congrArg some (by kernel_rfl)),Tryz.func244.trans (congrArg some (by kernel_rfl)),Tryz.func226.trans (congrArg some (by kernel_rfl)),Tryz.func184.trans (congrArg some (by kernel_rfl)),Tryz.func220.trans (congrArg some (by kernel_rfl)),Tryz.func221.trans (congrArg some (by kernel_rfl)),Tryz.func222.trans (congrArg some (by kernel_rfl)),Tryz.func223.trans (congrArg some (by kernel_rfl)),Tryz.func224.trans (congrArg some (by kernel_rfl)),Tryz.func225.trans (congrArg some (by kernel_rfl)),Tryz.func227.trans (congrArg some (by kernel_rfl)),Tryz.func228.trans (congrArg some (by kernel_rfl)),Tryz.func239.trans (congrArg some (by kernel_rfl)),Tryz.func240.trans (congrArg some (by kernel_rfl)),Tryz.func241.trans (congrArg some (by kernel_rfl)),Tryz.func242.trans (congrArg some (by kernel_rfl)),Tryz.func243.trans (congrArg some (by kernel_rfl)),Tryz.func246.trans (congrArg some (by kernel_rfl)),Tryz.underlying0,Tryz.isAgg0,Tryz.sizeOf0,Tryz.zeroValue0,Tryz.underlying3,Tryz.isAgg3,Tryz.sizeOf3,Tryz.zeroValue3,Tryz.underlying4,Tryz.isAgg4,Tryz.sizeOf4,Tryz.zeroValue4,Tryz.underlying5,Tryz.isAgg5,Tryz.sizeOf5,Tryz.zeroValue5,Tryz.underlying9,Tryz.isAgg9,Tryz.sizeOf9,Tryz.zeroValue9,Tryz.underlying31,Tryz.isAgg31,Tryz.sizeOf31,Tryz.zeroValue31,Tryz.underlying233,Tryz.isAgg233,Tryz.sizeOf233,Tryz.zeroValue233,Tryz.underlying263,Tryz.isAgg263,Tryz.sizeOf263,Tryz.zeroValue263,Tryz.underlying265,Tryz.isAgg265,Tryz.sizeOf265,Tryz.zeroValue265,Tryz.underlying260,Tryz.isAgg260,Tryz.sizeOf260,Tryz.zeroValue260,Tryz.underlying255,Tryz.isAgg255,Tryz.sizeOf255,Tryz.zeroValue255,Tryz.underlying256,Tryz.isAgg256,Tryz.sizeOf256,Tryz.zeroValue256,Tryz.underlying274,Tryz.isAgg274,Tryz.sizeOf274,Tryz.zeroValue274,Tryz.underlying278,Tryz.isAgg278,Tryz.sizeOf278,Tryz.zeroValue278,Tryz.underlying281,Tryz.isAgg281,Tryz.sizeOf281,Tryz.zeroValue281,Tryz.underlying222,Tryz.isAgg222,Tryz.sizeOf222,Tryz.zeroValue222⟩
theorem iE {l:aa}(hp:Rw [tI] l/\l.length<=70368744177664):dK 113 [.one (.s 1 l)] [.s 1 (srtL l)] []:=by
 exact Aj (Any.slices_Sort_int_none Tryz.lays189) (Any.slices_Sort_int Tryz.lays189) l hp
namespace Lf1
structure aO where
 layOk:aa->aa->Bool
 slN:Int->Int
 hsB:Int->Int->Bool
 aaI:Int->Int->Int->Int->Int
 srtL:aa->aa
abbrev F0 :aO:=⟨layOk,slN,hsB,aaI,srtL⟩
def ct (F:aO):CT:=fun f ds=>match f,ds with
 |79,[.one (.s 3 sp),.one (.s 3 lg)]=>some (fun _=>Rw [tI,tI,tI] sp/\Rw [tI,tI,tI] lg/\sp.length<=1073741824/\lg.length<=1073741824,[.k (F.layOk sp lg)])
 |110,[.one (.v (.int .i64 k))]=>some (fun _=>True,[.j (F.slN k)])
 |111,[.one (.v (.int .i64 b)),.one (.v (.int .i64 i))]=>some (fun _=>True,[.k (F.hsB b i)])
 |112,[.agg [.v (.int .i64 p),.v (.int .i64 k),.v (.int .i64 b)],.one (.v (.int .i64 s))]=>some (fun _=>True,[.j (F.aaI p k b s)])
 |_,_=>none
theorem aj :aR (ct F0):=by
 intro f ds pre res h hp;unfold ct at h;split at h<;>cases h
 exact ip hp;exact fj hp;exact iM hp;exact nS hp
def mt (F:aO):MT:=fun f=>match f with
 | 113=>some fun ds=>match ds with
   |[.one (.s 1 l)]=>some (fun _=>Rw [tI] l/\l.length<=70368744177664,[.s 1 (F.srtL l)],[])
   |_=>none
 |_=>none
theorem db :fK (mt F0):=by
 intro f mk h ds pre outs res hm hp;unfold mt at h;split at h
 ·cases h;dsimp only at hm;split at hm
  ·cases hm;exact iE hp
  ·cases hm
 ·cases h
abbrev B :cD:={Φ:=aO,F0:=F0,ct:=ct,hc:=aj,mt:=mt,hm:=db}
end Lf1
theorem gy {sp lg:aa}(hp:Rw [tI,tI,tI] sp/\Rw [tI,tI,tI] lg/\sp.length<=1073741824/\lg.length<=1073741824):ao 38 [.one (.s 3 sp),.one (.s 3 lg)] [.one (.s 1 (iaL sp lg))]:=by
 obtain⟨hs,hl,ns,nl⟩:=hp;refine cb Lf1.B Tryz.func38 ?_
 intro O r F hO hr hF;cbv
 repeat' first|apply And.intro|(apply bi<;>intro hb<;>cbv)|(refine⟨[1,5,16,17,18],[5],Int×aa,fun s_=>match s_ with|(i,o)=>[.reg 18 (.j i),.reg 5 (.one (.vw 5 0 0 0 (O.ln o))),.leaf 5 0 ⟨0,0,none,.own (.s 1 o)⟩],fun s_=>match s_ with|(i,o)=>0<=i/\i<=(sp.length:Int)/\IB sp i o,fun s_=>match s_ with|(i,o)=>sp.length-i.toNat,⟨(0,[]),?_,?_⟩,?_⟩;rotate_left;(focus (cbv;done));intro s_ hi;obtain⟨i,o⟩:=s_;replace hi:0<=i/\i<=(sp.length:Int)/\IB sp i o:=hi;obtain⟨i0,i1,i2⟩:=hi;cbv)|(refine⟨[1,5,7,8,16,17,18],[5,7],Int×aa,fun s_=>match s_ with|(k,o1)=>[.reg 8 (.j k),.reg 5 (.one (.vw 5 0 0 0 (O.ln o1))),.leaf 5 0 ⟨0,0,none,.own (.s 1 o1)⟩],fun s_=>match s_ with|(k,o1)=>0<=k/\k<=slN (af sp i 1)/\Dq sp i k o1,fun s_=>match s_ with|(k,o1)=>(slN (af sp i 1)-k).toNat,⟨(0,o),?_,?_⟩,?_⟩;rotate_left;(focus (cbv;done));intro s_ hk;obtain⟨k,o1⟩:=s_;replace hk:0<=k/\k<=slN (af sp i 1)/\Dq sp i k o1:=hk;obtain⟨k0,k1,k2⟩:=hk;cbv)|(refine⟨[5,40,41,42],[5],Int×aa,fun s_=>match s_ with|(j,o2)=>[.reg 42 (.j j),.reg 5 (.one (.vw 5 0 0 0 (O.ln o2))),.leaf 5 0 ⟨0,0,none,.own (.s 1 o2)⟩],fun s_=>match s_ with|(j,o2)=>0<=j/\j<=(lg.length:Int)/\EY sp lg j o2,fun s_=>match s_ with|(j,o2)=>lg.length-j.toNat,⟨(0,o),?_,?_⟩,?_⟩;rotate_left;(focus (cbv;done));intro s_ hj;obtain⟨j,o2⟩:=s_;replace hj:0<=j/\j<=(lg.length:Int)/\EY sp lg j o2:=hj;obtain⟨j0,j1,j2⟩:=hj;cbv)|(refine ab (O.ar .add .i64 k 1,O.cat o1 (O.sub [[.i (F.aaI (O.gi sp i 0) (O.gi sp i 1) (O.gi sp i 2) k)]] 0 (O.ln [[.i (F.aaI (O.gi sp i 0) (O.gi sp i 1) (O.gi sp i 2) k)]]))) ?_ ?_ ?_;focus (cbv;done))|(refine ab (O.ar .add .i64 k 1,o1) ?_ ?_ ?_;focus (cbv;done))|(refine ab (O.ar .add .i64 i 1,o1) ?_ ?_ ?_;focus (cbv;done))|(refine ab (O.ar .add .i64 j 1,O.cat o2 (O.sub [[.i (O.ar .mul .i64 (O.gi lg j 0) 16)]] 0 (O.ln [[.i (O.ar .mul .i64 (O.gi lg j 0) 16)]]))) ?_ ?_ ?_;focus (cbv;done))
 all_goals(subst hO hr hF;(try simp only[nc]at*);(try simp only[ai,SS,sa,az]at*);(try rw[cB (by omega) (by omega)]);(try have z1:=Ny (sp:=sp) (lg:=lg) (i:=i) (by assumption) i0 (by assumption));(try have z6:bP .add .i64 k 1=k+1:=bC (by omega));(try simp only[z6]at*);(try have z7:=MJ (sp:=sp) (lg:=lg) (j:=j) (by assumption) j0 (by assumption));(try have z8:bP .mul .i64 (af lg j 0) 16=af lg j 0*16:=HS (by omega));(try simp only[z8]at*))
 all_goals first
  | (show(_:List DV)=_
     first
      |(refine hP ?_;exact MB (by assumption))
      |(refine hP ?_;exact Hk j2 j1 (by assumption) (by assumption))
      |done)
  |omega
  |exact eZ
  |(show bz _ _=true;kernel_rfl)
  |exact scal_one
  |exact⟨hs,hl,ns,nl⟩
  |exact JN j2 (by omega) (by omega)
  |(have q:=Hi k2;constructor<;>(simp only[List.length_cons,List.length_nil];omega))
  |(have q:=BB j2;constructor<;>(simp only[List.length_cons,List.length_nil];omega))
  |exact Hj k2 k0 (by assumption)
  |exact JM k2 k0 (by assumption)
  |exact Hh k2 i0 k1 (by assumption) z1
  |exact MC i2
  |exact MD i2 i1 (by assumption)
  |exact JO j2 j0 z7
  |exact MA
  |exact wK
  |exact⟨True.intro,wK.symm⟩
  |exact⟨True.intro,True.intro⟩
  |exact True.intro
  |done
end Go.V