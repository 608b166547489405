/- Contracts. -/
import Derived.Test.YtcbcfelbafccpaaGreatXM0
set_option linter.all false
open Go
open And renaming intro->Zc
open IntKind renaming i64->Za
open List renaming length_cons->Zr,length_nil->Zs
open True renaming intro->Zd
namespace Go.V
open Go Go.Proofs
set_option maxRecDepth 1000000
set_option maxHeartbeats 8000000
abbrev La0:dq:=dP (fun F f=>match f with|91=>dd F|62=>cH F|52=>ah F|_=>fun _=>none) (by
 intro f;dsimp only;split;exact dW;exact cV;exact be;exact dy)
def db:EC:=fun F=>fun
 |[.one (.v (.int Za k))]=>some (fun _=>True,[.j (F.slN k)])
 |_=>none
def dV:ec 106 db:=by
 intro _ _ _ h hp;dsimp only[db,F0]at h;split at h<;>cases h
 rename_i k;refine cb La0 Tryz.func106 ?_
 intro O r F hO hr hF;cbv
 repeat' first|apply Zc|(apply cN<;>intro hb<;>cbv)
 all_goals(subst hO hr hF;(try simp only[nc]at*);(try simp only[am,SS,sa,az]at*))
 all_goals first
  | (show(_:List DV)=_
     first
      |exact cg (H9 Ud)
      |exact cg (Ia Ud).symm
      |done)
  |(have:=lq (k:=k) Ud;omega)
  |done
abbrev La1:dq:=dP (fun F f=>match f with|19=>ah F|52=>ah F|_=>fun _=>none) (by
 intro f;dsimp only;split;exact aw;exact be;exact dy)
def fM:EC:=fun F=>fun
 |[.one (.v (.int Za n)),.one (.v (.int Za b))]=>some (fun _=>True,[.k (F.bmOk n b)])
 |_=>none
def mH:ec 125 fM:=by
 intro _ _ _ h hp;dsimp only[fM,F0]at h;split at h<;>cases h
 rename_i n b;refine cb La1 Tryz.func125 ?_
 intro O r F hO hr hF;cbv
 repeat' first|apply Zc|(apply cN<;>intro hb<;>cbv)
 all_goals(subst hO hr hF;(try simp only[nc]at*);(try simp only[am,SS,sa,az]at*);(try(have e:=aaw (n:=n) Ud;simp only[e.1])))
 all_goals first
  | (show(_:List DV)=_
     first
      |exact au (MX Ud).symm
      |exact au (QV Ud).symm
      |done)
  |(have:=bB.1 (‹inR n 1 16=true›);omega)
  |done
abbrev La2:dq:=dP (fun F f=>match f with|19=>ah F|91=>dd F|106=>db F|125=>fM F|52=>ah F|_=>fun _=>none) (by
 intro f;dsimp only;split;exact aw;exact dW;exact dV;exact mH;exact be;exact dy)
def eD:EC:=fun F=>fun
 |[.agg [.v (.int Za p),.v (.int Za k),.v (.int Za b)]]=>some (fun _=>True,[.k (F.spOk p k b)])
 |_=>none
def iI:ec 84 eD:=by
 intro _ _ _ h hp;dsimp only[eD,F0]at h;split at h<;>cases h
 rename_i p k b;refine cb La2 Tryz.func84 ?_
 intro O r F hO hr hF;cbv
 repeat' first|apply Zc|(apply cN<;>intro hb<;>cbv)
 all_goals(subst hO hr hF;(try simp only[nc]at*);(try simp only[am,SS,sa,az]at*))
 all_goals first
  | (show(_:List DV)=_
     first
      |exact au (PO Ud).symm
      |exact au (PM Ud).symm
      |exact au (PN Ud).symm
      |done)
  |(show ay _ _=true;kernel_rfl)
  |done
def cF:EC:=fun F=>fun
 |[.one (.v (.int Za s))]=>some (fun _=>True,[.j (F.pfN s)])
 |_=>none
def je:ec 68 cF:=by
 intro _ _ _ h hp;dsimp only[cF,F0]at h;split at h<;>cases h
 rename_i s;refine cb La1 Tryz.func68 ?_
 exact zq2
def ji:ec 14 cF:=by
 intro _ _ _ h hp;dsimp only[cF,F0]at h;split at h<;>cases h
 rename_i s;refine cb La1 Tryz.func14 ?_
 exact zq2
abbrev La3:dq:=dP (fun F f=>match f with|19=>ah F|68=>cF F|14=>cF F|52=>ah F|_=>fun _=>none) (by
 intro f;dsimp only;split;exact aw;exact je;exact ji;exact be;exact dy)
def eV:EC:=fun F=>fun
 |[.agg [.v (.int Za p),.v (.int Za n),.v (.int Za s)]]=>some (fun _=>True,[.k (F.lgOk p n s)])
 |_=>none
def jQ:ec 75 eV:=by
 intro _ _ _ h hp;dsimp only[eV,F0]at h;split at h<;>cases h
 rename_i p n s;refine cb La3 Tryz.func75 ?_
 intro O r F hO hr hF;cbv
 repeat' first|apply Zc|(apply cN<;>intro hb<;>cbv)
 all_goals(subst hO hr hF;(try simp only[nc]at*);(try simp only[am,SS,sa,az]at*))
 all_goals first
  | (show(_:List DV)=_
     first
      |(have b:=m8 (s:=s) Ud;rw[show bK .sub Za 32 n=32-n from fC Uc];exact au (Ov Ud Ud).symm)
      |exact au (Or Ud).symm
      |exact au (Ot Ud).symm
      |done)
  |(show ay _ _=true;kernel_rfl)
  |done
abbrev La4:dq:=dP (fun F f=>match f with|19=>ah F|84=>eD F|62=>cH F|106=>db F|75=>eV F|_=>fun _=>none) (by
 intro f;dsimp only;split;exact aw;exact iI;exact cV;exact dV;exact jQ;exact dy)
def kP:EC:=fun F=>fun
 |[.agg [.v (.int Za p),.v (.int Za k),.v (.int Za b)],.one (.v (.int Za a))]=>some (fun _=>True,[.j (F.saS p k b a),.j (F.saO p k b a)])
 |_=>none
def wJ:ec 129 kP:=by
 intro _ _ _ h hp;dsimp only[kP,F0]at h;split at h<;>cases h
 rename_i p k b a;refine cb La4 Tryz.func129 ?_
 intro O r F hO hr hF;cbv
 repeat' first|apply Zc|(apply cN<;>intro hb<;>cbv)
 all_goals(subst hO hr hF;(try simp only[nc]at*);(try simp only[am,SS,sa,az]at*);(try(have t:=oT (p:=p) (k:=k) (b:=b) Ud;have c:=lq t.2.2.1;have e:=T0 (p:=p) ⟨t.1,t.2.1⟩;try simp only[e.1,e.2]at*)))
 all_goals first
  | (show(_:List DV)=_
     first
      |(have q:=KJ (p:=p) (k:=k) (b:=b) (a:=a) Ud Ud;exact o9 q.1.symm q.2.symm)
      |(have q:=H3 (aar (p:=p) (k:=k) (b:=b) (a:=a) Ud);exact o9 q.1.symm q.2.symm)
      |(have q:=H3 (aas (p:=p) (k:=k) (b:=b) (a:=a) Ud);exact o9 q.1.symm q.2.symm)
      |done)
  |(show ay _ _=true;kernel_rfl)
  |omega
  |done
def ew:EC:=fun F=>fun
 |[.agg [.v (.int Za p),.v (.int Za k),.v (.int Za b)],.one (.v (.int Za s))]=>some (fun _=>True,[.j (F.aaI p k b s)])
 |_=>none
def jg:ec 110 ew:=by
 intro _ _ _ h hp;dsimp only[ew,F0]at h;split at h<;>cases h
 rename_i p k b s;refine cb La4 Tryz.func110 ?_
 intro O r F hO hr hF;cbv
 repeat' first|apply Zc|(apply cN<;>intro hb<;>cbv)
 all_goals(subst hO hr hF;(try simp only[nc]at*);(try simp only[am,SS,sa,az]at*);(try(have t:=oT (p:=p) (k:=k) (b:=b) Ud;have c:=lq t.2.2.1;have e:bK .sub Za (slN k) 1=slN k-1:=fC Uc;try simp only[e]at*)))
 all_goals first
  | (show(_:List DV)=_
     first
      |exact cg (MU Ud Ud)
      |exact cg (Lc (.inl Ud)).symm
      |exact cg (Lc (.inr Ud)).symm
      |done)
  |(show ay _ _=true;kernel_rfl)
  |done
def fP:EC:=fun F=>fun
 |[.agg [.v (.int Za p),.v (.int Za n),.v (.int Za s)],.one (.v (.int Za a))]=>some (fun _=>True,[.k (F.lhB p n s a)])
 |_=>none
def mJ:ec 131 fP:=by
 intro _ _ _ h hp;dsimp only[fP,F0]at h;split at h<;>cases h
 rename_i p n s a;refine cb La4 Tryz.func131 ?_
 intro O r F hO hr hF;cbv
 repeat' first|apply Zc|(apply cN<;>intro hb<;>cbv)
 all_goals(subst hO hr hF;(try simp only[nc]at*);(try simp only[am,SS,sa,az]at*);(try(have e:=LQ (p:=p) (n:=n) (s:=s) Ud;try simp only[e.2.2])))
 all_goals first
  | (show(_:List DV)=_
     first
      |(rw[e.1];exact au (Oy Ud).symm)
      |exact au (Ow Ud).symm
      |done)
  |done
abbrev La5:dq:=dP (fun F f=>match f with|131=>fP F|_=>fun _=>none) (by
 intro f;dsimp only;split;exact mJ;exact dy)
def fY:EC:=fun F=>fun
 |[.agg [.v (.int Za p),.v (.int Za n),.v (.int Za s)],.one (.v (.int Za a))]=>some (fun _=>True,[.j (F.loI p n s a)])
 |_=>none
def po:ec 132 fY:=by
 intro _ _ _ h hp;dsimp only[fY,F0]at h;split at h<;>cases h
 rename_i p n s a;refine cb La5 Tryz.func132 ?_
 intro O r F hO hr hF;cbv
 repeat' first|apply Zc|(apply cN<;>intro hb<;>cbv)
 all_goals(subst hO hr hF;(try simp only[nc]at*);(try simp only[am,SS,sa,az]at*))
 all_goals first
  | (show(_:List DV)=_
     first
      |exact cg (SY Ud)
      |exact cg (SZ Ud).symm
      |done)
  |done
def gE:EP:=fun F=>fun
 |[.one (.v (.int Za pg)),.mp [.own (.m true es)]]=>some (fun _=>True,[[.own (.m true (F.muT es pg))]],[.k (!(F.mgbI es pg))])
 |_=>none
def pU:ep 83 gE:=by
 intro _ _ _ _ h hp;dsimp only[gE,F0]at h;split at h<;>cases h
 rename_i pg es;refine pb nB Tryz.func83 ?_
 intro O r os F hO hr hos hF;cbv
 repeat' first|apply Zc|(apply cN<;>intro hb<;>cbv)
 all_goals((try subst hos);subst hO hr hF;(try simp only[nc]at*);(try simp only[am,SS,sa,az]at*))
 all_goals first|(show(_:List DV)=_;exact rfl)|(show(_:List H)=_;exact rfl)|done
abbrev Lc1:dq:={
 Φ:=wC
 F0:=F0
 ct:=fun F f=>match f with|84=>eD F|75=>eV F|_=>fun _=>none
 hc:=(by
  intro f;dsimp only;split;exact iI;exact jQ;exact dy)
 pt:=fun F f=>match f with|83=>some (gE F)|_=>none
 hp:=(by
  intro f mk h;dsimp only at h;split at h<;>cases h
  exact pU)}
def fQ:EC:=fun F=>fun
 |[.one (.s 3 sp),.one (.s 3 lg)]=>some (fun _=>Rw [tI,tI,tI] sp/\Rw [tI,tI,tI] lg/\sp.length<=1073741824/\lg.length<=1073741824,[.k (F.layOk sp lg)])
 |_=>none
def mK:ec 42 fQ:=by
 intro _ _ _ h hp;dsimp only[fQ,F0]at h;split at h<;>cases h
 rename_i sp lg;obtain⟨hs,hl,ns,nl⟩:=hp;refine cb Lc1 Tryz.func42 ?_
 intro O r F hO hr hF;cbv
 repeat' first|apply Zc|(apply cN<;>intro hb<;>cbv)|(refine⟨[1,6,14,15,16],[5],Int×af,fun s_=>match s_ with|(i,es)=>[.reg 16 (.j i),.leaf 5 0 ⟨0,0,none,.own (.m true es)⟩],fun s_=>match s_ with|(i,es)=>0<=i/\i<=(sp.length:Int)/\MI sp i es,fun s_=>match s_ with|(i,es)=>sp.length-i.toNat,⟨(0,[]),?_,?_⟩,?_⟩;rotate_left;(focus (cbv;done));intro s_ hi;obtain⟨i,es⟩:=s_;replace hi:0<=i/\i<=(sp.length:Int)/\MI sp i es:=hi;obtain⟨i0,i1,i2⟩:=hi;cbv)|(refine⟨[6,31,32,33],[5],Int×af,fun s_=>match s_ with|(j,es1)=>[.reg 33 (.j j),.leaf 5 0 ⟨0,0,none,.own (.m true es1)⟩],fun s_=>match s_ with|(j,es1)=>0<=j/\j<=(lg.length:Int)/\Qm sp lg j es1,fun s_=>match s_ with|(j,es1)=>lg.length-j.toNat,⟨(0,es),?_,?_⟩,?_⟩;rotate_left;(focus (cbv;done));intro s_ hj;obtain⟨j,es1⟩:=s_;replace hj:0<=j/\j<=(lg.length:Int)/\Qm sp lg j es1:=hj;obtain⟨j0,j1,j2⟩:=hj;cbv)|(refine⟨[6,10,11,31,32,33],[5,10],Int×af,fun s_=>match s_ with|(k,es2)=>[.reg 11 (.j k),.leaf 5 0 ⟨0,0,none,.own (.m true es2)⟩],fun s_=>match s_ with|(k,es2)=>0<=k/\k<=ag lg j 1/\MG sp lg j k es2,fun s_=>match s_ with|(k,es2)=>(ag lg j 1-k).toNat,⟨(0,es1),?_,?_⟩,?_⟩;rotate_left;(focus (cbv;done));intro s_ hk;obtain⟨k,es2⟩:=s_;replace hk:0<=k/\k<=ag lg j 1/\MG sp lg j k es2:=hk;obtain⟨k0,k1,k2⟩:=hk;cbv)|(refine ai (O.ar .add Za k 1,F.muT es2 (O.ar .add Za (O.gi lg j 0) k)) ?_ ?_ ?_;focus (cbv;done))|(refine ai (O.ar .add Za j 1,es2) ?_ ?_ ?_;focus (cbv;done))|(refine ai (O.ar .add Za i 1,F.muT es (O.gi sp i 0)) ?_ ?_ ?_;focus (cbv;done))
 all_goals(subst hO hr hF;(try simp only[nc]at*);(try simp only[am,SS,sa,az]at*);(try rw[di Uc Uc]);(try have z:=(acQ (k:=k) Ud k0 Ud));(try(obtain⟨z1,z2,z3,z4,z5⟩:=z));(try have z6:bK .add Za k 1=k+1:=cu Uc);(try simp only[z3]at*);(try simp only[z6]at*))
 all_goals first
  | (show(_:List DV)=_
     first
      |(refine au ?_;symm;exact Ob i2 i0 Ud (Tn (b:=mgbI es (ag sp i 0)) hb))
      |(refine au ?_;symm;exact N0 k2 j0 Ud k0 Ud (Tn (b:=mgbI es2 (ag lg j 0+k)) hb))
      |(refine au ?_;symm;exact J4 i0 Ud Ud)
      |(refine au ?_;symm;exact J5 j0 Ud Ud)
      |(refine au ?_;symm;exact N7 j2 j1 Ud)
      |done)
  |omega
  |exact ga
  |exact SC i2 i0 Ud (To (b:=mgbI es (ag sp i 0)) hb)
  |exact Sn k2 k0 (To (b:=mgbI es2 (ag lg j 0+k)) hb)
  |exact N6 k2 j0 Ud k1 Ud
  |exact acw j2
  |exact Oc i2 i1 Ud
  |exact acx
  |(have t:=lC Ud;have b:=m8 t.1;omega)
  |done
abbrev Ld1:dq:=dP (fun F f=>match f with|129=>kP F|130=>dX F|131=>fP F|132=>fY F|_=>fun _=>none) (by
 intro f;dsimp only;split;exact wJ;exact gw;exact mJ;exact po;exact dy)
def gL:EC:=fun F=>fun
 |[.one (.s 3 sp),.one (.s 3 lg),.one (.v (.int Za a))]=>some (fun _=>Rw [tI,tI,tI] sp/\Rw [tI,tI,tI] lg,[.agg [.i (F.dnK sp lg a),.i (F.dnI sp lg a),.i (F.dnS sp a),.i (F.dnO sp lg a)]])
 |_=>none
def nj:ec 94 gL:=by
 intro _ _ _ h hp;dsimp only[gL,F0]at h;split at h<;>cases h
 rename_i sp lg a;obtain⟨hs,hl⟩:=hp;have ms:=hs.1;unfold maxLen at ms;have ml:=hl.1;unfold maxLen at ml;refine cb Ld1 Tryz.func94 ?_
 intro O r F hO hr hF;cbv
 repeat' first|apply Zc|(apply cN<;>intro hb<;>cbv)|(refine⟨[1,2,6,14,15,16],[6],Int,fun i=>[.reg 16 (.j i)],fun i=>0<=i/\i<=((sp.length:Nat):Int)/\upto (cI (yW sp a)) i,fun i=>(sp.length)-i.toNat,⟨0,?_,?_⟩,?_⟩;rotate_left;(focus (cbv;done));intro i hi;replace hi:0<=i/\i<=((sp.length:Nat):Int)/\upto (cI (yW sp a)) i:=hi;obtain⟨i0,i1,i2⟩:=hi;cbv)|(refine ai (O.ar .add Za i 1) ?_ ?_ ?_;focus (cbv;done))|(refine⟨[2,6,39,40,41],[6],Int,fun j=>[.reg 41 (.j j)],fun j=>0<=j/\j<=((lg.length:Nat):Int)/\upto (cI (yz lg a)) j,fun j=>(lg.length)-j.toNat,⟨0,?_,?_⟩,?_⟩;rotate_left;(focus (cbv;done));intro j hj;replace hj:0<=j/\j<=((lg.length:Nat):Int)/\upto (cI (yz lg a)) j:=hj;obtain⟨j0,j1,j2⟩:=hj;cbv)|(refine ai (O.ar .add Za j 1) ?_ ?_ ?_;focus (cbv;done))
 all_goals(subst hO hr hF;(try simp only[nc]at*);(try simp only[am,SS,sa,az]at*);(try rw[di Uc Uc]))
 all_goals first
  | (show(_:List DV)=_
     first
      |exact ow1 i2 i0 Ud Ud Ud
      |exact ow2 i2 i0 Ud Ud Ud
      |exact ow3 i2 Ud j2 j0 Ud Ud
      |exact ow4 i2 Ud j2 Ud
      |done)
  |omega
  |exact ga
  |exact adr i2 Ud
  |exact acM j2 Ud
  |exact bR
  |done
def Tryz.lays189_ren:Go.Shelf.Ren:=⟨fun|189=>133|125=>150|257=>149|128=>164|129=>165|294=>155|295=>156|296=>157|297=>158|298=>159|299=>160|216=>161|300=>162|301=>163|328=>167|329=>168|330=>169|331=>170|332=>171|215=>172|343=>173|n=>n,fun|28=>24|3=>3|46=>170|0=>0|51=>223|53=>225|4=>4|183=>217|182=>216|131=>85|5=>5|9=>9|218=>227|222=>231|228=>233|229=>63|n=>n,fun|n=>n⟩
def Tryz.lays189:Lays.n189 Tryz.prog Tryz.lays189_ren:=⟨by kernel_rfl,Tryz.func150.trans (congrArg some (by kernel_rfl)),Tryz.func164.trans (congrArg some (by kernel_rfl)),Tryz.func165.trans (congrArg some (by kernel_rfl)),Tryz.func133.trans (congrArg some (by kernel_rfl)),Tryz.func172.trans (congrArg some (by kernel_rfl)),Tryz.func161.trans (congrArg some (by kernel_rfl)),Tryz.func149.trans (congrArg some (by kernel_rfl)),Tryz.func155.trans (congrArg some (by kernel_rfl)),Tryz.func156.trans (congrArg some (by kernel_rfl)),Tryz.func157.trans (congrArg some (by kernel_rfl)),Tryz.func158.trans (congrArg some (by kernel_rfl)),Tryz.func159.trans (congrArg some (by kernel_rfl)),Tryz.func160.trans (congrArg some (by kernel_rfl)),Tryz.func162.trans (congrArg some (by kernel_rfl)),Tryz.func163.trans (congrArg some (by kernel_rfl)),Tryz.func167.trans (congrArg some (by kernel_rfl)),Tryz.func168.trans (congrArg some (by kernel_rfl)),Tryz.func169.trans (congrArg some (by kernel_rfl)),Tryz.func170.trans (congrArg some (by kernel_rfl)),Tryz.func171.trans (congrArg some (by kernel_rfl)),Tryz.func173.trans (congrArg some (by kernel_rfl)),Tryz.underlying0,Tryz.isAgg0,Tryz.sizeOf0,Tryz.zeroValue0,Tryz.underlying3,Tryz.isAgg3,Tryz.sizeOf3,Tryz.zeroValue3,Tryz.underlying4,Tryz.isAgg4,Tryz.sizeOf4,Tryz.zeroValue4,Tryz.underlying5,Tryz.isAgg5,Tryz.sizeOf5,Tryz.zeroValue5,Tryz.underlying9,Tryz.isAgg9,Tryz.sizeOf9,Tryz.zeroValue9,Tryz.underlying24,Tryz.isAgg24,Tryz.sizeOf24,Tryz.zeroValue24,Tryz.underlying170,Tryz.isAgg170,Tryz.sizeOf170,Tryz.zeroValue170,Tryz.underlying223,Tryz.isAgg223,Tryz.sizeOf223,Tryz.zeroValue223,Tryz.underlying225,Tryz.isAgg225,Tryz.sizeOf225,Tryz.zeroValue225,Tryz.underlying85,Tryz.isAgg85,Tryz.sizeOf85,Tryz.zeroValue85,Tryz.underlying216,Tryz.isAgg216,Tryz.sizeOf216,Tryz.zeroValue216,Tryz.underlying217,Tryz.isAgg217,Tryz.sizeOf217,Tryz.zeroValue217,Tryz.underlying227,Tryz.isAgg227,Tryz.sizeOf227,Tryz.zeroValue227,Tryz.underlying231,Tryz.isAgg231,Tryz.sizeOf231,Tryz.zeroValue231,Tryz.underlying233,Tryz.isAgg233,Tryz.sizeOf233,Tryz.zeroValue233,Tryz.underlying63,Tryz.isAgg63,Tryz.sizeOf63,Tryz.zeroValue63⟩
def eH:EM:=fun F=>fun
 |[.one (.s 1 l)]=>some (fun _=>Rw [tI] l/\l.length<=70368744177664,[.s 1 (F.srtL l)],[])
 |_=>none
def mX:em 133 eH:=by
 intro _ _ _ _ h hp;dsimp only[eH,F0]at h;split at h<;>cases h
 rename_i l;exact E9 (Any.slices_Sort_int_none Tryz.lays189) (Any.slices_Sort_int Tryz.lays189) l hp
abbrev Lf1:dq:={
 Φ:=wC
 F0:=F0
 ct:=fun F f=>match f with|42=>fQ F|106=>db F|130=>dX F|110=>ew F|_=>fun _=>none
 hc:=(by
  intro f;dsimp only;split;exact mK;exact dV;exact gw;exact jg;exact dy)
 mt:=fun F f=>match f with|133=>some (eH F)|_=>none
 hm:=(by
  intro f mk h;dsimp only at h;split at h<;>cases h
  exact mX)}
def ip:EC:=fun F=>fun
 |[.one (.s 3 sp),.one (.s 3 lg)]=>some (fun _=>Rw [tI,tI,tI] sp/\Rw [tI,tI,tI] lg/\sp.length<=1073741824/\lg.length<=1073741824,[.one (.s 1 (F.iaL sp lg))])
 |_=>none
def rE:ec 97 ip:=by
 intro _ _ _ h hp;dsimp only[ip,F0]at h;split at h<;>cases h
 rename_i sp lg;obtain⟨hs,hl,ns,nl⟩:=hp;refine cb Lf1 Tryz.func97 ?_
 intro O r F hO hr hF;cbv
 repeat' first|apply Zc|(apply cN<;>intro hb<;>cbv)|(refine⟨[1,5,16,17,18],[5],Int×af,fun s_=>match s_ with|(i,o)=>[.reg 18 (.j i),.reg 5 (.one (.vw 5 0 0 0 (O.ln o))),.leaf 5 0 ⟨0,0,none,.own (.s 1 o)⟩],fun s_=>match s_ with|(i,o)=>0<=i/\i<=(sp.length:Int)/\Ql sp i o,fun s_=>match s_ with|(i,o)=>sp.length-i.toNat,⟨(0,[]),?_,?_⟩,?_⟩;rotate_left;(focus (cbv;done));intro s_ hi;obtain⟨i,o⟩:=s_;replace hi:0<=i/\i<=(sp.length:Int)/\Ql sp i o:=hi;obtain⟨i0,i1,i2⟩:=hi;cbv)|(refine⟨[1,5,7,8,16,17,18],[5,7],Int×af,fun s_=>match s_ with|(k,o1)=>[.reg 8 (.j k),.reg 5 (.one (.vw 5 0 0 0 (O.ln o1))),.leaf 5 0 ⟨0,0,none,.own (.s 1 o1)⟩],fun s_=>match s_ with|(k,o1)=>0<=k/\k<=slN (ag sp i 1)/\I2 sp i k o1,fun s_=>match s_ with|(k,o1)=>(slN (ag sp i 1)-k).toNat,⟨(0,o),?_,?_⟩,?_⟩;rotate_left;(focus (cbv;done));intro s_ hk;obtain⟨k,o1⟩:=s_;replace hk:0<=k/\k<=slN (ag sp i 1)/\I2 sp i k o1:=hk;obtain⟨k0,k1,k2⟩:=hk;cbv)|(refine⟨[5,40,41,42],[5],Int×af,fun s_=>match s_ with|(j,o2)=>[.reg 42 (.j j),.reg 5 (.one (.vw 5 0 0 0 (O.ln o2))),.leaf 5 0 ⟨0,0,none,.own (.s 1 o2)⟩],fun s_=>match s_ with|(j,o2)=>0<=j/\j<=(lg.length:Int)/\K9 sp lg j o2,fun s_=>match s_ with|(j,o2)=>lg.length-j.toNat,⟨(0,o),?_,?_⟩,?_⟩;rotate_left;(focus (cbv;done));intro s_ hj;obtain⟨j,o2⟩:=s_;replace hj:0<=j/\j<=(lg.length:Int)/\K9 sp lg j o2:=hj;obtain⟨j0,j1,j2⟩:=hj;cbv)|(refine ai (O.ar .add Za k 1,O.cat o1 (O.sub [[.i (F.aaI (O.gi sp i 0) (O.gi sp i 1) (O.gi sp i 2) k)]] 0 (O.ln [[.i (F.aaI (O.gi sp i 0) (O.gi sp i 1) (O.gi sp i 2) k)]]))) ?_ ?_ ?_;focus (cbv;done))|(refine ai (O.ar .add Za k 1,o1) ?_ ?_ ?_;focus (cbv;done))|(refine ai (O.ar .add Za i 1,o1) ?_ ?_ ?_;focus (cbv;done))|(refine ai (O.ar .add Za j 1,O.cat o2 (O.sub [[.i (O.ar .mul Za (O.gi lg j 0) 16)]] 0 (O.ln [[.i (O.ar .mul Za (O.gi lg j 0) 16)]]))) ?_ ?_ ?_;focus (cbv;done))
 all_goals(subst hO hr hF;(try simp only[nc]at*);(try simp only[am,SS,sa,az]at*);(try rw[di Uc Uc]);(try have z1:=adu (sp:=sp) (lg:=lg) (i:=i) Ud i0 Ud);(try have z6:bK .add Za k 1=k+1:=cu Uc);(try simp only[z6]at*);(try have z7:=acP (sp:=sp) (lg:=lg) (j:=j) Ud j0 Ud);(try have z8:bK .mul Za (ag lg j 0) 16=ag lg j 0*16:=vF Uc);(try simp only[z8]at*))
 all_goals first
  | (show(_:List DV)=_
     first
      |(refine vZ ?_;exact acq Ud)
      |(refine vZ ?_;exact NW j2 j1 Ud Ud)
      |done)
  |omega
  |exact ga
  |(show ay _ _=true;kernel_rfl)
  |exact scal_one
  |exact⟨hs,hl,ns,nl⟩
  |exact Sg j2 Uc Uc
  |(have q:=NU k2;constructor<;>(simp only[Zr,Zs];omega))
  |(have q:=GW j2;constructor<;>(simp only[Zr,Zs];omega))
  |exact NV k2 k0 Ud
  |exact Sf k2 k0 Ud
  |exact NS k2 i0 k1 Ud z1
  |exact acr i2
  |exact acs i2 i1 Ud
  |exact Si j2 j0 z7
  |exact acp
  |exact A1
  |exact⟨Zd,A1.symm⟩
  |exact⟨Zd,Zd⟩
  |exact Zd
  |done
def gN:EC:=fun F=>fun
 |[.agg [.v (.int Za d0),.v (.int Za d1),.v (.int Za d2)],.ptr [.v (.int Za ad)]]=>some (fun _=>True,[.k (F.eqB d0 ad)])
 |_=>none
def p7:ec 148 gN:=by
 intro _ _ _ h hp;dsimp only[gN,F0]at h;split at h<;>cases h
 rename_i d0 d1 d2 ad;refine cb nB Tryz.func148 ?_
 exact zq3
abbrev Lg1:dq:=dP (fun F f=>match f with|148=>gN F|_=>fun _=>none) (by
 intro f;dsimp only;split;exact p7;exact dy)
def aX:EC:=fun F=>fun
 |[.one (.s 3 os),.fn 148 [[.v (.int Za id)]]]=>some (fun _=>Rw [tI,tI,tI] os/\os.length<=1099511627776,[.j (F.qtI os id)])
 |_=>none
def ce:ec 154 aX:=by
 intro _ _ _ h hp;dsimp only[aX,F0]at h;split at h<;>cases h
 rename_i os id;obtain⟨hw,hn⟩:=hp;refine cb Lg1 Tryz.func154 ?_
 intro O r F hO hr hF;cbv
 repeat' first|apply Zc|(apply cN<;>intro hb<;>cbv)|(refine⟨[0,1,7,8],[0],Int,fun i=>[.reg 8 (.j i)],fun i=>0<=i/\i<=((os.length:Nat):Int)/\upto (cI (G0 os id)) i,fun i=>(os.length)-i.toNat,⟨0,?_,?_⟩,?_⟩;rotate_left;(focus (cbv;done));intro i hi;replace hi:0<=i/\i<=((os.length:Nat):Int)/\upto (cI (G0 os id)) i:=hi;obtain⟨i0,i1,i2⟩:=hi;cbv)|(refine ai (O.ar .add Za i 1) ?_ ?_ ?_;focus (cbv;done))
 all_goals(subst hO hr hF;(try simp only[nc]at*);(try simp only[am,SS,sa,az]at*);(try rw[di Uc Uc]))
 all_goals first
  | (show(_:List DV)=_
     first
      |exact cg (dB i2 i0 Ud (show G0 os id i=true from by assumption)).symm
      |exact cg (dL i2 Ud).symm
      |done)
  |omega
  |exact ga
  |(show(lk _ _).isSome=true;kernel_rfl)
  |exact bR
  |exact bL i2 (fE (show G0 os id i=false from by assumption))
  |done
abbrev Lg2:dq:=dP (fun F f=>match f with|154=>aX F|_=>fun _=>none) (by
 intro f;dsimp only;split;exact ce;exact dy)
def aS:EC:=fun F=>fun
 |[.one (.s 3 os),.fn 148 [[.v (.int Za id)]]]=>some (fun _=>Rw [tI,tI,tI] os/\os.length<=1099511627776,[.k (F.qtB os id)])
 |_=>none
def bT:ec 147 aS:=by
 intro _ _ _ h hp;dsimp only[aS,F0]at h;split at h<;>cases h
 rename_i os id;refine cb Lg2 Tryz.func147 ?_
 intro O r F hO hr hF;cbv
 repeat' first|apply Zc|(apply cN<;>intro hb<;>cbv)
 all_goals(subst hO hr hF;(try simp only[nc]at*);(try simp only[am,SS,sa,az]at*))
 all_goals first
  | (show(_:List DV)=_
     first
      |exact au (k8 (by unfold qtB;simp only[SS,VI]))
      |done)
  |exact hp
  |done
abbrev Lg3:dq:=dP (fun F f=>match f with|147=>aS F|_=>fun _=>none) (by
 intro f;dsimp only;split;exact bT;exact dy)
def jz:EC:=fun F=>fun
 |[.one (.s 3 os),.one (.v (.int Za id))]=>some (fun _=>Rw [tI,tI,tI] os/\os.length<=1099511627776,[.k (F.qtB os id)])
 |_=>none
def tT:ec 128 jz:=by
 intro _ _ _ h hp;dsimp only[jz,F0]at h;split at h<;>cases h
 rename_i os id;refine cb Lg3 Tryz.func128 ?_
 exact zq4
abbrev Li1:dq:=dP (fun F f=>match f with|19=>ah F|52=>ah F|_=>fun _=>none) (by
 intro f;dsimp only;split;exact aw;exact be;exact dy)
def iM:EC:=fun F=>fun
 |[.agg [.s 1 b,.s 1 x]]=>some (fun _=>IL b x,[.k (F.mailOk b x)])
 |_=>none
def oZ:ec 44 iM:=by
 intro _ _ _ h hp;dsimp only[iM,F0]at h;split at h<;>cases h
 rename_i b x;have hbw:=hp.bw;have hxw:=hp.xw;have hbl:=hp.bl;have hxl:=hp.xl;have hsb:bK .sub Za (b.length:Int) 1=b.length-1:=fC Uc;refine cb Li1 Tryz.func44 ?_
 intro O r F hO hr hF;cbv
 repeat' first|apply Zc|(apply cN<;>intro hb<;>cbv)|(refine⟨[1,3,4,25,26],[1],Int×Int,fun s_=>match s_ with|(i,t)=>[.reg 26 (.j i),.reg 4 (.j t)],fun s_=>match s_ with|(i,t)=>0<=i/\i<=(b.length:Int)/\MM b x i t,fun s_=>match s_ with|(i,t)=>b.length-i.toNat,⟨(0,0),?_,?_⟩,?_⟩;rotate_left;(focus (cbv;done));intro s_ hi;obtain⟨i,t⟩:=s_;replace hi:0<=i/\i<=(b.length:Int)/\MM b x i t:=hi;obtain⟨i0,i1,i2⟩:=hi;cbv)|(refine⟨[1,3,4,5,25,26,33,34,35],[1],Int,fun k=>[.reg 35 (.j k)],fun k=>0<=k/\k<=(((aO b i 0).length:Nat):Int)/\upto (HD b i) k,fun k=>((aO b i 0).length)-k.toNat,⟨0,?_,?_⟩,?_⟩;rotate_left;(focus (cbv;done));intro k hk;replace hk:0<=k/\k<=(((aO b i 0).length:Nat):Int)/\upto (HD b i) k:=hk;obtain⟨k0,k1,k2⟩:=hk;cbv)|(refine ai (O.ar .add Za k 1) ?_ ?_ ?_;focus (cbv;done))|(refine⟨[1,3,4,5,25,26,55,56,57],[1],Int,fun j=>[.reg 57 (.j j)],fun j=>0<=j/\j<=(((aO x i 0).length:Nat):Int)/\upto (I6 x i) j,fun j=>((aO x i 0).length)-j.toNat,⟨0,?_,?_⟩,?_⟩;rotate_left;(focus (cbv;done));intro j hj;replace hj:0<=j/\j<=(((aO x i 0).length:Nat):Int)/\upto (I6 x i) j:=hj;obtain⟨j0,j1,j2⟩:=hj;cbv)|(refine ai (O.ar .add Za j 1) ?_ ?_ ?_;focus (cbv;done))|(refine ai (O.ar .add Za i 1,O.ar .add Za t (O.ar .add Za (O.zi (O.ln (O.gs b i 0))) (O.zi (O.ln (O.gs x i 0))))) ?_ ?_ ?_;focus (cbv;done))
 all_goals(subst hO hr hF;(try simp only[nc]at*);(try simp only[am,SS,sa,az]at*);(try simp only[hsb]at*);(try rw[di Uc Uc]);(try have y1:=hp.bn i);(try have y2:=hp.xn i);(try have z6:bK .add Za k 1=k+1:=cu Uc);(try simp only[z6]at*);(try have z7:bK .add Za j 1=j+1:=cu Uc);(try simp only[z7]at*);(try have q:=acX hp i2 i0 (by have r:=bB.1 (by assumption:inR (b.length:Int) 1 4=true);omega));(try have z8:bK .add Za (((aO b i 0).length:Nat):Int) (((aO x i 0).length:Nat):Int)=((aO b i 0).length:Int)+(aO x i 0).length:=cu Uc);(try simp only[z8]at*);(try have z9:bK .add Za t (((aO b i 0).length:Int)+(aO x i 0).length)=t+(((aO b i 0).length:Int)+(aO x i 0).length):=cu Uc);(try simp only[z9]at*))
 all_goals first
  | (show(_:List DV)=_
     first
      |(refine au ?_;symm;exact OI Ud)
      |(refine au ?_;symm;exact OJ Ud)
      |(refine au ?_;symm;exact Hk i0 Uc k0 Ud (TW Ud))
      |(refine au ?_;symm;exact Hk i0 Uc k0 Ud (TX Ud))
      |(refine au ?_;symm;exact OK i0 Uc j0 Ud (aby Ud))
      |(refine au ?_;rw[OH i2 Ud Uc i1 Uc];rfl)
      |done)
  |omega
  |exact ga
  |(show ay _ _=true;kernel_rfl)
  |exact bR
  |exact bL k2 (TY Ud Ud)
  |exact bL j2 (QR Ud)
  |exact Tf i2 i0 k2 Uc j2 Uc
  |exact acW
  |done
abbrev Lj1:dq:=dP (fun F f=>match f with|44=>iM F|_=>fun _=>none) (by
 intro f;dsimp only;split;exact oZ;exact dy)
def jo:EC:=fun F=>fun
 |[.agg [.s 1 b,.s 1 x]]=>some (fun _=>IL b x,[.one (.s 1 (F.ifL b x))])
 |_=>none
def tG:ec 96 jo:=by
 intro _ _ _ h hp;dsimp only[jo,F0]at h;split at h<;>cases h
 rename_i b x;have hbw:=hp.bw;have hxw:=hp.xw;have hbl:=hp.bl;have hxl:=hp.xl;refine cb Lj1 Tryz.func96 ?_
 intro O r F hO hr hF;cbv
 repeat' first|apply Zc|(apply cN<;>intro hb<;>cbv)|(refine⟨[1,3,15,16,17],[1,3],Int×af,fun s_=>match s_ with|(i,o)=>[.reg 17 (.j i),.reg 3 (.one (.vw 3 0 0 0 (O.ln o))),.leaf 3 0 ⟨0,0,none,.own (.s 1 o)⟩],fun s_=>match s_ with|(i,o)=>0<=i/\i<=(b.length:Int)/\Qc b i o,fun s_=>match s_ with|(i,o)=>b.length-i.toNat,⟨(0,[]),?_,?_⟩,?_⟩;rotate_left;(focus (cbv;done));intro s_ hi;obtain⟨i,o⟩:=s_;replace hi:0<=i/\i<=(b.length:Int)/\Qc b i o:=hi;obtain⟨i0,i1,i2⟩:=hi;cbv)|(refine⟨[1,3,15,16,17,21,22,23],[1,3],Int×af,fun s_=>match s_ with|(k,o1)=>[.reg 23 (.j k),.reg 3 (.one (.vw 3 0 0 0 (O.ln o1))),.leaf 3 0 ⟨0,0,none,.own (.s 1 o1)⟩],fun s_=>match s_ with|(k,o1)=>0<=k/\k<=((aO b i 0).length:Int)/\Qd b i k o1,fun s_=>match s_ with|(k,o1)=>(aO b i 0).length-k.toNat,⟨(0,o),?_,?_⟩,?_⟩;rotate_left;(focus (cbv;done));intro s_ hk;obtain⟨k,o1⟩:=s_;replace hk:0<=k/\k<=((aO b i 0).length:Int)/\Qd b i k o1:=hk;obtain⟨k0,k1,k2⟩:=hk;cbv)|(refine⟨[3,35,36,37],[3],Int×af,fun s_=>match s_ with|(j,o2)=>[.reg 37 (.j j),.reg 3 (.one (.vw 3 0 0 0 (O.ln o2))),.leaf 3 0 ⟨0,0,none,.own (.s 1 o2)⟩],fun s_=>match s_ with|(j,o2)=>0<=j/\j<=(x.length:Int)/\Qe b x j o2,fun s_=>match s_ with|(j,o2)=>x.length-j.toNat,⟨(0,o),?_,?_⟩,?_⟩;rotate_left;(focus (cbv;done));intro s_ hj;obtain⟨j,o2⟩:=s_;replace hj:0<=j/\j<=(x.length:Int)/\Qe b x j o2:=hj;obtain⟨j0,j1,j2⟩:=hj;cbv)|(refine ai (O.ar .add Za k 1,O.cat o1 (O.sub [[.i (O.gi (O.gs b i 0) k 1)]] 0 (O.ln [[.i (O.gi (O.gs b i 0) k 1)]]))) ?_ ?_ ?_;focus (cbv;done))|(refine ai (O.ar .add Za i 1,o1) ?_ ?_ ?_;focus (cbv;done))|(refine ai (O.ar .add Za j 1,O.cat o2 (O.gs x j 0)) ?_ ?_ ?_;focus (cbv;done))
 all_goals(subst hO hr hF;(try simp only[nc]at*);(try simp only[am,SS,sa,az]at*);(try rw[di Uc Uc]);(try have z:=OL Ud);(try have y1:=hp.bn i);(try have y2:=hp.xn j);(try have z6:bK .add Za k 1=k+1:=cu Uc);(try simp only[z6]at*))
 all_goals first
  | (show(_:List DV)=_
     first
      |(refine vZ ?_;exact acu Ud)
      |(refine vZ ?_;exact NF j2 Ud j1 Ud)
      |done)
  |omega
  |exact ga
  |exact Rw.scal (Rw.sub (fs:=[.sl [tI]]) hxw Uc rfl) rfl
  |(have q:=k2.l;constructor<;>(simp only[Zr,Zs];omega))
  |(have q:=j2.l;constructor<;>omega)
  |exact RD k2 k0
  |exact Nw k2 i0 y1 k1 Uc
  |exact abT i2
  |exact abV i2 i1 Uc
  |exact RR j2 j0 y2
  |exact abS
  |exact⟨Zd,Zd⟩
  |done
end Go.V