/- Contracts. -/
import Derived.Test.YtpldpilhgjpkjaaGreatYM0
set_option linter.all false
open Go
open And renaming intro->Zd
open IntKind renaming i64->Za
open List renaming length_cons->Zj,length_nil->Zl
open True renaming intro->Zb
namespace Go.V
open Go Go.Proofs
set_option maxRecDepth 1000000
set_option maxHeartbeats 8000000
abbrev La0:dr:=dW (fun F f=>match f with|157=>de F|56=>cn F|_=>fun _=>none) (by
 intro f;dsimp only;split;exact d4;exact cR;exact dD)
def dd:EC:=fun F=>fun
 |[.one (.v (.int Za k))]=>some (fun _=>True,[.j (F.slN k)])
 |_=>none
theorem dZ:ec 255 dd:=by
 intro _ _ _ h hp;dsimp only[dd,F0]at h;split at h<;>cases h
 rename_i k;refine cb La0 Tryz.func255 ?_
 intro O r F hO hr hF;cbv
 repeat' first|apply Zd|(apply cS<;>intro hb<;>cbv)
 all_goals(subst hO hr hF;(try simp only[nc]at*);(try simp only[am,SS,sa,az]at*))
 all_goals first
  | (show(_:List DV)=_
     first
      |exact cB (IP (by assumption))
      |exact cB (IQ (by assumption)).symm
      |done)
  |(have:=lT (k:=k) (by assumption);omega)
  |done
abbrev La1:dr:=dW (fun F f=>match f with|33=>ax F|_=>fun _=>none) (by
 intro f;dsimp only;split;exact aT;exact dD)
def ga:EC:=fun F=>fun
 |[.one (.v (.int Za n)),.one (.v (.int Za b))]=>some (fun _=>True,[.k (F.bmOk n b)])
 |_=>none
theorem m9:ec 278 ga:=by
 intro _ _ _ h hp;dsimp only[ga,F0]at h;split at h<;>cases h
 rename_i n b;refine cb La1 Tryz.func278 ?_
 intro O r F hO hr hF;cbv
 repeat' first|apply Zd|(apply cS<;>intro hb<;>cbv)
 all_goals(subst hO hr hF;(try simp only[nc]at*);(try simp only[am,SS,sa,az]at*);(try(have e:=abw (n:=n) (by assumption);simp only[e.1])))
 all_goals first
  | (show(_:List DV)=_
     first
      |exact au (NL (by assumption)).symm
      |exact au (RA (by assumption)).symm
      |done)
  |(have:=bi.1 (‹inR n 1 16=true›);omega)
  |done
abbrev La2:dr:=dW (fun F f=>match f with|33=>ax F|157=>de F|255=>dd F|278=>ga F|_=>fun _=>none) (by
 intro f;dsimp only;split;exact aT;exact d4;exact dZ;exact m9;exact dD)
def dS:EC:=fun F=>fun
 |[.agg [.v (.int Za p),.v (.int Za k),.v (.int Za b)]]=>some (fun _=>True,[.k (F.spOk p k b)])
 |_=>none
theorem fX:ec 167 dS:=by
 intro _ _ _ h hp;dsimp only[dS,F0]at h;split at h<;>cases h
 rename_i p k b;refine cb La2 Tryz.func167 ?_
 intro O r F hO hr hF;cbv
 repeat' first|apply Zd|(apply cS<;>intro hb<;>cbv)
 all_goals(subst hO hr hF;(try simp only[nc]at*);(try simp only[am,SS,sa,az]at*))
 all_goals first
  | (show(_:List DV)=_
     first
      |exact au (Qy (by assumption)).symm
      |exact au (Qv (by assumption)).symm
      |exact au (Qw (by assumption)).symm
      |done)
  |(show aw _ _=true;kernel_rfl)
  |done
def gh:EC:=fun F=>fun
 |[.one (.v (.int Za s))]=>some (fun _=>True,[.j (F.pfN s)])
 |_=>none
theorem nh:ec 144 gh:=by
 intro _ _ _ h hp;dsimp only[gh,F0]at h;split at h<;>cases h
 rename_i s;refine cb La1 Tryz.func144 ?_
 intro O r F hO hr hF;cbv
 repeat' first|apply Zd|(apply cS<;>intro hb<;>cbv)
 all_goals(subst hO hr hF;(try simp only[nc]at*);(try simp only[am,SS,sa,az]at*))
 all_goals first
  | (show(_:List DV)=_
     first
      |exact cB (PZ (by assumption))
      |exact cB (aaS (by assumption)).symm
      |done)
  |omega
  |done
abbrev La3:dr:=dW (fun F f=>match f with|33=>ax F|144=>gh F|_=>fun _=>none) (by
 intro f;dsimp only;split;exact aT;exact nh;exact dD)
def gQ:EC:=fun F=>fun
 |[.agg [.v (.int Za p),.v (.int Za n),.v (.int Za s)]]=>some (fun _=>True,[.k (F.lgOk p n s)])
 |_=>none
theorem nL:ec 168 gQ:=by
 intro _ _ _ h hp;dsimp only[gQ,F0]at h;split at h<;>cases h
 rename_i p n s;refine cb La3 Tryz.func168 ?_
 intro O r F hO hr hF;cbv
 repeat' first|apply Zd|(apply cS<;>intro hb<;>cbv)
 all_goals(subst hO hr hF;(try simp only[nc]at*);(try simp only[am,SS,sa,az]at*))
 all_goals first
  | (show(_:List DV)=_
     first
      |(have b:=o7 (s:=s) (by assumption);rw[show bO .sub Za 32 n=32-n from f9 (by omega)];exact au (Pp (by assumption) (by assumption)).symm)
      |exact au (Pn (by assumption)).symm
      |exact au (Po (by assumption)).symm
      |done)
  |(show aw _ _=true;kernel_rfl)
  |done
abbrev La4:dr:=dW (fun F f=>match f with|33=>ax F|167=>dS F|56=>cn F|255=>dd F|168=>gQ F|_=>fun _=>none) (by
 intro f;dsimp only;split;exact aT;exact fX;exact cR;exact dZ;exact nL;exact dD)
def lr:EC:=fun F=>fun
 |[.agg [.v (.int Za p),.v (.int Za k),.v (.int Za b)],.one (.v (.int Za a))]=>some (fun _=>True,[.j (F.saS p k b a),.j (F.saO p k b a)])
 |_=>none
theorem wZ:ec 272 lr:=by
 intro _ _ _ h hp;dsimp only[lr,F0]at h;split at h<;>cases h
 rename_i p k b a;refine cb La4 Tryz.func272 ?_
 intro O r F hO hr hF;cbv
 repeat' first|apply Zd|(apply cS<;>intro hb<;>cbv)
 all_goals(subst hO hr hF;(try simp only[nc]at*);(try simp only[am,SS,sa,az]at*);(try(have t:=mg (p:=p) (k:=k) (b:=b) (by assumption);have c:=lT t.2.2.1;have e:=aaT (p:=p) ⟨t.1,t.2.1⟩;try simp only[e.1,e.2]at*)))
 all_goals first
  | (show(_:List DV)=_
     first
      |(have q:=Li (p:=p) (k:=k) (b:=b) (a:=a) (by assumption) (by assumption);exact xF q.1.symm q.2.symm)
      |(have q:=IF (abn (p:=p) (k:=k) (b:=b) (a:=a) (by assumption));exact xF q.1.symm q.2.symm)
      |(have q:=IF (abo (p:=p) (k:=k) (b:=b) (a:=a) (by assumption));exact xF q.1.symm q.2.symm)
      |done)
  |(show aw _ _=true;kernel_rfl)
  |omega
  |done
def eH:EC:=fun F=>fun
 |[.agg [.v (.int Za p),.v (.int Za k),.v (.int Za b)],.one (.v (.int Za s))]=>some (fun _=>True,[.j (F.aaI p k b s)])
 |_=>none
theorem jr:ec 259 eH:=by
 intro _ _ _ h hp;dsimp only[eH,F0]at h;split at h<;>cases h
 rename_i p k b s;refine cb La4 Tryz.func259 ?_
 intro O r F hO hr hF;cbv
 repeat' first|apply Zd|(apply cS<;>intro hb<;>cbv)
 all_goals(subst hO hr hF;(try simp only[nc]at*);(try simp only[am,SS,sa,az]at*);(try(have t:=mg (p:=p) (k:=k) (b:=b) (by assumption);have c:=lT t.2.2.1;have e:bO .sub Za (slN k) 1=slN k-1:=f9 (by omega);try simp only[e]at*)))
 all_goals first
  | (show(_:List DV)=_
     first
      |exact cB (NG (by assumption) (by assumption))
      |exact cB (LR (.inl (by assumption))).symm
      |exact cB (LR (.inr (by assumption))).symm
      |done)
  |(show aw _ _=true;kernel_rfl)
  |done
def gg:EC:=fun F=>fun
 |[.agg [.v (.int Za p),.v (.int Za n),.v (.int Za s)],.one (.v (.int Za a))]=>some (fun _=>True,[.k (F.lhB p n s a)])
 |_=>none
theorem ng:ec 274 gg:=by
 intro _ _ _ h hp;dsimp only[gg,F0]at h;split at h<;>cases h
 rename_i p n s a;refine cb La4 Tryz.func274 ?_
 intro O r F hO hr hF;cbv
 repeat' first|apply Zd|(apply cS<;>intro hb<;>cbv)
 all_goals(subst hO hr hF;(try simp only[nc]at*);(try simp only[am,SS,sa,az]at*);(try(have e:=My (p:=p) (n:=n) (s:=s) (by assumption);try simp only[e.2.2])))
 all_goals first
  | (show(_:List DV)=_
     first
      |(rw[e.1];exact au (Pu (by assumption)).symm)
      |exact au (Pq (by assumption)).symm
      |done)
  |done
abbrev La5:dr:=dW (fun F f=>match f with|274=>gg F|_=>fun _=>none) (by
 intro f;dsimp only;split;exact ng;exact dD)
def gz:EC:=fun F=>fun
 |[.agg [.v (.int Za p),.v (.int Za n),.v (.int Za s)],.one (.v (.int Za a))]=>some (fun _=>True,[.j (F.loI p n s a)])
 |_=>none
theorem pq:ec 275 gz:=by
 intro _ _ _ h hp;dsimp only[gz,F0]at h;split at h<;>cases h
 rename_i p n s a;refine cb La5 Tryz.func275 ?_
 intro O r F hO hr hF;cbv
 repeat' first|apply Zd|(apply cS<;>intro hb<;>cbv)
 all_goals(subst hO hr hF;(try simp only[nc]at*);(try simp only[am,SS,sa,az]at*))
 all_goals first
  | (show(_:List DV)=_
     first
      |exact cB (aae (by assumption))
      |exact cB (aaf (by assumption)).symm
      |done)
  |done
def gR:EP:=fun F=>fun
 |[.one (.v (.int Za pg)),.mp [.own (.m true es)]]=>some (fun _=>True,[[.own (.m true (F.muT es pg))]],[.k (!(F.mgbI es pg))])
 |_=>none
theorem pY:ep 166 gR:=by
 intro _ _ _ _ h hp;dsimp only[gR,F0]at h;split at h<;>cases h
 rename_i pg es;refine pb nB Tryz.func166 ?_
 intro O r os F hO hr hos hF;cbv
 repeat' first|apply Zd|(apply cS<;>intro hb<;>cbv)
 all_goals((try subst hos);subst hO hr hF;(try simp only[nc]at*);(try simp only[am,SS,sa,az]at*))
 all_goals first|(show(_:List DV)=_;exact rfl)|(show(_:List H)=_;exact rfl)|done
abbrev Lc1:dr:={
 Φ:=t8
 F0:=F0
 ct:=fun F f=>match f with|167=>dS F|168=>gQ F|_=>fun _=>none
 hc:=(by
  intro f;dsimp only;split;exact fX;exact nL;exact dD)
 pt:=fun F f=>match f with|166=>some (gR F)|_=>none
 hp:=(by
  intro f mk h;dsimp only at h;split at h<;>cases h
  exact pY)}
def eF:EC:=fun F=>fun
 |[.one (.s 3 sp),.one (.s 3 lg)]=>some (fun _=>Rw [tI,tI,tI] sp/\Rw [tI,tI,tI] lg/\sp.length<=1073741824/\lg.length<=1073741824,[.k (F.layOk sp lg)])
 |_=>none
theorem jp:ec 62 eF:=by
 intro _ _ _ h hp;dsimp only[eF,F0]at h;split at h<;>cases h
 rename_i sp lg;obtain⟨hs,hl,ns,nl⟩:=hp;refine cb Lc1 Tryz.func62 ?_
 intro O r F hO hr hF;cbv
 repeat' first|apply Zd|(apply cS<;>intro hb<;>cbv)|(refine⟨[1,6,14,15,16],[5],Int×af,fun s_=>match s_ with|(i,es)=>[.reg 16 (.j i),.leaf 5 0 ⟨0,0,none,.own (.m true es)⟩],fun s_=>match s_ with|(i,es)=>0<=i/\i<=(sp.length:Int)/\Nu sp i es,fun s_=>match s_ with|(i,es)=>sp.length-i.toNat,⟨(0,[]),?_,?_⟩,?_⟩;rotate_left;(focus (cbv;done));intro s_ hi;obtain⟨i,es⟩:=s_;replace hi:0<=i/\i<=(sp.length:Int)/\Nu sp i es:=hi;obtain⟨i0,i1,i2⟩:=hi;cbv)|(refine⟨[6,31,32,33],[5],Int×af,fun s_=>match s_ with|(j,es1)=>[.reg 33 (.j j),.leaf 5 0 ⟨0,0,none,.own (.m true es1)⟩],fun s_=>match s_ with|(j,es1)=>0<=j/\j<=(lg.length:Int)/\Q5 sp lg j es1,fun s_=>match s_ with|(j,es1)=>lg.length-j.toNat,⟨(0,es),?_,?_⟩,?_⟩;rotate_left;(focus (cbv;done));intro s_ hj;obtain⟨j,es1⟩:=s_;replace hj:0<=j/\j<=(lg.length:Int)/\Q5 sp lg j es1:=hj;obtain⟨j0,j1,j2⟩:=hj;cbv)|(refine⟨[6,10,11,31,32,33],[5,10],Int×af,fun s_=>match s_ with|(k,es2)=>[.reg 11 (.j k),.leaf 5 0 ⟨0,0,none,.own (.m true es2)⟩],fun s_=>match s_ with|(k,es2)=>0<=k/\k<=ag lg j 1/\Ns sp lg j k es2,fun s_=>match s_ with|(k,es2)=>(ag lg j 1-k).toNat,⟨(0,es1),?_,?_⟩,?_⟩;rotate_left;(focus (cbv;done));intro s_ hk;obtain⟨k,es2⟩:=s_;replace hk:0<=k/\k<=ag lg j 1/\Ns sp lg j k es2:=hk;obtain⟨k0,k1,k2⟩:=hk;cbv)|(refine ah (O.ar .add Za k 1,F.muT es2 (O.ar .add Za (O.gi lg j 0) k)) ?_ ?_ ?_;focus (cbv;done))|(refine ah (O.ar .add Za j 1,es2) ?_ ?_ ?_;focus (cbv;done))|(refine ah (O.ar .add Za i 1,F.muT es (O.gi sp i 0)) ?_ ?_ ?_;focus (cbv;done))
 all_goals(subst hO hr hF;(try simp only[nc]at*);(try simp only[am,SS,sa,az]at*);(try rw[dq (by omega) (by omega)]);(try have z:=(ad2 (k:=k) (by assumption) k0 (by assumption)));(try(obtain⟨z1,z2,z3,z4,z5⟩:=z));(try have z6:bO .add Za k 1=k+1:=cE (by omega));(try simp only[z3]at*);(try simp only[z6]at*))
 all_goals first
  | (show(_:List DV)=_
     first
      |(refine au ?_;symm;exact O9 i2 i0 (by assumption) (aap (b:=mgbI es (ag sp i 0)) hb))
      |(refine au ?_;symm;exact O3 k2 j0 (by assumption) k0 (by assumption) (aap (b:=mgbI es2 (ag lg j 0+k)) hb))
      |(refine au ?_;symm;exact Kx i0 (by assumption) (by assumption))
      |(refine au ?_;symm;exact Ky j0 (by assumption) (by assumption))
      |(refine au ?_;symm;exact O5 j2 j1 (by assumption))
      |done)
  |omega
  |exact fQ
  |exact TT i2 i0 (by assumption) (aaq (b:=mgbI es (ag sp i 0)) hb)
  |exact TO k2 k0 (aaq (b:=mgbI es2 (ag lg j 0+k)) hb)
  |exact O4 k2 j0 (by assumption) k1 (by assumption)
  |exact adK j2
  |exact Pb i2 i1 (by assumption)
  |exact adL
  |(have t:=mL (by assumption);have b:=o7 t.1;omega)
  |done
abbrev Ld1:dr:=dW (fun F f=>match f with|272=>lr F|273=>dE F|274=>gg F|275=>gz F|_=>fun _=>none) (by
 intro f;dsimp only;split;exact wZ;exact fc;exact ng;exact pq;exact dD)
def dF:EC:=fun F=>fun
 |[.one (.s 3 sp),.one (.s 3 lg),.one (.v (.int Za a))]=>some (fun _=>Rw [tI,tI,tI] sp/\Rw [tI,tI,tI] lg,[.agg [.i (F.dnK sp lg a),.i (F.dnI sp lg a),.i (F.dnS sp a),.i (F.dnO sp lg a)]])
 |_=>none
theorem fe:ec 162 dF:=by
 intro _ _ _ h hp;dsimp only[dF,F0]at h;split at h<;>cases h
 rename_i sp lg a;obtain⟨hs,hl⟩:=hp;have ms:=hs.1;unfold maxLen at ms;have ml:=hl.1;unfold maxLen at ml;refine cb Ld1 Tryz.func162 ?_
 intro O r F hO hr hF;cbv
 repeat' first|apply Zd|(apply cS<;>intro hb<;>cbv)|(refine⟨[1,2,6,14,15,16],[6],Int,fun i=>[.reg 16 (.j i)],fun i=>0<=i/\i<=((sp.length:Nat):Int)/\upto (cK (ya sp a)) i,fun i=>(sp.length)-i.toNat,⟨0,?_,?_⟩,?_⟩;rotate_left;(focus (cbv;done));intro i hi;replace hi:0<=i/\i<=((sp.length:Nat):Int)/\upto (cK (ya sp a)) i:=hi;obtain⟨i0,i1,i2⟩:=hi;cbv)|(refine ah (O.ar .add Za i 1) ?_ ?_ ?_;focus (cbv;done))|(refine⟨[2,6,39,40,41],[6],Int,fun j=>[.reg 41 (.j j)],fun j=>0<=j/\j<=((lg.length:Nat):Int)/\upto (cK (xU lg a)) j,fun j=>(lg.length)-j.toNat,⟨0,?_,?_⟩,?_⟩;rotate_left;(focus (cbv;done));intro j hj;replace hj:0<=j/\j<=((lg.length:Nat):Int)/\upto (cK (xU lg a)) j:=hj;obtain⟨j0,j1,j2⟩:=hj;cbv)|(refine ah (O.ar .add Za j 1) ?_ ?_ ?_;focus (cbv;done))
 all_goals(subst hO hr hF;(try simp only[nc]at*);(try simp only[am,SS,sa,az]at*);(try rw[dq (by omega) (by omega)]))
 all_goals first
  | (show(_:List DV)=_
     first
      |exact ow1 i2 i0 (by assumption) (by assumption) (by assumption)
      |exact ow2 i2 i0 (by assumption) (by assumption) (by assumption)
      |exact ow3 i2 (by assumption) j2 j0 (by assumption) (by assumption)
      |exact ow4 i2 (by assumption) j2 (by assumption)
      |done)
  |omega
  |exact fQ
  |exact aez i2 (by assumption)
  |exact adZ j2 (by assumption)
  |exact bV
  |done
def Tryz.lays189_ren:Go.Shelf.Ren:=⟨fun|189=>281|125=>343|257=>342|128=>393|129=>394|294=>384|295=>385|296=>386|297=>387|298=>388|299=>389|216=>390|300=>391|301=>392|328=>407|329=>408|330=>409|331=>410|332=>411|215=>412|343=>417|n=>n,fun|28=>24|3=>3|46=>217|0=>0|51=>392|53=>394|4=>4|183=>386|182=>385|131=>113|5=>5|9=>9|218=>403|222=>407|228=>410|229=>59|n=>n,fun|n=>n⟩
theorem Tryz.lays189:Lays.n189 Tryz.prog Tryz.lays189_ren:=⟨by kernel_rfl,Tryz.func343.trans (congrArg some (by kernel_rfl)),Tryz.func393.trans (congrArg some (by kernel_rfl)),Tryz.func394.trans (congrArg some (by kernel_rfl)),Tryz.func281.trans (congrArg some (by kernel_rfl)),Tryz.func412.trans (congrArg some (by kernel_rfl)),Tryz.func390.trans (congrArg some (by kernel_rfl)),Tryz.func342.trans (congrArg some (by kernel_rfl)),Tryz.func384.trans (congrArg some (by kernel_rfl)),Tryz.func385.trans (congrArg some (by kernel_rfl)),Tryz.func386.trans (congrArg some (by kernel_rfl)),Tryz.func387.trans (congrArg some (by kernel_rfl)),Tryz.func388.trans (congrArg some (by kernel_rfl)),Tryz.func389.trans (congrArg some (by kernel_rfl)),Tryz.func391.trans (congrArg some (by kernel_rfl)),Tryz.func392.trans (congrArg some (by kernel_rfl)),Tryz.func407.trans (congrArg some (by kernel_rfl)),Tryz.func408.trans (congrArg some (by kernel_rfl)),Tryz.func409.trans (congrArg some (by kernel_rfl)),Tryz.func410.trans (congrArg some (by kernel_rfl)),Tryz.func411.trans (congrArg some (by kernel_rfl)),Tryz.func417.trans (congrArg some (by kernel_rfl)),Tryz.underlying0,Tryz.isAgg0,Tryz.sizeOf0,Tryz.zeroValue0,Tryz.underlying3,Tryz.isAgg3,Tryz.sizeOf3,Tryz.zeroValue3,Tryz.underlying4,Tryz.isAgg4,Tryz.sizeOf4,Tryz.zeroValue4,Tryz.underlying5,Tryz.isAgg5,Tryz.sizeOf5,Tryz.zeroValue5,Tryz.underlying9,Tryz.isAgg9,Tryz.sizeOf9,Tryz.zeroValue9,Tryz.underlying24,Tryz.isAgg24,Tryz.sizeOf24,Tryz.zeroValue24,Tryz.underlying217,Tryz.isAgg217,Tryz.sizeOf217,Tryz.zeroValue217,Tryz.underlying392,Tryz.isAgg392,Tryz.sizeOf392,Tryz.zeroValue392,Tryz.underlying394,Tryz.isAgg394,Tryz.sizeOf394,Tryz.zeroValue394,Tryz.underlying113,Tryz.isAgg113,Tryz.sizeOf113,Tryz.zeroValue113,Tryz.underlying385,Tryz.isAgg385,Tryz.sizeOf385,Tryz.zeroValue385,Tryz.underlying386,Tryz.isAgg386,Tryz.sizeOf386,Tryz.zeroValue386,Tryz.underlying403,Tryz.isAgg403,Tryz.sizeOf403,Tryz.zeroValue403,Tryz.underlying407,Tryz.isAgg407,Tryz.sizeOf407,Tryz.zeroValue407,Tryz.underlying410,Tryz.isAgg410,Tryz.sizeOf410,Tryz.zeroValue410,Tryz.underlying59,Tryz.isAgg59,Tryz.sizeOf59,Tryz.zeroValue59⟩
def eO:EM:=fun F=>fun
 |[.one (.s 1 l)]=>some (fun _=>Rw [tI] l/\l.length<=70368744177664,[.s 1 (F.srtL l)],[])
 |_=>none
theorem nF:em 281 eO:=by
 intro _ _ _ _ h hp;dsimp only[eO,F0]at h;split at h<;>cases h
 rename_i l;exact FB (Any.slices_Sort_int_none Tryz.lays189) (Any.slices_Sort_int Tryz.lays189) l hp
abbrev Lf1:dr:={
 Φ:=t8
 F0:=F0
 ct:=fun F f=>match f with|62=>eF F|255=>dd F|273=>dE F|259=>eH F|_=>fun _=>none
 hc:=(by
  intro f;dsimp only;split;exact jp;exact dZ;exact fc;exact jr;exact dD)
 mt:=fun F f=>match f with|281=>some (eO F)|_=>none
 hm:=(by
  intro f mk h;dsimp only at h;split at h<;>cases h
  exact nF)}
def iE:EC:=fun F=>fun
 |[.one (.s 3 sp),.one (.s 3 lg)]=>some (fun _=>Rw [tI,tI,tI] sp/\Rw [tI,tI,tI] lg/\sp.length<=1073741824/\lg.length<=1073741824,[.one (.s 1 (F.iaL sp lg))])
 |_=>none
theorem rB:ec 177 iE:=by
 intro _ _ _ h hp;dsimp only[iE,F0]at h;split at h<;>cases h
 rename_i sp lg;obtain⟨hs,hl,ns,nl⟩:=hp;refine cb Lf1 Tryz.func177 ?_
 intro O r F hO hr hF;cbv
 repeat' first|apply Zd|(apply cS<;>intro hb<;>cbv)|(refine⟨[1,5,16,17,18],[5],Int×af,fun s_=>match s_ with|(i,o)=>[.reg 18 (.j i),.reg 5 (.one (.vw 5 0 0 0 (O.ln o))),.leaf 5 0 ⟨0,0,none,.own (.s 1 o)⟩],fun s_=>match s_ with|(i,o)=>0<=i/\i<=(sp.length:Int)/\Q4 sp i o,fun s_=>match s_ with|(i,o)=>sp.length-i.toNat,⟨(0,[]),?_,?_⟩,?_⟩;rotate_left;(focus (cbv;done));intro s_ hi;obtain⟨i,o⟩:=s_;replace hi:0<=i/\i<=(sp.length:Int)/\Q4 sp i o:=hi;obtain⟨i0,i1,i2⟩:=hi;cbv)|(refine⟨[1,5,7,8,16,17,18],[5,7],Int×af,fun s_=>match s_ with|(k,o1)=>[.reg 8 (.j k),.reg 5 (.one (.vw 5 0 0 0 (O.ln o1))),.leaf 5 0 ⟨0,0,none,.own (.s 1 o1)⟩],fun s_=>match s_ with|(k,o1)=>0<=k/\k<=slN (ag sp i 1)/\Jv sp i k o1,fun s_=>match s_ with|(k,o1)=>(slN (ag sp i 1)-k).toNat,⟨(0,o),?_,?_⟩,?_⟩;rotate_left;(focus (cbv;done));intro s_ hk;obtain⟨k,o1⟩:=s_;replace hk:0<=k/\k<=slN (ag sp i 1)/\Jv sp i k o1:=hk;obtain⟨k0,k1,k2⟩:=hk;cbv)|(refine⟨[5,40,41,42],[5],Int×af,fun s_=>match s_ with|(j,o2)=>[.reg 42 (.j j),.reg 5 (.one (.vw 5 0 0 0 (O.ln o2))),.leaf 5 0 ⟨0,0,none,.own (.s 1 o2)⟩],fun s_=>match s_ with|(j,o2)=>0<=j/\j<=(lg.length:Int)/\LM sp lg j o2,fun s_=>match s_ with|(j,o2)=>lg.length-j.toNat,⟨(0,o),?_,?_⟩,?_⟩;rotate_left;(focus (cbv;done));intro s_ hj;obtain⟨j,o2⟩:=s_;replace hj:0<=j/\j<=(lg.length:Int)/\LM sp lg j o2:=hj;obtain⟨j0,j1,j2⟩:=hj;cbv)|(refine ah (O.ar .add Za k 1,O.cat o1 (O.sub [[.i (F.aaI (O.gi sp i 0) (O.gi sp i 1) (O.gi sp i 2) k)]] 0 (O.ln [[.i (F.aaI (O.gi sp i 0) (O.gi sp i 1) (O.gi sp i 2) k)]]))) ?_ ?_ ?_;focus (cbv;done))|(refine ah (O.ar .add Za k 1,o1) ?_ ?_ ?_;focus (cbv;done))|(refine ah (O.ar .add Za i 1,o1) ?_ ?_ ?_;focus (cbv;done))|(refine ah (O.ar .add Za j 1,O.cat o2 (O.sub [[.i (O.ar .mul Za (O.gi lg j 0) 16)]] 0 (O.ln [[.i (O.ar .mul Za (O.gi lg j 0) 16)]]))) ?_ ?_ ?_;focus (cbv;done))
 all_goals(subst hO hr hF;(try simp only[nc]at*);(try simp only[am,SS,sa,az]at*);(try rw[dq (by omega) (by omega)]);(try have z1:=aeF (sp:=sp) (lg:=lg) (i:=i) (by assumption) i0 (by assumption));(try have z6:bO .add Za k 1=k+1:=cE (by omega));(try simp only[z6]at*);(try have z7:=ad1 (sp:=sp) (lg:=lg) (j:=j) (by assumption) j0 (by assumption));(try have z8:bO .mul Za (ag lg j 0) 16=ag lg j 0*16:=vL (by omega));(try simp only[z8]at*))
 all_goals first
  | (show(_:List DV)=_
     first
      |(refine zk ?_;exact adE (by assumption))
      |(refine zk ?_;exact OZ j2 j1 (by assumption) (by assumption))
      |done)
  |omega
  |exact fQ
  |(show aw _ _=true;kernel_rfl)
  |exact scal_one
  |exact⟨hs,hl,ns,nl⟩
  |exact TJ j2 (by omega) (by omega)
  |(have q:=OX k2;constructor<;>(simp only[Zj,Zl];omega))
  |(have q:=Hu j2;constructor<;>(simp only[Zj,Zl];omega))
  |exact OY k2 k0 (by assumption)
  |exact TH k2 k0 (by assumption)
  |exact OW k2 i0 k1 (by assumption) z1
  |exact adF i2
  |exact adG i2 i1 (by assumption)
  |exact TK j2 j0 z7
  |exact adD
  |exact Bo
  |exact⟨Zb,Bo.symm⟩
  |exact⟨Zb,Zb⟩
  |exact Zb
  |done
def gZ:EC:=fun F=>fun
 |[.agg [.v (.int Za d0),.v (.int Za d1),.v (.int Za d2)],.ptr [.v (.int Za ad)]]=>some (fun _=>True,[.k (F.eqB d0 ad)])
 |_=>none
theorem qb:ec 340 gZ:=by
 intro _ _ _ h hp;dsimp only[gZ,F0]at h;split at h<;>cases h
 rename_i d0 d1 d2 ad;refine cb nB Tryz.func340 ?_
 exact zq2
abbrev Lg1:dr:=dW (fun F f=>match f with|340=>gZ F|_=>fun _=>none) (by
 intro f;dsimp only;split;exact qb;exact dD)
def bc:EC:=fun F=>fun
 |[.one (.s 3 os),.fn 340 [[.v (.int Za id)]]]=>some (fun _=>Rw [tI,tI,tI] os/\os.length<=1099511627776,[.j (F.qtI os id)])
 |_=>none
theorem cg:ec 383 bc:=by
 intro _ _ _ h hp;dsimp only[bc,F0]at h;split at h<;>cases h
 rename_i os id;obtain⟨hw,hn⟩:=hp;refine cb Lg1 Tryz.func383 ?_
 intro O r F hO hr hF;cbv
 repeat' first|apply Zd|(apply cS<;>intro hb<;>cbv)|(refine⟨[0,1,7,8],[0],Int,fun i=>[.reg 8 (.j i)],fun i=>0<=i/\i<=((os.length:Nat):Int)/\upto (cK (tV os id)) i,fun i=>(os.length)-i.toNat,⟨0,?_,?_⟩,?_⟩;rotate_left;(focus (cbv;done));intro i hi;replace hi:0<=i/\i<=((os.length:Nat):Int)/\upto (cK (tV os id)) i:=hi;obtain⟨i0,i1,i2⟩:=hi;cbv)|(refine ah (O.ar .add Za i 1) ?_ ?_ ?_;focus (cbv;done))
 all_goals(subst hO hr hF;(try simp only[nc]at*);(try simp only[am,SS,sa,az]at*);(try rw[dq (by omega) (by omega)]))
 all_goals first
  | (show(_:List DV)=_
     first
      |exact cB (du i2 i0 (by assumption) (show tV os id i=true from by assumption)).symm
      |exact cB (d7 i2 (by assumption)).symm
      |done)
  |omega
  |exact fQ
  |(show(lk _ _).isSome=true;kernel_rfl)
  |exact bV
  |exact bN i2 (ft (show tV os id i=false from by assumption))
  |done
abbrev Lg2:dr:=dW (fun F f=>match f with|383=>bc F|_=>fun _=>none) (by
 intro f;dsimp only;split;exact cg;exact dD)
def aW:EC:=fun F=>fun
 |[.one (.s 3 os),.fn 340 [[.v (.int Za id)]]]=>some (fun _=>Rw [tI,tI,tI] os/\os.length<=1099511627776,[.k (F.qtB os id)])
 |_=>none
theorem bU:ec 339 aW:=by
 intro _ _ _ h hp;dsimp only[aW,F0]at h;split at h<;>cases h
 rename_i os id;refine cb Lg2 Tryz.func339 ?_
 intro O r F hO hr hF;cbv
 repeat' first|apply Zd|(apply cS<;>intro hb<;>cbv)
 all_goals(subst hO hr hF;(try simp only[nc]at*);(try simp only[am,SS,sa,az]at*))
 all_goals first
  | (show(_:List DV)=_
     first
      |exact au (m8 (by unfold qtB;simp only[SS,VK]))
      |done)
  |exact hp
  |done
abbrev Lg3:dr:=dW (fun F f=>match f with|339=>aW F|_=>fun _=>none) (by
 intro f;dsimp only;split;exact bU;exact dD)
def gv:EC:=fun F=>fun
 |[.one (.s 3 os),.one (.v (.int Za id))]=>some (fun _=>Rw [tI,tI,tI] os/\os.length<=1099511627776,[.k (F.qtB os id)])
 |_=>none
theorem nu:ec 271 gv:=by
 intro _ _ _ h hp;dsimp only[gv,F0]at h;split at h<;>cases h
 rename_i os id;refine cb Lg3 Tryz.func271 ?_
 exact zq3
abbrev Lg4:dr:=dW (fun F f=>match f with|271=>gv F|_=>fun _=>none) (by
 intro f;dsimp only;split;exact nu;exact dD)
def fk:EC:=fun F=>fun
 |[.agg [.v (.int Za rm),.s 3 os],.one (.v (.int Za id))]=>some (fun _=>Rw [tI,tI,tI] os/\os.length<=1099511627776,[.k (F.qtB os id)])
 |_=>none
theorem j8:ec 16 fk:=by
 intro _ _ _ h hp;dsimp only[fk,F0]at h;split at h<;>cases h
 rename_i rm os id;obtain⟨hw,hn⟩:=hp;have hm:=hw.1;unfold maxLen at hm;refine cb Lg4 Tryz.func16 ?_
 intro O r F hO hr hF;cbv
 repeat' first|apply Zd|(apply cS<;>intro hb<;>cbv)|(refine⟨[1,2,5],[2],Int,fun i=>[.reg 5 (.j i)],fun i=>0<=i/\i<=((os.length:Nat):Int)/\upto (cK (tV os id)) i,fun i=>(os.length)-i.toNat,⟨0,?_,?_⟩,?_⟩;rotate_left;(focus (cbv;done));intro i hi;replace hi:0<=i/\i<=((os.length:Nat):Int)/\upto (cK (tV os id)) i:=hi;obtain⟨i0,i1,i2⟩:=hi;cbv)|(refine ah (O.ar .add Za i 1) ?_ ?_ ?_;focus (cbv;done))
 all_goals(subst hO hr hF;(try simp only[nc]at*);(try simp only[am,SS,sa,az]at*);(try rw[dq (by omega) (by omega)]))
 all_goals first
  | (show(_:List DV)=_
     first
      |(refine au ?_;symm;exact Qd i2 i0 (by assumption) (by assumption))
      |(refine au ?_;symm;exact abg i2 (by omega))
      |done)
  |omega
  |exact fQ
  |exact bV
  |exact bN i2 (ft (show tV os id i=false from xH (by assumption)))
  |done
abbrev Li1:dr:=dW (fun F f=>match f with|33=>ax F|_=>fun _=>none) (by
 intro f;dsimp only;split;exact aT;exact dD)
def eJ:EC:=fun F=>fun
 |[.agg [.s 1 b,.s 1 x]]=>some (fun _=>F7 b x,[.k (F.mailOk b x)])
 |_=>none
theorem iU:ec 64 eJ:=by
 intro _ _ _ h hp;dsimp only[eJ,F0]at h;split at h<;>cases h
 rename_i b x;have hbw:=hp.bw;have hxw:=hp.xw;have hbl:=hp.bl;have hxl:=hp.xl;have hsb:bO .sub Za (b.length:Int) 1=b.length-1:=f9 (by omega);refine cb Li1 Tryz.func64 ?_
 intro O r F hO hr hF;cbv
 repeat' first|apply Zd|(apply cS<;>intro hb<;>cbv)|(refine⟨[1,3,4,25,26],[1],Int×Int,fun s_=>match s_ with|(i,t)=>[.reg 26 (.j i),.reg 4 (.j t)],fun s_=>match s_ with|(i,t)=>0<=i/\i<=(b.length:Int)/\Nw b x i t,fun s_=>match s_ with|(i,t)=>b.length-i.toNat,⟨(0,0),?_,?_⟩,?_⟩;rotate_left;(focus (cbv;done));intro s_ hi;obtain⟨i,t⟩:=s_;replace hi:0<=i/\i<=(b.length:Int)/\Nw b x i t:=hi;obtain⟨i0,i1,i2⟩:=hi;cbv)|(refine⟨[1,3,4,5,25,26,33,34,35],[1],Int,fun k=>[.reg 35 (.j k)],fun k=>0<=k/\k<=(((aO b i 0).length:Nat):Int)/\upto (Ie b i) k,fun k=>((aO b i 0).length)-k.toNat,⟨0,?_,?_⟩,?_⟩;rotate_left;(focus (cbv;done));intro k hk;replace hk:0<=k/\k<=(((aO b i 0).length:Nat):Int)/\upto (Ie b i) k:=hk;obtain⟨k0,k1,k2⟩:=hk;cbv)|(refine ah (O.ar .add Za k 1) ?_ ?_ ?_;focus (cbv;done))|(refine⟨[1,3,4,5,25,26,55,56,57],[1],Int,fun j=>[.reg 57 (.j j)],fun j=>0<=j/\j<=(((aO x i 0).length:Nat):Int)/\upto (Jz x i) j,fun j=>((aO x i 0).length)-j.toNat,⟨0,?_,?_⟩,?_⟩;rotate_left;(focus (cbv;done));intro j hj;replace hj:0<=j/\j<=(((aO x i 0).length:Nat):Int)/\upto (Jz x i) j:=hj;obtain⟨j0,j1,j2⟩:=hj;cbv)|(refine ah (O.ar .add Za j 1) ?_ ?_ ?_;focus (cbv;done))|(refine ah (O.ar .add Za i 1,O.ar .add Za t (O.ar .add Za (O.zi (O.ln (O.gs b i 0))) (O.zi (O.ln (O.gs x i 0))))) ?_ ?_ ?_;focus (cbv;done))
 all_goals(subst hO hr hF;(try simp only[nc]at*);(try simp only[am,SS,sa,az]at*);(try simp only[hsb]at*);(try rw[dq (by omega) (by omega)]);(try have y1:=hp.bn i);(try have y2:=hp.xn i);(try have z6:bO .add Za k 1=k+1:=cE (by omega));(try simp only[z6]at*);(try have z7:bO .add Za j 1=j+1:=cE (by omega));(try simp only[z7]at*);(try have q:=ad7 hp i2 i0 (by have r:=bi.1 (by assumption:inR (b.length:Int) 1 4=true);omega));(try have z8:bO .add Za (((aO b i 0).length:Nat):Int) (((aO x i 0).length:Nat):Int)=((aO b i 0).length:Int)+(aO x i 0).length:=cE (by omega));(try simp only[z8]at*);(try have z9:bO .add Za t (((aO b i 0).length:Int)+(aO x i 0).length)=t+(((aO b i 0).length:Int)+(aO x i 0).length):=cE (by omega));(try simp only[z9]at*))
 all_goals first
  | (show(_:List DV)=_
     first
      |(refine au ?_;symm;exact PE (by assumption))
      |(refine au ?_;symm;exact PF (by assumption))
      |(refine au ?_;symm;exact HS i0 (by omega) k0 (by assumption) (aaP (by assumption)))
      |(refine au ?_;symm;exact HS i0 (by omega) k0 (by assumption) (aaQ (by assumption)))
      |(refine au ?_;symm;exact PG i0 (by omega) j0 (by assumption) (acu (by assumption)))
      |(refine au ?_;rw[PD i2 (by assumption) (by omega) i1 (by omega)];rfl)
      |done)
  |omega
  |exact fQ
  |(show aw _ _=true;kernel_rfl)
  |exact bV
  |exact bN k2 (aaR (by assumption) (by assumption))
  |exact bN j2 (Ru (by assumption))
  |exact aak i2 i0 k2 (by omega) j2 (by omega)
  |exact ad6
  |done
abbrev Lj1:dr:=dW (fun F f=>match f with|64=>eJ F|_=>fun _=>none) (by
 intro f;dsimp only;split;exact iU;exact dD)
def jy:EC:=fun F=>fun
 |[.agg [.s 1 b,.s 1 x]]=>some (fun _=>F7 b x,[.one (.s 1 (F.ifL b x))])
 |_=>none
theorem tE:ec 176 jy:=by
 intro _ _ _ h hp;dsimp only[jy,F0]at h;split at h<;>cases h
 rename_i b x;have hbw:=hp.bw;have hxw:=hp.xw;have hbl:=hp.bl;have hxl:=hp.xl;refine cb Lj1 Tryz.func176 ?_
 intro O r F hO hr hF;cbv
 repeat' first|apply Zd|(apply cS<;>intro hb<;>cbv)|(refine⟨[1,3,15,16,17],[1,3],Int×af,fun s_=>match s_ with|(i,o)=>[.reg 17 (.j i),.reg 3 (.one (.vw 3 0 0 0 (O.ln o))),.leaf 3 0 ⟨0,0,none,.own (.s 1 o)⟩],fun s_=>match s_ with|(i,o)=>0<=i/\i<=(b.length:Int)/\QW b i o,fun s_=>match s_ with|(i,o)=>b.length-i.toNat,⟨(0,[]),?_,?_⟩,?_⟩;rotate_left;(focus (cbv;done));intro s_ hi;obtain⟨i,o⟩:=s_;replace hi:0<=i/\i<=(b.length:Int)/\QW b i o:=hi;obtain⟨i0,i1,i2⟩:=hi;cbv)|(refine⟨[1,3,15,16,17,21,22,23],[1,3],Int×af,fun s_=>match s_ with|(k,o1)=>[.reg 23 (.j k),.reg 3 (.one (.vw 3 0 0 0 (O.ln o1))),.leaf 3 0 ⟨0,0,none,.own (.s 1 o1)⟩],fun s_=>match s_ with|(k,o1)=>0<=k/\k<=((aO b i 0).length:Int)/\QX b i k o1,fun s_=>match s_ with|(k,o1)=>(aO b i 0).length-k.toNat,⟨(0,o),?_,?_⟩,?_⟩;rotate_left;(focus (cbv;done));intro s_ hk;obtain⟨k,o1⟩:=s_;replace hk:0<=k/\k<=((aO b i 0).length:Int)/\QX b i k o1:=hk;obtain⟨k0,k1,k2⟩:=hk;cbv)|(refine⟨[3,35,36,37],[3],Int×af,fun s_=>match s_ with|(j,o2)=>[.reg 37 (.j j),.reg 3 (.one (.vw 3 0 0 0 (O.ln o2))),.leaf 3 0 ⟨0,0,none,.own (.s 1 o2)⟩],fun s_=>match s_ with|(j,o2)=>0<=j/\j<=(x.length:Int)/\QY b x j o2,fun s_=>match s_ with|(j,o2)=>x.length-j.toNat,⟨(0,o),?_,?_⟩,?_⟩;rotate_left;(focus (cbv;done));intro s_ hj;obtain⟨j,o2⟩:=s_;replace hj:0<=j/\j<=(x.length:Int)/\QY b x j o2:=hj;obtain⟨j0,j1,j2⟩:=hj;cbv)|(refine ah (O.ar .add Za k 1,O.cat o1 (O.sub [[.i (O.gi (O.gs b i 0) k 1)]] 0 (O.ln [[.i (O.gi (O.gs b i 0) k 1)]]))) ?_ ?_ ?_;focus (cbv;done))|(refine ah (O.ar .add Za i 1,o1) ?_ ?_ ?_;focus (cbv;done))|(refine ah (O.ar .add Za j 1,O.cat o2 (O.gs x j 0)) ?_ ?_ ?_;focus (cbv;done))
 all_goals(subst hO hr hF;(try simp only[nc]at*);(try simp only[am,SS,sa,az]at*);(try rw[dq (by omega) (by omega)]);(try have z:=PH (by assumption));(try have y1:=hp.bn i);(try have y2:=hp.xn j);(try have z6:bO .add Za k 1=k+1:=cE (by omega));(try simp only[z6]at*))
 all_goals first
  | (show(_:List DV)=_
     first
      |(refine zk ?_;exact adH (by assumption))
      |(refine zk ?_;exact OH j2 (by assumption) j1 (by assumption))
      |done)
  |omega
  |exact fQ
  |exact Rw.scal (Rw.sub (fs:=[.sl [tI]]) hxw (by omega) rfl) rfl
  |(have q:=k2.l;constructor<;>(simp only[Zj,Zl];omega))
  |(have q:=j2.l;constructor<;>omega)
  |exact SG k2 k0
  |exact Ov k2 i0 y1 k1 (by omega)
  |exact ac2 i2
  |exact ac4 i2 i1 (by omega)
  |exact S7 j2 j0 y2
  |exact acS
  |exact⟨Zb,Zb⟩
  |done
end Go.V