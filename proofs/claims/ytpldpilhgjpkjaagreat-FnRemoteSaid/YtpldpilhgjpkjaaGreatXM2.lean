/- Contracts. -/
import Derived.Test.YtpldpilhgjpkjaaGreatXM0
set_option linter.all false
open Go
open And renaming intro->Zd
open IntKind renaming i64->Za
open List renaming length_cons->Zj,length_nil->Zk
open True renaming intro->Zb
namespace Go.V
open Go Go.Proofs
set_option maxRecDepth 1000000
set_option maxHeartbeats 8000000
abbrev La0:dp:=d4 (fun F f=>match f with|157=>dj F|56=>cn F|_=>fun _=>none) (by
 intro f;dsimp only;split;exact d9;exact cS;exact dB)
def di:EC:=fun F=>fun
 |[.one (.v (.int Za k))]=>some (fun _=>True,[.j (F.slN k)])
 |_=>none
theorem d8:ec 255 di:=by
 intro _ _ _ h hp;dsimp only[di,F0]at h;split at h<;>cases h
 rename_i k;refine cb La0 Tryz.func255 ?_
 intro O r F hO hr hF;cbv
 repeat' first|apply Zd|(apply cP<;>intro hb<;>cbv)
 all_goals(subst hO hr hF;(try simp only[nc]at*);(try simp only[aj,SS,sa,az]at*))
 all_goals first
  | (show(_:List DV)=_
     first
      |exact cB (JE (by assumption))
      |exact cB (JF (by assumption)).symm
      |done)
  |(have:=mz (k:=k) (by assumption);omega)
  |done
abbrev La1:dp:=d4 (fun F f=>match f with|33=>ay F|_=>fun _=>none) (by
 intro f;dsimp only;split;exact aS;exact dB)
def gD:EC:=fun F=>fun
 |[.one (.v (.int Za n)),.one (.v (.int Za b))]=>some (fun _=>True,[.k (F.bmOk n b)])
 |_=>none
theorem nE:ec 278 gD:=by
 intro _ _ _ h hp;dsimp only[gD,F0]at h;split at h<;>cases h
 rename_i n b;refine cb La1 Tryz.func278 ?_
 intro O r F hO hr hF;cbv
 repeat' first|apply Zd|(apply cP<;>intro hb<;>cbv)
 all_goals(subst hO hr hF;(try simp only[nc]at*);(try simp only[aj,SS,sa,az]at*);(try(have e:=acP (n:=n) (by assumption);simp only[e.1])))
 all_goals first
  | (show(_:List DV)=_
     first
      |exact av (OW (by assumption)).symm
      |exact av (Td (by assumption)).symm
      |done)
  |(have:=be.1 (‹inR n 1 16=true›);omega)
  |done
abbrev La2:dp:=d4 (fun F f=>match f with|33=>ay F|157=>dj F|255=>di F|278=>gD F|_=>fun _=>none) (by
 intro f;dsimp only;split;exact aS;exact d9;exact d8;exact nE;exact dB)
def dX:EC:=fun F=>fun
 |[.agg [.v (.int Za p),.v (.int Za k),.v (.int Za b)]]=>some (fun _=>True,[.k (F.spOk p k b)])
 |_=>none
theorem gv:ec 167 dX:=by
 intro _ _ _ h hp;dsimp only[dX,F0]at h;split at h<;>cases h
 rename_i p k b;refine cb La2 Tryz.func167 ?_
 intro O r F hO hr hF;cbv
 repeat' first|apply Zd|(apply cP<;>intro hb<;>cbv)
 all_goals(subst hO hr hF;(try simp only[nc]at*);(try simp only[aj,SS,sa,az]at*))
 all_goals first
  | (show(_:List DV)=_
     first
      |exact av (RI (by assumption)).symm
      |exact av (RF (by assumption)).symm
      |exact av (RG (by assumption)).symm
      |done)
  |(show ax _ _=true;kernel_rfl)
  |done
def gG:EC:=fun F=>fun
 |[.one (.v (.int Za s))]=>some (fun _=>True,[.j (F.pfN s)])
 |_=>none
theorem nH:ec 144 gG:=by
 intro _ _ _ h hp;dsimp only[gG,F0]at h;split at h<;>cases h
 rename_i s;refine cb La1 Tryz.func144 ?_
 intro O r F hO hr hF;cbv
 repeat' first|apply Zd|(apply cP<;>intro hb<;>cbv)
 all_goals(subst hO hr hF;(try simp only[nc]at*);(try simp only[aj,SS,sa,az]at*))
 all_goals first
  | (show(_:List DV)=_
     first
      |exact cB (Q6 (by assumption))
      |exact cB (acf (by assumption)).symm
      |done)
  |omega
  |done
abbrev La3:dp:=d4 (fun F f=>match f with|33=>ay F|144=>gG F|_=>fun _=>none) (by
 intro f;dsimp only;split;exact aS;exact nH;exact dB)
def hH:EC:=fun F=>fun
 |[.agg [.v (.int Za p),.v (.int Za n),.v (.int Za s)]]=>some (fun _=>True,[.k (F.lgOk p n s)])
 |_=>none
theorem oa:ec 168 hH:=by
 intro _ _ _ h hp;dsimp only[hH,F0]at h;split at h<;>cases h
 rename_i p n s;refine cb La3 Tryz.func168 ?_
 intro O r F hO hr hF;cbv
 repeat' first|apply Zd|(apply cP<;>intro hb<;>cbv)
 all_goals(subst hO hr hF;(try simp only[nc]at*);(try simp only[aj,SS,sa,az]at*))
 all_goals first
  | (show(_:List DV)=_
     first
      |(have b:=oP (s:=s) (by assumption);rw[show bO .sub Za 32 n=32-n from gg (by omega)];exact av (QB (by assumption) (by assumption)).symm)
      |exact av (Qz (by assumption)).symm
      |exact av (QA (by assumption)).symm
      |done)
  |(show ax _ _=true;kernel_rfl)
  |done
abbrev La4:dp:=d4 (fun F f=>match f with|33=>ay F|167=>dX F|56=>cn F|255=>di F|168=>hH F|_=>fun _=>none) (by
 intro f;dsimp only;split;exact aS;exact gv;exact cS;exact d8;exact oa;exact dB)
def lS:EC:=fun F=>fun
 |[.agg [.v (.int Za p),.v (.int Za k),.v (.int Za b)],.one (.v (.int Za a))]=>some (fun _=>True,[.j (F.saS p k b a),.j (F.saO p k b a)])
 |_=>none
theorem xB:ec 272 lS:=by
 intro _ _ _ h hp;dsimp only[lS,F0]at h;split at h<;>cases h
 rename_i p k b a;refine cb La4 Tryz.func272 ?_
 intro O r F hO hr hF;cbv
 repeat' first|apply Zd|(apply cP<;>intro hb<;>cbv)
 all_goals(subst hO hr hF;(try simp only[nc]at*);(try simp only[aj,SS,sa,az]at*);(try(have t:=li (p:=p) (k:=k) (b:=b) (by assumption);have c:=mz t.2.2.1;have e:=acg (p:=p) ⟨t.1,t.2.1⟩;try simp only[e.1,e.2]at*)))
 all_goals first
  | (show(_:List DV)=_
     first
      |(have q:=Mc (p:=p) (k:=k) (b:=b) (a:=a) (by assumption) (by assumption);exact x8 q.1.symm q.2.symm)
      |(have q:=Jv (acG (p:=p) (k:=k) (b:=b) (a:=a) (by assumption));exact x8 q.1.symm q.2.symm)
      |(have q:=Jv (acH (p:=p) (k:=k) (b:=b) (a:=a) (by assumption));exact x8 q.1.symm q.2.symm)
      |done)
  |(show ax _ _=true;kernel_rfl)
  |omega
  |done
def eL:EC:=fun F=>fun
 |[.agg [.v (.int Za p),.v (.int Za k),.v (.int Za b)],.one (.v (.int Za s))]=>some (fun _=>True,[.j (F.aaI p k b s)])
 |_=>none
theorem jG:ec 259 eL:=by
 intro _ _ _ h hp;dsimp only[eL,F0]at h;split at h<;>cases h
 rename_i p k b s;refine cb La4 Tryz.func259 ?_
 intro O r F hO hr hF;cbv
 repeat' first|apply Zd|(apply cP<;>intro hb<;>cbv)
 all_goals(subst hO hr hF;(try simp only[nc]at*);(try simp only[aj,SS,sa,az]at*);(try(have t:=li (p:=p) (k:=k) (b:=b) (by assumption);have c:=mz t.2.2.1;have e:bO .sub Za (slN k) 1=slN k-1:=gg (by omega);try simp only[e]at*)))
 all_goals first
  | (show(_:List DV)=_
     first
      |exact cB (OR (by assumption) (by assumption))
      |exact cB (MI (.inl (by assumption))).symm
      |exact cB (MI (.inr (by assumption))).symm
      |done)
  |(show ax _ _=true;kernel_rfl)
  |done
def gF:EC:=fun F=>fun
 |[.agg [.v (.int Za p),.v (.int Za n),.v (.int Za s)],.one (.v (.int Za a))]=>some (fun _=>True,[.k (F.lhB p n s a)])
 |_=>none
theorem nG:ec 274 gF:=by
 intro _ _ _ h hp;dsimp only[gF,F0]at h;split at h<;>cases h
 rename_i p n s a;refine cb La4 Tryz.func274 ?_
 intro O r F hO hr hF;cbv
 repeat' first|apply Zd|(apply cP<;>intro hb<;>cbv)
 all_goals(subst hO hr hF;(try simp only[nc]at*);(try simp only[aj,SS,sa,az]at*);(try(have e:=Nw (p:=p) (n:=n) (s:=s) (by assumption);try simp only[e.2.2])))
 all_goals first
  | (show(_:List DV)=_
     first
      |(rw[e.1];exact av (QE (by assumption)).symm)
      |exact av (QC (by assumption)).symm
      |done)
  |done
abbrev La5:dp:=d4 (fun F f=>match f with|274=>gF F|_=>fun _=>none) (by
 intro f;dsimp only;split;exact nG;exact dB)
def gL:EC:=fun F=>fun
 |[.agg [.v (.int Za p),.v (.int Za n),.v (.int Za s)],.one (.v (.int Za a))]=>some (fun _=>True,[.j (F.loI p n s a)])
 |_=>none
theorem pM:ec 275 gL:=by
 intro _ _ _ h hp;dsimp only[gL,F0]at h;split at h<;>cases h
 rename_i p n s a;refine cb La5 Tryz.func275 ?_
 intro O r F hO hr hF;cbv
 repeat' first|apply Zd|(apply cP<;>intro hb<;>cbv)
 all_goals(subst hO hr hF;(try simp only[nc]at*);(try simp only[aj,SS,sa,az]at*))
 all_goals first
  | (show(_:List DV)=_
     first
      |exact cB (abC (by assumption))
      |exact cB (abD (by assumption)).symm
      |done)
  |done
def hP:EP:=fun F=>fun
 |[.one (.v (.int Za pg)),.mp [.own (.m true es)]]=>some (fun _=>True,[[.own (.m true (F.muT es pg))]],[.k (!(F.mgbI es pg))])
 |_=>none
theorem qq:ep 166 hP:=by
 intro _ _ _ _ h hp;dsimp only[hP,F0]at h;split at h<;>cases h
 rename_i pg es;refine pb nB Tryz.func166 ?_
 intro O r os F hO hr hos hF;cbv
 repeat' first|apply Zd|(apply cP<;>intro hb<;>cbv)
 all_goals((try subst hos);subst hO hr hF;(try simp only[nc]at*);(try simp only[aj,SS,sa,az]at*))
 all_goals first|(show(_:List DV)=_;exact rfl)|(show(_:List H)=_;exact rfl)|done
abbrev Lc1:dp:={
 Φ:=tW
 F0:=F0
 ct:=fun F f=>match f with|167=>dX F|168=>hH F|_=>fun _=>none
 hc:=(by
  intro f;dsimp only;split;exact gv;exact oa;exact dB)
 pt:=fun F f=>match f with|166=>some (hP F)|_=>none
 hp:=(by
  intro f mk h;dsimp only at h;split at h<;>cases h
  exact qq)}
def eJ:EC:=fun F=>fun
 |[.one (.s 3 sp),.one (.s 3 lg)]=>some (fun _=>Rw [tI,tI,tI] sp/\Rw [tI,tI,tI] lg/\sp.length<=1073741824/\lg.length<=1073741824,[.k (F.layOk sp lg)])
 |_=>none
theorem jE:ec 62 eJ:=by
 intro _ _ _ h hp;dsimp only[eJ,F0]at h;split at h<;>cases h
 rename_i sp lg;obtain⟨hs,hl,ns,nl⟩:=hp;refine cb Lc1 Tryz.func62 ?_
 intro O r F hO hr hF;cbv
 repeat' first|apply Zd|(apply cP<;>intro hb<;>cbv)|(refine⟨[1,6,14,15,16],[5],Int×af,fun s_=>match s_ with|(i,es)=>[.reg 16 (.j i),.leaf 5 0 ⟨0,0,none,.own (.m true es)⟩],fun s_=>match s_ with|(i,es)=>0<=i/\i<=(sp.length:Int)/\OE sp i es,fun s_=>match s_ with|(i,es)=>sp.length-i.toNat,⟨(0,[]),?_,?_⟩,?_⟩;rotate_left;(focus (cbv;done));intro s_ hi;obtain⟨i,es⟩:=s_;replace hi:0<=i/\i<=(sp.length:Int)/\OE sp i es:=hi;obtain⟨i0,i1,i2⟩:=hi;cbv)|(refine⟨[6,31,32,33],[5],Int×af,fun s_=>match s_ with|(j,es1)=>[.reg 33 (.j j),.leaf 5 0 ⟨0,0,none,.own (.m true es1)⟩],fun s_=>match s_ with|(j,es1)=>0<=j/\j<=(lg.length:Int)/\Sv sp lg j es1,fun s_=>match s_ with|(j,es1)=>lg.length-j.toNat,⟨(0,es),?_,?_⟩,?_⟩;rotate_left;(focus (cbv;done));intro s_ hj;obtain⟨j,es1⟩:=s_;replace hj:0<=j/\j<=(lg.length:Int)/\Sv sp lg j es1:=hj;obtain⟨j0,j1,j2⟩:=hj;cbv)|(refine⟨[6,10,11,31,32,33],[5,10],Int×af,fun s_=>match s_ with|(k,es2)=>[.reg 11 (.j k),.leaf 5 0 ⟨0,0,none,.own (.m true es2)⟩],fun s_=>match s_ with|(k,es2)=>0<=k/\k<=ag lg j 1/\OC sp lg j k es2,fun s_=>match s_ with|(k,es2)=>(ag lg j 1-k).toNat,⟨(0,es1),?_,?_⟩,?_⟩;rotate_left;(focus (cbv;done));intro s_ hk;obtain⟨k,es2⟩:=s_;replace hk:0<=k/\k<=ag lg j 1/\OC sp lg j k es2:=hk;obtain⟨k0,k1,k2⟩:=hk;cbv)|(refine ah (O.ar .add Za k 1,F.muT es2 (O.ar .add Za (O.gi lg j 0) k)) ?_ ?_ ?_;focus (cbv;done))|(refine ah (O.ar .add Za j 1,es2) ?_ ?_ ?_;focus (cbv;done))|(refine ah (O.ar .add Za i 1,F.muT es (O.gi sp i 0)) ?_ ?_ ?_;focus (cbv;done))
 all_goals(subst hO hr hF;(try simp only[nc]at*);(try simp only[aj,SS,sa,az]at*);(try rw[dx (by omega) (by omega)]);(try have z:=(afl (k:=k) (by assumption) k0 (by assumption)));(try(obtain⟨z1,z2,z3,z4,z5⟩:=z));(try have z6:bO .add Za k 1=k+1:=cG (by omega));(try simp only[z3]at*);(try simp only[z6]at*))
 all_goals first
  | (show(_:List DV)=_
     first
      |(refine av ?_;symm;exact Qp i2 i0 (by assumption) (abM (b:=mgbI es (ag sp i 0)) hb))
      |(refine av ?_;symm;exact Qj k2 j0 (by assumption) k0 (by assumption) (abM (b:=mgbI es2 (ag lg j 0+k)) hb))
      |(refine av ?_;symm;exact Lp i0 (by assumption) (by assumption))
      |(refine av ?_;symm;exact Lq j0 (by assumption) (by assumption))
      |(refine av ?_;symm;exact Ql j2 j1 (by assumption))
      |done)
  |omega
  |exact fK
  |exact abk i2 i0 (by assumption) (abN (b:=mgbI es (ag sp i 0)) hb)
  |exact abg k2 k0 (abN (b:=mgbI es2 (ag lg j 0+k)) hb)
  |exact Qk k2 j0 (by assumption) k1 (by assumption)
  |exact ae3 j2
  |exact Qq i2 i1 (by assumption)
  |exact ae4
  |(have t:=ma (by assumption);have b:=oP t.1;omega)
  |done
abbrev Ld1:dp:=d4 (fun F f=>match f with|272=>lS F|273=>dF F|274=>gF F|275=>gL F|_=>fun _=>none) (by
 intro f;dsimp only;split;exact xB;exact fm;exact nG;exact pM;exact dB)
def dG:EC:=fun F=>fun
 |[.one (.s 3 sp),.one (.s 3 lg),.one (.v (.int Za a))]=>some (fun _=>Rw [tI,tI,tI] sp/\Rw [tI,tI,tI] lg,[.agg [.i (F.dnK sp lg a),.i (F.dnI sp lg a),.i (F.dnS sp a),.i (F.dnO sp lg a)]])
 |_=>none
theorem fq:ec 162 dG:=by
 intro _ _ _ h hp;dsimp only[dG,F0]at h;split at h<;>cases h
 rename_i sp lg a;obtain⟨hs,hl⟩:=hp;have ms:=hs.1;unfold maxLen at ms;have ml:=hl.1;unfold maxLen at ml;refine cb Ld1 Tryz.func162 ?_
 intro O r F hO hr hF;cbv
 repeat' first|apply Zd|(apply cP<;>intro hb<;>cbv)|(refine⟨[1,2,6,14,15,16],[6],Int,fun i=>[.reg 16 (.j i)],fun i=>0<=i/\i<=((sp.length:Nat):Int)/\upto (cR (yD sp a)) i,fun i=>(sp.length)-i.toNat,⟨0,?_,?_⟩,?_⟩;rotate_left;(focus (cbv;done));intro i hi;replace hi:0<=i/\i<=((sp.length:Nat):Int)/\upto (cR (yD sp a)) i:=hi;obtain⟨i0,i1,i2⟩:=hi;cbv)|(refine ah (O.ar .add Za i 1) ?_ ?_ ?_;focus (cbv;done))|(refine⟨[2,6,39,40,41],[6],Int,fun j=>[.reg 41 (.j j)],fun j=>0<=j/\j<=((lg.length:Nat):Int)/\upto (cR (yq lg a)) j,fun j=>(lg.length)-j.toNat,⟨0,?_,?_⟩,?_⟩;rotate_left;(focus (cbv;done));intro j hj;replace hj:0<=j/\j<=((lg.length:Nat):Int)/\upto (cR (yq lg a)) j:=hj;obtain⟨j0,j1,j2⟩:=hj;cbv)|(refine ah (O.ar .add Za j 1) ?_ ?_ ?_;focus (cbv;done))
 all_goals(subst hO hr hF;(try simp only[nc]at*);(try simp only[aj,SS,sa,az]at*);(try rw[dx (by omega) (by omega)]))
 all_goals first
  | (show(_:List DV)=_
     first
      |exact ow1 i2 i0 (by assumption) (by assumption) (by assumption)
      |exact ow2 i2 i0 (by assumption) (by assumption) (by assumption)
      |exact ow3 i2 (by assumption) j2 j0 (by assumption) (by assumption)
      |exact ow4 i2 (by assumption) j2 (by assumption)
      |done)
  |omega
  |exact fK
  |exact afT i2 (by assumption)
  |exact afi j2 (by assumption)
  |exact cg
  |done
def Tryz.lays189_ren:Go.Shelf.Ren:=⟨fun|189=>281|125=>343|257=>342|128=>393|129=>394|294=>384|295=>385|296=>386|297=>387|298=>388|299=>389|216=>390|300=>391|301=>392|328=>407|329=>408|330=>409|331=>410|332=>411|215=>412|343=>417|n=>n,fun|28=>24|3=>3|46=>217|0=>0|51=>392|53=>394|4=>4|183=>386|182=>385|131=>113|5=>5|9=>9|218=>403|222=>407|228=>410|229=>59|n=>n,fun|n=>n⟩
theorem Tryz.lays189:Lays.n189 Tryz.prog Tryz.lays189_ren:=⟨by kernel_rfl,Tryz.func343.trans (congrArg some (by kernel_rfl)),Tryz.func393.trans (congrArg some (by kernel_rfl)),Tryz.func394.trans (congrArg some (by kernel_rfl)),Tryz.func281.trans (congrArg some (by kernel_rfl)),Tryz.func412.trans (congrArg some (by kernel_rfl)),Tryz.func390.trans (congrArg some (by kernel_rfl)),Tryz.func342.trans (congrArg some (by kernel_rfl)),Tryz.func384.trans (congrArg some (by kernel_rfl)),Tryz.func385.trans (congrArg some (by kernel_rfl)),Tryz.func386.trans (congrArg some (by kernel_rfl)),Tryz.func387.trans (congrArg some (by kernel_rfl)),Tryz.func388.trans (congrArg some (by kernel_rfl)),Tryz.func389.trans (congrArg some (by kernel_rfl)),Tryz.func391.trans (congrArg some (by kernel_rfl)),Tryz.func392.trans (congrArg some (by kernel_rfl)),Tryz.func407.trans (congrArg some (by kernel_rfl)),Tryz.func408.trans (congrArg some (by kernel_rfl)),Tryz.func409.trans (congrArg some (by kernel_rfl)),Tryz.func410.trans (congrArg some (by kernel_rfl)),Tryz.func411.trans (congrArg some (by kernel_rfl)),Tryz.func417.trans (congrArg some (by kernel_rfl)),Tryz.underlying0,Tryz.isAgg0,Tryz.sizeOf0,Tryz.zeroValue0,Tryz.underlying3,Tryz.isAgg3,Tryz.sizeOf3,Tryz.zeroValue3,Tryz.underlying4,Tryz.isAgg4,Tryz.sizeOf4,Tryz.zeroValue4,Tryz.underlying5,Tryz.isAgg5,Tryz.sizeOf5,Tryz.zeroValue5,Tryz.underlying9,Tryz.isAgg9,Tryz.sizeOf9,Tryz.zeroValue9,Tryz.underlying24,Tryz.isAgg24,Tryz.sizeOf24,Tryz.zeroValue24,Tryz.underlying217,Tryz.isAgg217,Tryz.sizeOf217,Tryz.zeroValue217,Tryz.underlying392,Tryz.isAgg392,Tryz.sizeOf392,Tryz.zeroValue392,Tryz.underlying394,Tryz.isAgg394,Tryz.sizeOf394,Tryz.zeroValue394,Tryz.underlying113,Tryz.isAgg113,Tryz.sizeOf113,Tryz.zeroValue113,Tryz.underlying385,Tryz.isAgg385,Tryz.sizeOf385,Tryz.zeroValue385,Tryz.underlying386,Tryz.isAgg386,Tryz.sizeOf386,Tryz.zeroValue386,Tryz.underlying403,Tryz.isAgg403,Tryz.sizeOf403,Tryz.zeroValue403,Tryz.underlying407,Tryz.isAgg407,Tryz.sizeOf407,Tryz.zeroValue407,Tryz.underlying410,Tryz.isAgg410,Tryz.sizeOf410,Tryz.zeroValue410,Tryz.underlying59,Tryz.isAgg59,Tryz.sizeOf59,Tryz.zeroValue59⟩
def eW:EM:=fun F=>fun
 |[.one (.s 1 l)]=>some (fun _=>Rw [tI] l/\l.length<=70368744177664,[.s 1 (F.srtL l)],[])
 |_=>none
theorem nR:em 281 eW:=by
 intro _ _ _ _ h hp;dsimp only[eW,F0]at h;split at h<;>cases h
 rename_i l;exact Gr (Any.slices_Sort_int_none Tryz.lays189) (Any.slices_Sort_int Tryz.lays189) l hp
abbrev Lf1:dp:={
 Φ:=tW
 F0:=F0
 ct:=fun F f=>match f with|62=>eJ F|255=>di F|273=>dF F|259=>eL F|_=>fun _=>none
 hc:=(by
  intro f;dsimp only;split;exact jE;exact d8;exact fm;exact jG;exact dB)
 mt:=fun F f=>match f with|281=>some (eW F)|_=>none
 hm:=(by
  intro f mk h;dsimp only at h;split at h<;>cases h
  exact nR)}
def iR:EC:=fun F=>fun
 |[.one (.s 3 sp),.one (.s 3 lg)]=>some (fun _=>Rw [tI,tI,tI] sp/\Rw [tI,tI,tI] lg/\sp.length<=1073741824/\lg.length<=1073741824,[.one (.s 1 (F.iaL sp lg))])
 |_=>none
theorem rX:ec 177 iR:=by
 intro _ _ _ h hp;dsimp only[iR,F0]at h;split at h<;>cases h
 rename_i sp lg;obtain⟨hs,hl,ns,nl⟩:=hp;refine cb Lf1 Tryz.func177 ?_
 intro O r F hO hr hF;cbv
 repeat' first|apply Zd|(apply cP<;>intro hb<;>cbv)|(refine⟨[1,5,16,17,18],[5],Int×af,fun s_=>match s_ with|(i,o)=>[.reg 18 (.j i),.reg 5 (.one (.vw 5 0 0 0 (O.ln o))),.leaf 5 0 ⟨0,0,none,.own (.s 1 o)⟩],fun s_=>match s_ with|(i,o)=>0<=i/\i<=(sp.length:Int)/\Sn sp i o,fun s_=>match s_ with|(i,o)=>sp.length-i.toNat,⟨(0,[]),?_,?_⟩,?_⟩;rotate_left;(focus (cbv;done));intro s_ hi;obtain⟨i,o⟩:=s_;replace hi:0<=i/\i<=(sp.length:Int)/\Sn sp i o:=hi;obtain⟨i0,i1,i2⟩:=hi;cbv)|(refine⟨[1,5,7,8,16,17,18],[5,7],Int×af,fun s_=>match s_ with|(k,o1)=>[.reg 8 (.j k),.reg 5 (.one (.vw 5 0 0 0 (O.ln o1))),.leaf 5 0 ⟨0,0,none,.own (.s 1 o1)⟩],fun s_=>match s_ with|(k,o1)=>0<=k/\k<=slN (ag sp i 1)/\Kk sp i k o1,fun s_=>match s_ with|(k,o1)=>(slN (ag sp i 1)-k).toNat,⟨(0,o),?_,?_⟩,?_⟩;rotate_left;(focus (cbv;done));intro s_ hk;obtain⟨k,o1⟩:=s_;replace hk:0<=k/\k<=slN (ag sp i 1)/\Kk sp i k o1:=hk;obtain⟨k0,k1,k2⟩:=hk;cbv)|(refine⟨[5,40,41,42],[5],Int×af,fun s_=>match s_ with|(j,o2)=>[.reg 42 (.j j),.reg 5 (.one (.vw 5 0 0 0 (O.ln o2))),.leaf 5 0 ⟨0,0,none,.own (.s 1 o2)⟩],fun s_=>match s_ with|(j,o2)=>0<=j/\j<=(lg.length:Int)/\ME sp lg j o2,fun s_=>match s_ with|(j,o2)=>lg.length-j.toNat,⟨(0,o),?_,?_⟩,?_⟩;rotate_left;(focus (cbv;done));intro s_ hj;obtain⟨j,o2⟩:=s_;replace hj:0<=j/\j<=(lg.length:Int)/\ME sp lg j o2:=hj;obtain⟨j0,j1,j2⟩:=hj;cbv)|(refine ah (O.ar .add Za k 1,O.cat o1 (O.sub [[.i (F.aaI (O.gi sp i 0) (O.gi sp i 1) (O.gi sp i 2) k)]] 0 (O.ln [[.i (F.aaI (O.gi sp i 0) (O.gi sp i 1) (O.gi sp i 2) k)]]))) ?_ ?_ ?_;focus (cbv;done))|(refine ah (O.ar .add Za k 1,o1) ?_ ?_ ?_;focus (cbv;done))|(refine ah (O.ar .add Za i 1,o1) ?_ ?_ ?_;focus (cbv;done))|(refine ah (O.ar .add Za j 1,O.cat o2 (O.sub [[.i (O.ar .mul Za (O.gi lg j 0) 16)]] 0 (O.ln [[.i (O.ar .mul Za (O.gi lg j 0) 16)]]))) ?_ ?_ ?_;focus (cbv;done))
 all_goals(subst hO hr hF;(try simp only[nc]at*);(try simp only[aj,SS,sa,az]at*);(try rw[dx (by omega) (by omega)]);(try have z1:=afZ (sp:=sp) (lg:=lg) (i:=i) (by assumption) i0 (by assumption));(try have z6:bO .add Za k 1=k+1:=cG (by omega));(try simp only[z6]at*);(try have z7:=afk (sp:=sp) (lg:=lg) (j:=j) (by assumption) j0 (by assumption));(try have z8:bO .mul Za (ag lg j 0) 16=ag lg j 0*16:=wh (by omega));(try simp only[z8]at*))
 all_goals first
  | (show(_:List DV)=_
     first
      |(refine zS ?_;exact aeX (by assumption))
      |(refine zS ?_;exact Qg j2 j1 (by assumption) (by assumption))
      |done)
  |omega
  |exact fK
  |(show ax _ _=true;kernel_rfl)
  |exact scal_one
  |exact⟨hs,hl,ns,nl⟩
  |exact abb j2 (by omega) (by omega)
  |(have q:=Qe k2;constructor<;>(simp only[Zj,Zk];omega))
  |(have q:=Ik j2;constructor<;>(simp only[Zj,Zk];omega))
  |exact Qf k2 k0 (by assumption)
  |exact aba k2 k0 (by assumption)
  |exact Qd k2 i0 k1 (by assumption) z1
  |exact aeY i2
  |exact aeZ i2 i1 (by assumption)
  |exact abc j2 j0 z7
  |exact aeW
  |exact BS
  |exact⟨Zb,BS.symm⟩
  |exact⟨Zb,Zb⟩
  |exact Zb
  |done
def io:EC:=fun F=>fun
 |[.agg [.v (.int Za d0),.v (.int Za d1),.v (.int Za d2)],.ptr [.v (.int Za ad)]]=>some (fun _=>True,[.k (F.eqB d0 ad)])
 |_=>none
theorem qC:ec 340 io:=by
 intro _ _ _ h hp;dsimp only[io,F0]at h;split at h<;>cases h
 rename_i d0 d1 d2 ad;refine cb nB Tryz.func340 ?_
 exact zq2
abbrev Lg1:dp:=d4 (fun F f=>match f with|340=>io F|_=>fun _=>none) (by
 intro f;dsimp only;split;exact qC;exact dB)
def bc:EC:=fun F=>fun
 |[.one (.s 3 os),.fn 340 [[.v (.int Za id)]]]=>some (fun _=>Rw [tI,tI,tI] os/\os.length<=1099511627776,[.j (F.qtI os id)])
 |_=>none
theorem ce:ec 383 bc:=by
 intro _ _ _ h hp;dsimp only[bc,F0]at h;split at h<;>cases h
 rename_i os id;obtain⟨hw,hn⟩:=hp;refine cb Lg1 Tryz.func383 ?_
 intro O r F hO hr hF;cbv
 repeat' first|apply Zd|(apply cP<;>intro hb<;>cbv)|(refine⟨[0,1,7,8],[0],Int,fun i=>[.reg 8 (.j i)],fun i=>0<=i/\i<=((os.length:Nat):Int)/\upto (cR (Dl os id)) i,fun i=>(os.length)-i.toNat,⟨0,?_,?_⟩,?_⟩;rotate_left;(focus (cbv;done));intro i hi;replace hi:0<=i/\i<=((os.length:Nat):Int)/\upto (cR (Dl os id)) i:=hi;obtain⟨i0,i1,i2⟩:=hi;cbv)|(refine ah (O.ar .add Za i 1) ?_ ?_ ?_;focus (cbv;done))
 all_goals(subst hO hr hF;(try simp only[nc]at*);(try simp only[aj,SS,sa,az]at*);(try rw[dx (by omega) (by omega)]))
 all_goals first
  | (show(_:List DV)=_
     first
      |exact cB (dI i2 i0 (by assumption) (show Dl os id i=true from by assumption)).symm
      |exact cB (eN i2 (by assumption)).symm
      |done)
  |omega
  |exact fK
  |(show(lk _ _).isSome=true;kernel_rfl)
  |exact cg
  |exact bN i2 (gj (show Dl os id i=false from by assumption))
  |done
abbrev Lg2:dp:=d4 (fun F f=>match f with|383=>bc F|_=>fun _=>none) (by
 intro f;dsimp only;split;exact ce;exact dB)
def aW:EC:=fun F=>fun
 |[.one (.s 3 os),.fn 340 [[.v (.int Za id)]]]=>some (fun _=>Rw [tI,tI,tI] os/\os.length<=1099511627776,[.k (F.qtB os id)])
 |_=>none
theorem bU:ec 339 aW:=by
 intro _ _ _ h hp;dsimp only[aW,F0]at h;split at h<;>cases h
 rename_i os id;refine cb Lg2 Tryz.func339 ?_
 intro O r F hO hr hF;cbv
 repeat' first|apply Zd|(apply cP<;>intro hb<;>cbv)
 all_goals(subst hO hr hF;(try simp only[nc]at*);(try simp only[aj,SS,sa,az]at*))
 all_goals first
  | (show(_:List DV)=_
     first
      |exact av (lB (by unfold qtB;simp only[SS,VR]))
      |done)
  |exact hp
  |done
abbrev Lg3:dp:=d4 (fun F f=>match f with|339=>aW F|_=>fun _=>none) (by
 intro f;dsimp only;split;exact bU;exact dB)
def jX:EC:=fun F=>fun
 |[.one (.s 3 os),.one (.v (.int Za id))]=>some (fun _=>Rw [tI,tI,tI] os/\os.length<=1099511627776,[.k (F.qtB os id)])
 |_=>none
theorem uk:ec 271 jX:=by
 intro _ _ _ h hp;dsimp only[jX,F0]at h;split at h<;>cases h
 rename_i os id;refine cb Lg3 Tryz.func271 ?_
 exact zq3
abbrev Li1:dp:=d4 (fun F f=>match f with|33=>ay F|_=>fun _=>none) (by
 intro f;dsimp only;split;exact aS;exact dB)
def eQ:EC:=fun F=>fun
 |[.agg [.s 1 b,.s 1 x]]=>some (fun _=>GO b x,[.k (F.mailOk b x)])
 |_=>none
theorem jg:ec 64 eQ:=by
 intro _ _ _ h hp;dsimp only[eQ,F0]at h;split at h<;>cases h
 rename_i b x;have hbw:=hp.bw;have hxw:=hp.xw;have hbl:=hp.bl;have hxl:=hp.xl;have hsb:bO .sub Za (b.length:Int) 1=b.length-1:=gg (by omega);refine cb Li1 Tryz.func64 ?_
 intro O r F hO hr hF;cbv
 repeat' first|apply Zd|(apply cP<;>intro hb<;>cbv)|(refine⟨[1,3,4,25,26],[1],Int×Int,fun s_=>match s_ with|(i,t)=>[.reg 26 (.j i),.reg 4 (.j t)],fun s_=>match s_ with|(i,t)=>0<=i/\i<=(b.length:Int)/\OH b x i t,fun s_=>match s_ with|(i,t)=>b.length-i.toNat,⟨(0,0),?_,?_⟩,?_⟩;rotate_left;(focus (cbv;done));intro s_ hi;obtain⟨i,t⟩:=s_;replace hi:0<=i/\i<=(b.length:Int)/\OH b x i t:=hi;obtain⟨i0,i1,i2⟩:=hi;cbv)|(refine⟨[1,3,4,5,25,26,33,34,35],[1],Int,fun k=>[.reg 35 (.j k)],fun k=>0<=k/\k<=(((aw b i 0).length:Nat):Int)/\upto (GW b i) k,fun k=>((aw b i 0).length)-k.toNat,⟨0,?_,?_⟩,?_⟩;rotate_left;(focus (cbv;done));intro k hk;replace hk:0<=k/\k<=(((aw b i 0).length:Nat):Int)/\upto (GW b i) k:=hk;obtain⟨k0,k1,k2⟩:=hk;cbv)|(refine ah (O.ar .add Za k 1) ?_ ?_ ?_;focus (cbv;done))|(refine⟨[1,3,4,5,25,26,55,56,57],[1],Int,fun j=>[.reg 57 (.j j)],fun j=>0<=j/\j<=(((aw x i 0).length:Nat):Int)/\upto (Ko x i) j,fun j=>((aw x i 0).length)-j.toNat,⟨0,?_,?_⟩,?_⟩;rotate_left;(focus (cbv;done));intro j hj;replace hj:0<=j/\j<=(((aw x i 0).length:Nat):Int)/\upto (Ko x i) j:=hj;obtain⟨j0,j1,j2⟩:=hj;cbv)|(refine ah (O.ar .add Za j 1) ?_ ?_ ?_;focus (cbv;done))|(refine ah (O.ar .add Za i 1,O.ar .add Za t (O.ar .add Za (O.zi (O.ln (O.gs b i 0))) (O.zi (O.ln (O.gs x i 0))))) ?_ ?_ ?_;focus (cbv;done))
 all_goals(subst hO hr hF;(try simp only[nc]at*);(try simp only[aj,SS,sa,az]at*);(try simp only[hsb]at*);(try rw[dx (by omega) (by omega)]);(try have y1:=hp.bn i);(try have y2:=hp.xn i);(try have z6:bO .add Za k 1=k+1:=cG (by omega));(try simp only[z6]at*);(try have z7:bO .add Za j 1=j+1:=cG (by omega));(try simp only[z7]at*);(try have q:=afq hp i2 i0 (by have r:=be.1 (by assumption:inR (b.length:Int) 1 4=true);omega));(try have z8:bO .add Za (((aw b i 0).length:Nat):Int) (((aw x i 0).length:Nat):Int)=((aw b i 0).length:Int)+(aw x i 0).length:=cG (by omega));(try simp only[z8]at*);(try have z9:bO .add Za t (((aw b i 0).length:Int)+(aw x i 0).length)=t+(((aw b i 0).length:Int)+(aw x i 0).length):=cG (by omega));(try simp only[z9]at*))
 all_goals first
  | (show(_:List DV)=_
     first
      |(refine av ?_;symm;exact QN (by assumption))
      |(refine av ?_;symm;exact QO (by assumption))
      |(refine av ?_;symm;exact II i0 (by omega) k0 (by assumption) (acb (by assumption)))
      |(refine av ?_;symm;exact II i0 (by omega) k0 (by assumption) (acd (by assumption)))
      |(refine av ?_;symm;exact QP i0 (by omega) j0 (by assumption) (adM (by assumption)))
      |(refine av ?_;rw[QM i2 (by assumption) (by omega) i1 (by omega)];rfl)
      |done)
  |omega
  |exact fK
  |(show ax _ _=true;kernel_rfl)
  |exact cg
  |exact bN k2 (ace (by assumption) (by assumption))
  |exact bN j2 (SZ (by assumption))
  |exact abH i2 i0 k2 (by omega) j2 (by omega)
  |exact afp
  |done
abbrev Lj1:dp:=d4 (fun F f=>match f with|64=>eQ F|_=>fun _=>none) (by
 intro f;dsimp only;split;exact jg;exact dB)
def jN:EC:=fun F=>fun
 |[.agg [.s 1 b,.s 1 x]]=>some (fun _=>GO b x,[.one (.s 1 (F.ifL b x))])
 |_=>none
theorem t8:ec 176 jN:=by
 intro _ _ _ h hp;dsimp only[jN,F0]at h;split at h<;>cases h
 rename_i b x;have hbw:=hp.bw;have hxw:=hp.xw;have hbl:=hp.bl;have hxl:=hp.xl;refine cb Lj1 Tryz.func176 ?_
 intro O r F hO hr hF;cbv
 repeat' first|apply Zd|(apply cP<;>intro hb<;>cbv)|(refine⟨[1,3,15,16,17],[1,3],Int×af,fun s_=>match s_ with|(i,o)=>[.reg 17 (.j i),.reg 3 (.one (.vw 3 0 0 0 (O.ln o))),.leaf 3 0 ⟨0,0,none,.own (.s 1 o)⟩],fun s_=>match s_ with|(i,o)=>0<=i/\i<=(b.length:Int)/\Sd b i o,fun s_=>match s_ with|(i,o)=>b.length-i.toNat,⟨(0,[]),?_,?_⟩,?_⟩;rotate_left;(focus (cbv;done));intro s_ hi;obtain⟨i,o⟩:=s_;replace hi:0<=i/\i<=(b.length:Int)/\Sd b i o:=hi;obtain⟨i0,i1,i2⟩:=hi;cbv)|(refine⟨[1,3,15,16,17,21,22,23],[1,3],Int×af,fun s_=>match s_ with|(k,o1)=>[.reg 23 (.j k),.reg 3 (.one (.vw 3 0 0 0 (O.ln o1))),.leaf 3 0 ⟨0,0,none,.own (.s 1 o1)⟩],fun s_=>match s_ with|(k,o1)=>0<=k/\k<=((aw b i 0).length:Int)/\Se b i k o1,fun s_=>match s_ with|(k,o1)=>(aw b i 0).length-k.toNat,⟨(0,o),?_,?_⟩,?_⟩;rotate_left;(focus (cbv;done));intro s_ hk;obtain⟨k,o1⟩:=s_;replace hk:0<=k/\k<=((aw b i 0).length:Int)/\Se b i k o1:=hk;obtain⟨k0,k1,k2⟩:=hk;cbv)|(refine⟨[3,35,36,37],[3],Int×af,fun s_=>match s_ with|(j,o2)=>[.reg 37 (.j j),.reg 3 (.one (.vw 3 0 0 0 (O.ln o2))),.leaf 3 0 ⟨0,0,none,.own (.s 1 o2)⟩],fun s_=>match s_ with|(j,o2)=>0<=j/\j<=(x.length:Int)/\Sf b x j o2,fun s_=>match s_ with|(j,o2)=>x.length-j.toNat,⟨(0,o),?_,?_⟩,?_⟩;rotate_left;(focus (cbv;done));intro s_ hj;obtain⟨j,o2⟩:=s_;replace hj:0<=j/\j<=(x.length:Int)/\Sf b x j o2:=hj;obtain⟨j0,j1,j2⟩:=hj;cbv)|(refine ah (O.ar .add Za k 1,O.cat o1 (O.sub [[.i (O.gi (O.gs b i 0) k 1)]] 0 (O.ln [[.i (O.gi (O.gs b i 0) k 1)]]))) ?_ ?_ ?_;focus (cbv;done))|(refine ah (O.ar .add Za i 1,o1) ?_ ?_ ?_;focus (cbv;done))|(refine ah (O.ar .add Za j 1,O.cat o2 (O.gs x j 0)) ?_ ?_ ?_;focus (cbv;done))
 all_goals(subst hO hr hF;(try simp only[nc]at*);(try simp only[aj,SS,sa,az]at*);(try rw[dx (by omega) (by omega)]);(try have z:=IJ (by assumption));(try have y1:=hp.bn i);(try have y2:=hp.xn j);(try have z6:bO .add Za k 1=k+1:=cG (by omega));(try simp only[z6]at*))
 all_goals first
  | (show(_:List DV)=_
     first
      |(refine zS ?_;exact ae0 (by assumption))
      |(refine zS ?_;exact PZ j2 (by assumption) j1 (by assumption))
      |done)
  |omega
  |exact fK
  |exact Rw.scal (Rw.sub (fs:=[.sl [tI]]) hxw (by omega) rfl) rfl
  |(have q:=k2.l;constructor<;>(simp only[Zj,Zk];omega))
  |(have q:=j2.l;constructor<;>omega)
  |exact aam k2 k0
  |exact PM k2 i0 y1 k1 (by omega)
  |exact aen i2
  |exact aep i2 i1 (by omega)
  |exact aaA j2 j0 y2
  |exact aed
  |exact⟨Zb,Zb⟩
  |done
end Go.V