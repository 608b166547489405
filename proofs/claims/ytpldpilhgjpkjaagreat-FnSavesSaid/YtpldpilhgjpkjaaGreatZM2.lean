/- Contracts. -/
import Derived.Test.YtpldpilhgjpkjaaGreatZM0
set_option linter.all false
open Go
open And renaming intro->Zc
open IntKind renaming i64->Za
open List renaming length_cons->Zi,length_nil->Zk
open True renaming intro->Zd
noncomputable section
namespace Go.V
open Go Go.Proofs
set_option maxRecDepth 1000000
set_option maxHeartbeats 8000000
abbrev La0:di:=dH (fun F f=>match f with|157=>dA F|56=>cC F|_=>fun _=>none) (by
 intro f;dsimp only;split;exact eN;exact dd;exact dp)
def dz:EC:=fun F=>fun
 |[.one (.v (.int Za k))]=>some (fun _=>True,[.j (F.slN k)])
 |_=>none
def eM:ec 255 dz:=by
 intro _ _ _ h hp;dsimp only[dz,F0]at h;split at h<;>cases h
 rename_i k;refine cb La0 Tryz.func255 ?_
 intro O r F hO hr hF;cbv
 repeat' first|apply Zc|(apply cN<;>intro hb<;>cbv)
 all_goals(subst hO hr hF;(try simp only[nc]at*);(try simp only[aj,SS,sa,az]at*))
 all_goals first
  | (show(_:List DV)=_
     first
      |exact cd (LQ Ud)
      |exact cd (LR Ud).symm
      |done)
  |(have:=nk (k:=k) Ud;omega)
  |done
abbrev La1:di:=dH (fun F f=>match f with|33=>ap F|_=>fun _=>none) (by
 intro f;dsimp only;split;exact aw;exact dp)
def gN:EC:=fun F=>fun
 |[.one (.v (.int Za n)),.one (.v (.int Za b))]=>some (fun _=>True,[.k (F.bmOk n b)])
 |_=>none
def oG:ec 278 gN:=by
 intro _ _ _ h hp;dsimp only[gN,F0]at h;split at h<;>cases h
 rename_i n b;refine cb La1 Tryz.func278 ?_
 intro O r F hO hr hF;cbv
 repeat' first|apply Zc|(apply cN<;>intro hb<;>cbv)
 all_goals(subst hO hr hF;(try simp only[nc]at*);(try simp only[aj,SS,sa,az]at*);(try(have e:=afR (n:=n) Ud;simp only[e.1])))
 all_goals first
  | (show(_:List DV)=_
     first
      |exact ax (RY Ud).symm
      |exact ax (ab3 Ud).symm
      |done)
  |(have:=ay.1 (‹inR n 1 16=true›);omega)
  |done
abbrev La2:di:=dH (fun F f=>match f with|33=>ap F|157=>dA F|255=>dz F|278=>gN F|_=>fun _=>none) (by
 intro f;dsimp only;split;exact aw;exact eN;exact eM;exact oG;exact dp)
def eB:EC:=fun F=>fun
 |[.agg [.v (.int Za p),.v (.int Za k),.v (.int Za b)]]=>some (fun _=>True,[.k (F.spOk p k b)])
 |_=>none
def gF:ec 167 eB:=by
 intro _ _ _ h hp;dsimp only[eB,F0]at h;split at h<;>cases h
 rename_i p k b;refine cb La2 Tryz.func167 ?_
 intro O r F hO hr hF;cbv
 repeat' first|apply Zc|(apply cN<;>intro hb<;>cbv)
 all_goals(subst hO hr hF;(try simp only[nc]at*);(try simp only[aj,SS,sa,az]at*))
 all_goals first
  | (show(_:List DV)=_
     first
      |exact ax (abq Ud).symm
      |exact ax (abn Ud).symm
      |exact ax (abo Ud).symm
      |done)
  |(show bz _ _=true;kernel_rfl)
  |done
def gQ:EC:=fun F=>fun
 |[.one (.v (.int Za s))]=>some (fun _=>True,[.j (F.pfN s)])
 |_=>none
def oJ:ec 144 gQ:=by
 intro _ _ _ h hp;dsimp only[gQ,F0]at h;split at h<;>cases h
 rename_i s;refine cb La1 Tryz.func144 ?_
 intro O r F hO hr hF;cbv
 repeat' first|apply Zc|(apply cN<;>intro hb<;>cbv)
 all_goals(subst hO hr hF;(try simp only[nc]at*);(try simp only[aj,SS,sa,az]at*))
 all_goals first
  | (show(_:List DV)=_
     first
      |exact cd (aaS Ud)
      |exact cd (ae8 Ud).symm
      |done)
  |omega
  |done
abbrev La3:di:=dH (fun F f=>match f with|33=>ap F|144=>gQ F|_=>fun _=>none) (by
 intro f;dsimp only;split;exact aw;exact oJ;exact dp)
def iD:EC:=fun F=>fun
 |[.agg [.v (.int Za p),.v (.int Za n),.v (.int Za s)]]=>some (fun _=>True,[.k (F.lgOk p n s)])
 |_=>none
def o9:ec 168 iD:=by
 intro _ _ _ h hp;dsimp only[iD,F0]at h;split at h<;>cases h
 rename_i p n s;refine cb La3 Tryz.func168 ?_
 intro O r F hO hr hF;cbv
 repeat' first|apply Zc|(apply cN<;>intro hb<;>cbv)
 all_goals(subst hO hr hF;(try simp only[nc]at*);(try simp only[aj,SS,sa,az]at*))
 all_goals first
  | (show(_:List DV)=_
     first
      |(have b:=qL (s:=s) Ud;rw[show bQ .sub Za 32 n=32-n from eR Uc];exact ax (aac Ud Ud).symm)
      |exact ax (aaa Ud).symm
      |exact ax (aab Ud).symm
      |done)
  |(show bz _ _=true;kernel_rfl)
  |done
abbrev La4:di:=dH (fun F f=>match f with|33=>ap F|167=>eB F|56=>cC F|255=>dz F|168=>iD F|_=>fun _=>none) (by
 intro f;dsimp only;split;exact aw;exact gF;exact dd;exact eM;exact o9;exact dp)
def mJ:EC:=fun F=>fun
 |[.agg [.v (.int Za p),.v (.int Za k),.v (.int Za b)],.one (.v (.int Za a))]=>some (fun _=>True,[.j (F.saS p k b a),.j (F.saO p k b a)])
 |_=>none
def zB:ec 272 mJ:=by
 intro _ _ _ h hp;dsimp only[mJ,F0]at h;split at h<;>cases h
 rename_i p k b a;refine cb La4 Tryz.func272 ?_
 intro O r F hO hr hF;cbv
 repeat' first|apply Zc|(apply cN<;>intro hb<;>cbv)
 all_goals(subst hO hr hF;(try simp only[nc]at*);(try simp only[aj,SS,sa,az]at*);(try(have t:=mU (p:=p) (k:=k) (b:=b) Ud;have c:=nk t.2.2.1;have e:=ae9 (p:=p) ⟨t.1,t.2.1⟩;try simp only[e.1,e.2]at*)))
 all_goals first
  | (show(_:List DV)=_
     first
      |(have q:=OG (p:=p) (k:=k) (b:=b) (a:=a) Ud Ud;exact Ah q.1.symm q.2.symm)
      |(have q:=LC (afI (p:=p) (k:=k) (b:=b) (a:=a) Ud);exact Ah q.1.symm q.2.symm)
      |(have q:=LC (afJ (p:=p) (k:=k) (b:=b) (a:=a) Ud);exact Ah q.1.symm q.2.symm)
      |done)
  |(show bz _ _=true;kernel_rfl)
  |omega
  |done
def ft:EC:=fun F=>fun
 |[.agg [.v (.int Za p),.v (.int Za k),.v (.int Za b)],.one (.v (.int Za s))]=>some (fun _=>True,[.j (F.aaI p k b s)])
 |_=>none
def ke:ec 259 ft:=by
 intro _ _ _ h hp;dsimp only[ft,F0]at h;split at h<;>cases h
 rename_i p k b s;refine cb La4 Tryz.func259 ?_
 intro O r F hO hr hF;cbv
 repeat' first|apply Zc|(apply cN<;>intro hb<;>cbv)
 all_goals(subst hO hr hF;(try simp only[nc]at*);(try simp only[aj,SS,sa,az]at*);(try(have t:=mU (p:=p) (k:=k) (b:=b) Ud;have c:=nk t.2.2.1;have e:bQ .sub Za (slN k) 1=slN k-1:=eR Uc;try simp only[e]at*)))
 all_goals first
  | (show(_:List DV)=_
     first
      |exact cd (RR Ud Ud)
      |exact cd (Pq (.inl Ud)).symm
      |exact cd (Pq (.inr Ud)).symm
      |done)
  |(show bz _ _=true;kernel_rfl)
  |done
def gP:EC:=fun F=>fun
 |[.agg [.v (.int Za p),.v (.int Za n),.v (.int Za s)],.one (.v (.int Za a))]=>some (fun _=>True,[.k (F.lhB p n s a)])
 |_=>none
def oI:ec 274 gP:=by
 intro _ _ _ h hp;dsimp only[gP,F0]at h;split at h<;>cases h
 rename_i p n s a;refine cb La4 Tryz.func274 ?_
 intro O r F hO hr hF;cbv
 repeat' first|apply Zc|(apply cN<;>intro hb<;>cbv)
 all_goals(subst hO hr hF;(try simp only[nc]at*);(try simp only[aj,SS,sa,az]at*);(try(have e:=Qj (p:=p) (n:=n) (s:=s) Ud;try simp only[e.2.2])))
 all_goals first
  | (show(_:List DV)=_
     first
      |(rw[e.1];exact ax (aaf Ud).symm)
      |exact ax (aad Ud).symm
      |done)
  |done
abbrev La5:di:=dH (fun F f=>match f with|274=>gP F|_=>fun _=>none) (by
 intro f;dsimp only;split;exact oI;exact dp)
def gX:EC:=fun F=>fun
 |[.agg [.v (.int Za p),.v (.int Za n),.v (.int Za s)],.one (.v (.int Za a))]=>some (fun _=>True,[.j (F.loI p n s a)])
 |_=>none
def q7:ec 275 gX:=by
 intro _ _ _ h hp;dsimp only[gX,F0]at h;split at h<;>cases h
 rename_i p n s a;refine cb La5 Tryz.func275 ?_
 intro O r F hO hr hF;cbv
 repeat' first|apply Zc|(apply cN<;>intro hb<;>cbv)
 all_goals(subst hO hr hF;(try simp only[nc]at*);(try simp only[aj,SS,sa,az]at*))
 all_goals first
  | (show(_:List DV)=_
     first
      |exact cd (ad4 Ud)
      |exact cd (ad5 Ud).symm
      |done)
  |done
def iE:EP:=fun F=>fun
 |[.one (.v (.int Za pg)),.mp [.own (.m true es)]]=>some (fun _=>True,[[.own (.m true (F.muT es pg))]],[.k (!(F.mgbI es pg))])
 |_=>none
def sg:ep 166 iE:=by
 intro _ _ _ _ h hp;dsimp only[iE,F0]at h;split at h<;>cases h
 rename_i pg es;refine pb nB Tryz.func166 ?_
 intro O r os F hO hr hos hF;cbv
 repeat' first|apply Zc|(apply cN<;>intro hb<;>cbv)
 all_goals((try subst hos);subst hO hr hF;(try simp only[nc]at*);(try simp only[aj,SS,sa,az]at*))
 all_goals first|(show(_:List DV)=_;exact rfl)|(show(_:List H)=_;exact rfl)|done
abbrev Lc1:di:={
 Φ:=tH
 F0:=F0
 ct:=fun F f=>match f with|167=>eB F|168=>iD F|_=>fun _=>none
 hc:=(by
  intro f;dsimp only;split;exact gF;exact o9;exact dp)
 pt:=fun F f=>match f with|166=>some (iE F)|_=>none
 hp:=(by
  intro f mk h;dsimp only at h;split at h<;>cases h
  exact sg)}
def fh:EC:=fun F=>fun
 |[.one (.s 3 sp),.one (.s 3 lg)]=>some (fun _=>Rw [tI,tI,tI] sp/\Rw [tI,tI,tI] lg/\sp.length<=1073741824/\lg.length<=1073741824,[.k (F.layOk sp lg)])
 |_=>none
def j8:ec 62 fh:=by
 intro _ _ _ h hp;dsimp only[fh,F0]at h;split at h<;>cases h
 rename_i sp lg;obtain⟨hs,hl,ns,nl⟩:=hp;refine cb Lc1 Tryz.func62 ?_
 intro O r F hO hr hF;cbv
 repeat' first|apply Zc|(apply cN<;>intro hb<;>cbv)|(refine⟨[1,6,14,15,16],[5],Int×af,fun s_=>match s_ with|(i,es)=>[.reg 16 (.j i),.leaf 5 0 ⟨0,0,none,.own (.m true es)⟩],fun s_=>match s_ with|(i,es)=>0<=i/\i<=(sp.length:Int)/\RB sp i es,fun s_=>match s_ with|(i,es)=>sp.length-i.toNat,⟨(0,[]),?_,?_⟩,?_⟩;rotate_left;(focus (cbv;done));intro s_ hi;obtain⟨i,es⟩:=s_;replace hi:0<=i/\i<=(sp.length:Int)/\RB sp i es:=hi;obtain⟨i0,i1,i2⟩:=hi;cbv)|(refine⟨[6,31,32,33],[5],Int×af,fun s_=>match s_ with|(j,es1)=>[.reg 33 (.j j),.leaf 5 0 ⟨0,0,none,.own (.m true es1)⟩],fun s_=>match s_ with|(j,es1)=>0<=j/\j<=(lg.length:Int)/\IlP sp lg j es1,fun s_=>match s_ with|(j,es1)=>lg.length-j.toNat,⟨(0,es),?_,?_⟩,?_⟩;rotate_left;(focus (cbv;done));intro s_ hj;obtain⟨j,es1⟩:=s_;replace hj:0<=j/\j<=(lg.length:Int)/\IlP sp lg j es1:=hj;obtain⟨j0,j1,j2⟩:=hj;cbv)|(refine⟨[6,10,11,31,32,33],[5,10],Int×af,fun s_=>match s_ with|(k,es2)=>[.reg 11 (.j k),.leaf 5 0 ⟨0,0,none,.own (.m true es2)⟩],fun s_=>match s_ with|(k,es2)=>0<=k/\k<=ag lg j 1/\Ry sp lg j k es2,fun s_=>match s_ with|(k,es2)=>(ag lg j 1-k).toNat,⟨(0,es1),?_,?_⟩,?_⟩;rotate_left;(focus (cbv;done));intro s_ hk;obtain⟨k,es2⟩:=s_;replace hk:0<=k/\k<=ag lg j 1/\Ry sp lg j k es2:=hk;obtain⟨k0,k1,k2⟩:=hk;cbv)|(refine ah (O.ar .add Za k 1,F.muT es2 (O.ar .add Za (O.gi lg j 0) k)) ?_ ?_ ?_;focus (cbv;done))|(refine ah (O.ar .add Za j 1,es2) ?_ ?_ ?_;focus (cbv;done))|(refine ah (O.ar .add Za i 1,F.muT es (O.gi sp i 0)) ?_ ?_ ?_;focus (cbv;done))
 all_goals(subst hO hr hF;(try simp only[nc]at*);(try simp only[aj,SS,sa,az]at*);(try rw[db Uc Uc]);(try have z:=(ajd (k:=k) Ud k0 Ud));(try(obtain⟨z1,z2,z3,z4,z5⟩:=z));(try have z6:bQ .add Za k 1=k+1:=b8 Uc);(try simp only[z3]at*);(try simp only[z6]at*))
 all_goals first
  | (show(_:List DV)=_
     first
      |(refine ax ?_;symm;exact TG i2 i0 Ud (aeF (b:=mgbI es (ag sp i 0)) hb))
      |(refine ax ?_;symm;exact Tx k2 j0 Ud k0 Ud (aeF (b:=mgbI es2 (ag lg j 0+k)) hb))
      |(refine ax ?_;symm;exact NN i0 Ud Ud)
      |(refine ax ?_;symm;exact NO j0 Ud Ud)
      |(refine ax ?_;symm;exact TA j2 j1 Ud)
      |done)
  |omega
  |exact j4
  |exact adC i2 i0 Ud (aeG (b:=mgbI es (ag sp i 0)) hb)
  |exact adx k2 k0 (aeG (b:=mgbI es2 (ag lg j 0+k)) hb)
  |exact Tz k2 j0 Ud k1 Ud
  |exact ain j2
  |exact TH i2 i1 Ud
  |exact aio
  |(have t:=oh Ud;have b:=qL t.1;omega)
  |done
abbrev Ld1:di:=dH (fun F f=>match f with|272=>mJ F|273=>dy F|274=>gP F|275=>gX F|_=>fun _=>none) (by
 intro f;dsimp only;split;exact zB;exact eL;exact oI;exact q7;exact dp)
def dS:EC:=fun F=>fun
 |[.one (.s 3 sp),.one (.s 3 lg),.one (.v (.int Za a))]=>some (fun _=>Rw [tI,tI,tI] sp/\Rw [tI,tI,tI] lg,[.agg [.i (F.dnK sp lg a),.i (F.dnI sp lg a),.i (F.dnS sp a),.i (F.dnO sp lg a)]])
 |_=>none
def fP:ec 162 dS:=by
 intro _ _ _ h hp;dsimp only[dS,F0]at h;split at h<;>cases h
 rename_i sp lg a;obtain⟨hs,hl⟩:=hp;have ms:=hs.1;unfold maxLen at ms;have ml:=hl.1;unfold maxLen at ml;refine cb Ld1 Tryz.func162 ?_
 intro O r F hO hr hF;cbv
 repeat' first|apply Zc|(apply cN<;>intro hb<;>cbv)|(refine⟨[1,2,6,14,15,16],[6],Int,fun i=>[.reg 16 (.j i)],fun i=>0<=i/\i<=((sp.length:Nat):Int)/\upto (cY (AJ sp a)) i,fun i=>(sp.length)-i.toNat,⟨0,?_,?_⟩,?_⟩;rotate_left;(focus (cbv;done));intro i hi;replace hi:0<=i/\i<=((sp.length:Nat):Int)/\upto (cY (AJ sp a)) i:=hi;obtain⟨i0,i1,i2⟩:=hi;cbv)|(refine ah (O.ar .add Za i 1) ?_ ?_ ?_;focus (cbv;done))|(refine⟨[2,6,39,40,41],[6],Int,fun j=>[.reg 41 (.j j)],fun j=>0<=j/\j<=((lg.length:Nat):Int)/\upto (cY (Ay lg a)) j,fun j=>(lg.length)-j.toNat,⟨0,?_,?_⟩,?_⟩;rotate_left;(focus (cbv;done));intro j hj;replace hj:0<=j/\j<=((lg.length:Nat):Int)/\upto (cY (Ay lg a)) j:=hj;obtain⟨j0,j1,j2⟩:=hj;cbv)|(refine ah (O.ar .add Za j 1) ?_ ?_ ?_;focus (cbv;done))
 all_goals(subst hO hr hF;(try simp only[nc]at*);(try simp only[aj,SS,sa,az]at*);(try rw[db Uc Uc]))
 all_goals first
  | (show(_:List DV)=_
     first
      |exact ow1 i2 i0 Ud Ud Ud
      |exact ow2 i2 i0 Ud Ud Ud
      |exact ow3 i2 Ud j2 j0 Ud Ud
      |exact ow4 i2 Ud j2 Ud
      |done)
  |omega
  |exact j4
  |exact ajR i2 Ud
  |exact aja j2 Ud
  |exact cr
  |done
def Tryz.lays189_ren:Go.Shelf.Ren:=⟨fun|189=>281|125=>343|257=>342|128=>393|129=>394|294=>384|295=>385|296=>386|297=>387|298=>388|299=>389|216=>390|300=>391|301=>392|328=>407|329=>408|330=>409|331=>410|332=>411|215=>412|343=>417|n=>n,fun|28=>24|3=>3|46=>217|0=>0|51=>392|53=>394|4=>4|183=>386|182=>385|131=>113|5=>5|9=>9|218=>403|222=>407|228=>410|229=>59|n=>n,fun|n=>n⟩
def Tryz.lays189:Lays.n189 Tryz.prog Tryz.lays189_ren:=⟨by kernel_rfl,Tryz.func343.trans (congrArg some (by kernel_rfl)),Tryz.func393.trans (congrArg some (by kernel_rfl)),Tryz.func394.trans (congrArg some (by kernel_rfl)),Tryz.func281.trans (congrArg some (by kernel_rfl)),Tryz.func412.trans (congrArg some (by kernel_rfl)),Tryz.func390.trans (congrArg some (by kernel_rfl)),Tryz.func342.trans (congrArg some (by kernel_rfl)),Tryz.func384.trans (congrArg some (by kernel_rfl)),Tryz.func385.trans (congrArg some (by kernel_rfl)),Tryz.func386.trans (congrArg some (by kernel_rfl)),Tryz.func387.trans (congrArg some (by kernel_rfl)),Tryz.func388.trans (congrArg some (by kernel_rfl)),Tryz.func389.trans (congrArg some (by kernel_rfl)),Tryz.func391.trans (congrArg some (by kernel_rfl)),Tryz.func392.trans (congrArg some (by kernel_rfl)),Tryz.func407.trans (congrArg some (by kernel_rfl)),Tryz.func408.trans (congrArg some (by kernel_rfl)),Tryz.func409.trans (congrArg some (by kernel_rfl)),Tryz.func410.trans (congrArg some (by kernel_rfl)),Tryz.func411.trans (congrArg some (by kernel_rfl)),Tryz.func417.trans (congrArg some (by kernel_rfl)),Tryz.underlying0,Tryz.isAgg0,Tryz.sizeOf0,Tryz.zeroValue0,Tryz.underlying3,Tryz.isAgg3,Tryz.sizeOf3,Tryz.zeroValue3,Tryz.underlying4,Tryz.isAgg4,Tryz.sizeOf4,Tryz.zeroValue4,Tryz.underlying5,Tryz.isAgg5,Tryz.sizeOf5,Tryz.zeroValue5,Tryz.underlying9,Tryz.isAgg9,Tryz.sizeOf9,Tryz.zeroValue9,Tryz.underlying24,Tryz.isAgg24,Tryz.sizeOf24,Tryz.zeroValue24,Tryz.underlying217,Tryz.isAgg217,Tryz.sizeOf217,Tryz.zeroValue217,Tryz.underlying392,Tryz.isAgg392,Tryz.sizeOf392,Tryz.zeroValue392,Tryz.underlying394,Tryz.isAgg394,Tryz.sizeOf394,Tryz.zeroValue394,Tryz.underlying113,Tryz.isAgg113,Tryz.sizeOf113,Tryz.zeroValue113,Tryz.underlying385,Tryz.isAgg385,Tryz.sizeOf385,Tryz.zeroValue385,Tryz.underlying386,Tryz.isAgg386,Tryz.sizeOf386,Tryz.zeroValue386,Tryz.underlying403,Tryz.isAgg403,Tryz.sizeOf403,Tryz.zeroValue403,Tryz.underlying407,Tryz.isAgg407,Tryz.sizeOf407,Tryz.zeroValue407,Tryz.underlying410,Tryz.isAgg410,Tryz.sizeOf410,Tryz.zeroValue410,Tryz.underlying59,Tryz.isAgg59,Tryz.sizeOf59,Tryz.zeroValue59⟩
def fF:EM:=fun F=>fun
 |[.one (.s 1 l)]=>some (fun _=>Rw [tI] l/\l.length<=70368744177664,[.s 1 (F.srtL l)],[])
 |_=>none
def oY:em 281 fF:=by
 intro _ _ _ _ h hp;dsimp only[fF,F0]at h;split at h<;>cases h
 rename_i l;exact Im (Any.slices_Sort_int_none Tryz.lays189) (Any.slices_Sort_int Tryz.lays189) l hp
abbrev Lf1:di:={
 Φ:=tH
 F0:=F0
 ct:=fun F f=>match f with|62=>fh F|255=>dz F|273=>dy F|259=>ft F|_=>fun _=>none
 hc:=(by
  intro f;dsimp only;split;exact j8;exact eM;exact eL;exact ke;exact dp)
 mt:=fun F f=>match f with|281=>some (fF F)|_=>none
 hm:=(by
  intro f mk h;dsimp only at h;split at h<;>cases h
  exact oY)}
def jt:EC:=fun F=>fun
 |[.one (.s 3 sp),.one (.s 3 lg)]=>some (fun _=>Rw [tI,tI,tI] sp/\Rw [tI,tI,tI] lg/\sp.length<=1073741824/\lg.length<=1073741824,[.one (.s 1 (F.iaL sp lg))])
 |_=>none
def tW:ec 177 jt:=by
 intro _ _ _ h hp;dsimp only[jt,F0]at h;split at h<;>cases h
 rename_i sp lg;obtain⟨hs,hl,ns,nl⟩:=hp;refine cb Lf1 Tryz.func177 ?_
 intro O r F hO hr hF;cbv
 repeat' first|apply Zc|(apply cN<;>intro hb<;>cbv)|(refine⟨[1,5,16,17,18],[5],Int×af,fun s_=>match s_ with|(i,o)=>[.reg 18 (.j i),.reg 5 (.one (.vw 5 0 0 0 (O.ln o))),.leaf 5 0 ⟨0,0,none,.own (.s 1 o)⟩],fun s_=>match s_ with|(i,o)=>0<=i/\i<=(sp.length:Int)/\IaP sp i o,fun s_=>match s_ with|(i,o)=>sp.length-i.toNat,⟨(0,[]),?_,?_⟩,?_⟩;rotate_left;(focus (cbv;done));intro s_ hi;obtain⟨i,o⟩:=s_;replace hi:0<=i/\i<=(sp.length:Int)/\IaP sp i o:=hi;obtain⟨i0,i1,i2⟩:=hi;cbv)|(refine⟨[1,5,7,8,16,17,18],[5,7],Int×af,fun s_=>match s_ with|(k,o1)=>[.reg 8 (.j k),.reg 5 (.one (.vw 5 0 0 0 (O.ln o1))),.leaf 5 0 ⟨0,0,none,.own (.s 1 o1)⟩],fun s_=>match s_ with|(k,o1)=>0<=k/\k<=slN (ag sp i 1)/\MG sp i k o1,fun s_=>match s_ with|(k,o1)=>(slN (ag sp i 1)-k).toNat,⟨(0,o),?_,?_⟩,?_⟩;rotate_left;(focus (cbv;done));intro s_ hk;obtain⟨k,o1⟩:=s_;replace hk:0<=k/\k<=slN (ag sp i 1)/\MG sp i k o1:=hk;obtain⟨k0,k1,k2⟩:=hk;cbv)|(refine⟨[5,40,41,42],[5],Int×af,fun s_=>match s_ with|(j,o2)=>[.reg 42 (.j j),.reg 5 (.one (.vw 5 0 0 0 (O.ln o2))),.leaf 5 0 ⟨0,0,none,.own (.s 1 o2)⟩],fun s_=>match s_ with|(j,o2)=>0<=j/\j<=(lg.length:Int)/\Pm sp lg j o2,fun s_=>match s_ with|(j,o2)=>lg.length-j.toNat,⟨(0,o),?_,?_⟩,?_⟩;rotate_left;(focus (cbv;done));intro s_ hj;obtain⟨j,o2⟩:=s_;replace hj:0<=j/\j<=(lg.length:Int)/\Pm sp lg j o2:=hj;obtain⟨j0,j1,j2⟩:=hj;cbv)|(refine ah (O.ar .add Za k 1,O.cat o1 (O.sub [[.i (F.aaI (O.gi sp i 0) (O.gi sp i 1) (O.gi sp i 2) k)]] 0 (O.ln [[.i (F.aaI (O.gi sp i 0) (O.gi sp i 1) (O.gi sp i 2) k)]]))) ?_ ?_ ?_;focus (cbv;done))|(refine ah (O.ar .add Za k 1,o1) ?_ ?_ ?_;focus (cbv;done))|(refine ah (O.ar .add Za i 1,o1) ?_ ?_ ?_;focus (cbv;done))|(refine ah (O.ar .add Za j 1,O.cat o2 (O.sub [[.i (O.ar .mul Za (O.gi lg j 0) 16)]] 0 (O.ln [[.i (O.ar .mul Za (O.gi lg j 0) 16)]]))) ?_ ?_ ?_;focus (cbv;done))
 all_goals(subst hO hr hF;(try simp only[nc]at*);(try simp only[aj,SS,sa,az]at*);(try rw[db Uc Uc]);(try have z1:=ajZ (sp:=sp) (lg:=lg) (i:=i) Ud i0 Ud);(try have z6:bQ .add Za k 1=k+1:=b8 Uc);(try simp only[z6]at*);(try have z7:=ajc (sp:=sp) (lg:=lg) (j:=j) Ud j0 Ud);(try have z8:bQ .mul Za (ag lg j 0) 16=ag lg j 0*16:=ux Uc);(try simp only[z8]at*))
 all_goals first
  | (show(_:List DV)=_
     first
      |(refine uB ?_;exact aii Ud)
      |(refine uB ?_;exact Tt j2 j1 Ud Ud)
      |done)
  |omega
  |exact j4
  |exact⟨hs,hl,ns,nl⟩
  |exact adr j2 Uc Uc
  |(have q:=Tq k2;constructor<;>(simp only[Zi,Zk];omega))
  |(have q:=Kk j2;constructor<;>(simp only[Zi,Zk];omega))
  |exact Ts k2 k0 Ud
  |exact adq k2 k0 Ud
  |exact Tp k2 i0 k1 Ud z1
  |exact aij i2
  |exact aik i2 i1 Ud
  |exact ads j2 j0 z7
  |exact aih
  |exact DR
  |exact⟨Zd,DR.symm⟩
  |exact⟨Zd,Zd⟩
  |done
def iQ:EC:=fun F=>fun
 |[.agg [.v (.int Za d0),.v (.int Za d1),.v (.int Za d2)],.ptr [.v (.int Za ad)]]=>some (fun _=>True,[.k (F.eqB d0 ad)])
 |_=>none
def sx:ec 340 iQ:=by
 intro _ _ _ h hp;dsimp only[iQ,F0]at h;split at h<;>cases h
 rename_i d0 d1 d2 ad;refine cb nB Tryz.func340 ?_
 exact zq3
abbrev Lg1:di:=dH (fun F f=>match f with|340=>iQ F|_=>fun _=>none) (by
 intro f;dsimp only;split;exact sx;exact dp)
def bh:EC:=fun F=>fun
 |[.one (.s 3 os),.fn 340 [[.v (.int Za id)]]]=>some (fun _=>Rw [tI,tI,tI] os/\os.length<=1099511627776,[.j (F.qtI os id)])
 |_=>none
def cB:ec 383 bh:=by
 intro _ _ _ h hp;dsimp only[bh,F0]at h;split at h<;>cases h
 rename_i os id;obtain⟨hw,hn⟩:=hp;refine cb Lg1 Tryz.func383 ?_
 intro O r F hO hr hF;cbv
 repeat' first|apply Zc|(apply cN<;>intro hb<;>cbv)|(refine⟨[0,1,7,8],[0],Int,fun i=>[.reg 8 (.j i)],fun i=>0<=i/\i<=((os.length:Nat):Int)/\upto (cY (Fg os id)) i,fun i=>(os.length)-i.toNat,⟨0,?_,?_⟩,?_⟩;rotate_left;(focus (cbv;done));intro i hi;replace hi:0<=i/\i<=((os.length:Nat):Int)/\upto (cY (Fg os id)) i:=hi;obtain⟨i0,i1,i2⟩:=hi;cbv)|(refine ah (O.ar .add Za i 1) ?_ ?_ ?_;focus (cbv;done))
 all_goals(subst hO hr hF;(try simp only[nc]at*);(try simp only[aj,SS,sa,az]at*);(try rw[db Uc Uc]))
 all_goals first
  | (show(_:List DV)=_
     first
      |exact cd (dU i2 i0 Ud (show Fg os id i=true from by assumption)).symm
      |exact cd (eQ i2 Ud).symm
      |done)
  |omega
  |exact j4
  |(show(lk _ _).isSome=true;kernel_rfl)
  |exact cr
  |exact bU i2 (gC (show Fg os id i=false from by assumption))
  |done
abbrev Lg2:di:=dH (fun F f=>match f with|383=>bh F|_=>fun _=>none) (by
 intro f;dsimp only;split;exact cB;exact dp)
def aX:EC:=fun F=>fun
 |[.one (.s 3 os),.fn 340 [[.v (.int Za id)]]]=>some (fun _=>Rw [tI,tI,tI] os/\os.length<=1099511627776,[.k (F.qtB os id)])
 |_=>none
def cq:ec 339 aX:=by
 intro _ _ _ h hp;dsimp only[aX,F0]at h;split at h<;>cases h
 rename_i os id;refine cb Lg2 Tryz.func339 ?_
 intro O r F hO hr hF;cbv
 repeat' first|apply Zc|(apply cN<;>intro hb<;>cbv)
 all_goals(subst hO hr hF;(try simp only[nc]at*);(try simp only[aj,SS,sa,az]at*))
 all_goals first
  | (show(_:List DV)=_
     first
      |exact ax (o8 (by unfold qtB;simp only[SS,VN]))
      |done)
  |exact hp
  |done
abbrev Lg3:di:=dH (fun F f=>match f with|339=>aX F|_=>fun _=>none) (by
 intro f;dsimp only;split;exact cq;exact dp)
def kE:EC:=fun F=>fun
 |[.one (.s 3 os),.one (.v (.int Za id))]=>some (fun _=>Rw [tI,tI,tI] os/\os.length<=1099511627776,[.k (F.qtB os id)])
 |_=>none
def v6:ec 271 kE:=by
 intro _ _ _ h hp;dsimp only[kE,F0]at h;split at h<;>cases h
 rename_i os id;refine cb Lg3 Tryz.func271 ?_
 exact zq5
abbrev Li1:di:=dH (fun F f=>match f with|33=>ap F|_=>fun _=>none) (by
 intro f;dsimp only;split;exact aw;exact dp)
def fA:EC:=fun F=>fun
 |[.agg [.s 1 b,.s 1 x]]=>some (fun _=>IW b x,[.k (F.mailOk b x)])
 |_=>none
def jM:ec 64 fA:=by
 intro _ _ _ h hp;dsimp only[fA,F0]at h;split at h<;>cases h
 rename_i b x;have hbw:=hp.bw;have hxw:=hp.xw;have hbl:=hp.bl;have hxl:=hp.xl;have hsb:bQ .sub Za (b.length:Int) 1=b.length-1:=eR Uc;refine cb Li1 Tryz.func64 ?_
 intro O r F hO hr hF;cbv
 repeat' first|apply Zc|(apply cN<;>intro hb<;>cbv)|(refine⟨[1,3,4,25,26],[1],Int×Int,fun s_=>match s_ with|(i,t)=>[.reg 26 (.j i),.reg 4 (.j t)],fun s_=>match s_ with|(i,t)=>0<=i/\i<=(b.length:Int)/\RE b x i t,fun s_=>match s_ with|(i,t)=>b.length-i.toNat,⟨(0,0),?_,?_⟩,?_⟩;rotate_left;(focus (cbv;done));intro s_ hi;obtain⟨i,t⟩:=s_;replace hi:0<=i/\i<=(b.length:Int)/\RE b x i t:=hi;obtain⟨i0,i1,i2⟩:=hi;cbv)|(refine⟨[1,3,4,5,25,26,33,34,35],[1],Int,fun k=>[.reg 35 (.j k)],fun k=>0<=k/\k<=(((aU b i 0).length:Nat):Int)/\upto (Lb b i) k,fun k=>((aU b i 0).length)-k.toNat,⟨0,?_,?_⟩,?_⟩;rotate_left;(focus (cbv;done));intro k hk;replace hk:0<=k/\k<=(((aU b i 0).length:Nat):Int)/\upto (Lb b i) k:=hk;obtain⟨k0,k1,k2⟩:=hk;cbv)|(refine ah (O.ar .add Za k 1) ?_ ?_ ?_;focus (cbv;done))|(refine⟨[1,3,4,5,25,26,55,56,57],[1],Int,fun j=>[.reg 57 (.j j)],fun j=>0<=j/\j<=(((aU x i 0).length:Nat):Int)/\upto (MN x i) j,fun j=>((aU x i 0).length)-j.toNat,⟨0,?_,?_⟩,?_⟩;rotate_left;(focus (cbv;done));intro j hj;replace hj:0<=j/\j<=(((aU x i 0).length:Nat):Int)/\upto (MN x i) j:=hj;obtain⟨j0,j1,j2⟩:=hj;cbv)|(refine ah (O.ar .add Za j 1) ?_ ?_ ?_;focus (cbv;done))|(refine ah (O.ar .add Za i 1,O.ar .add Za t (O.ar .add Za (O.zi (O.ln (O.gs b i 0))) (O.zi (O.ln (O.gs x i 0))))) ?_ ?_ ?_;focus (cbv;done))
 all_goals(subst hO hr hF;(try simp only[nc]at*);(try simp only[aj,SS,sa,az]at*);(try simp only[hsb]at*);(try rw[db Uc Uc]);(try have y1:=hp.bn i);(try have y2:=hp.xn i);(try have z6:bQ .add Za k 1=k+1:=b8 Uc);(try simp only[z6]at*);(try have z7:bQ .add Za j 1=j+1:=b8 Uc);(try simp only[z7]at*);(try have q:=ajn hp i2 i0 (by have r:=ay.1 (by assumption:inR (b.length:Int) 1 4=true);omega));(try have z8:bQ .add Za (((aU b i 0).length:Nat):Int) (((aU x i 0).length:Nat):Int)=((aU b i 0).length:Int)+(aU x i 0).length:=b8 Uc);(try simp only[z8]at*);(try have z9:bQ .add Za t (((aU b i 0).length:Int)+(aU x i 0).length)=t+(((aU b i 0).length:Int)+(aU x i 0).length):=b8 Uc);(try simp only[z9]at*))
 all_goals first
  | (show(_:List DV)=_
     first
      |(refine ax ?_;symm;exact aam Ud)
      |(refine ax ?_;symm;exact aan Ud)
      |(refine ax ?_;symm;exact KJ i0 Uc k0 Ud (ae4 Ud))
      |(refine ax ?_;symm;exact KJ i0 Uc k0 Ud (ae5 Ud))
      |(refine ax ?_;symm;exact aao i0 Uc j0 Ud (ahb Ud))
      |(refine ax ?_;rw[aal i2 Ud Uc i1 Uc];rfl)
      |done)
  |omega
  |exact j4
  |(show bz _ _=true;kernel_rfl)
  |exact cr
  |exact bU k2 (ae6 Ud Ud)
  |exact bU j2 (abY Ud)
  |exact aeb i2 i0 k2 Uc j2 Uc
  |exact ajm
  |done
abbrev Lj1:di:=dH (fun F f=>match f with|64=>fA F|_=>fun _=>none) (by
 intro f;dsimp only;split;exact jM;exact dp)
def kn:EC:=fun F=>fun
 |[.agg [.s 1 b,.s 1 x]]=>some (fun _=>IW b x,[.one (.s 1 (F.ifL b x))])
 |_=>none
def vQ:ec 176 kn:=by
 intro _ _ _ h hp;dsimp only[kn,F0]at h;split at h<;>cases h
 rename_i b x;have hbw:=hp.bw;have hxw:=hp.xw;have hbl:=hp.bl;have hxl:=hp.xl;refine cb Lj1 Tryz.func176 ?_
 intro O r F hO hr hF;cbv
 repeat' first|apply Zc|(apply cN<;>intro hb<;>cbv)|(refine⟨[1,3,15,16,17],[1,3],Int×af,fun s_=>match s_ with|(i,o)=>[.reg 17 (.j i),.reg 3 (.one (.vw 3 0 0 0 (O.ln o))),.leaf 3 0 ⟨0,0,none,.own (.s 1 o)⟩],fun s_=>match s_ with|(i,o)=>0<=i/\i<=(b.length:Int)/\FbP b i o,fun s_=>match s_ with|(i,o)=>b.length-i.toNat,⟨(0,[]),?_,?_⟩,?_⟩;rotate_left;(focus (cbv;done));intro s_ hi;obtain⟨i,o⟩:=s_;replace hi:0<=i/\i<=(b.length:Int)/\FbP b i o:=hi;obtain⟨i0,i1,i2⟩:=hi;cbv)|(refine⟨[1,3,15,16,17,21,22,23],[1,3],Int×af,fun s_=>match s_ with|(k,o1)=>[.reg 23 (.j k),.reg 3 (.one (.vw 3 0 0 0 (O.ln o1))),.leaf 3 0 ⟨0,0,none,.own (.s 1 o1)⟩],fun s_=>match s_ with|(k,o1)=>0<=k/\k<=((aU b i 0).length:Int)/\FkP b i k o1,fun s_=>match s_ with|(k,o1)=>(aU b i 0).length-k.toNat,⟨(0,o),?_,?_⟩,?_⟩;rotate_left;(focus (cbv;done));intro s_ hk;obtain⟨k,o1⟩:=s_;replace hk:0<=k/\k<=((aU b i 0).length:Int)/\FkP b i k o1:=hk;obtain⟨k0,k1,k2⟩:=hk;cbv)|(refine⟨[3,35,36,37],[3],Int×af,fun s_=>match s_ with|(j,o2)=>[.reg 37 (.j j),.reg 3 (.one (.vw 3 0 0 0 (O.ln o2))),.leaf 3 0 ⟨0,0,none,.own (.s 1 o2)⟩],fun s_=>match s_ with|(j,o2)=>0<=j/\j<=(x.length:Int)/\FxP b x j o2,fun s_=>match s_ with|(j,o2)=>x.length-j.toNat,⟨(0,o),?_,?_⟩,?_⟩;rotate_left;(focus (cbv;done));intro s_ hj;obtain⟨j,o2⟩:=s_;replace hj:0<=j/\j<=(x.length:Int)/\FxP b x j o2:=hj;obtain⟨j0,j1,j2⟩:=hj;cbv)|(refine ah (O.ar .add Za k 1,O.cat o1 (O.sub [[.i (O.gi (O.gs b i 0) k 1)]] 0 (O.ln [[.i (O.gi (O.gs b i 0) k 1)]]))) ?_ ?_ ?_;focus (cbv;done))|(refine ah (O.ar .add Za i 1,o1) ?_ ?_ ?_;focus (cbv;done))|(refine ah (O.ar .add Za j 1,O.cat o2 (O.gs x j 0)) ?_ ?_ ?_;focus (cbv;done))
 all_goals(subst hO hr hF;(try simp only[nc]at*);(try simp only[aj,SS,sa,az]at*);(try rw[db Uc Uc]);(try have z:=aap Ud);(try have y1:=hp.bn i);(try have y2:=hp.xn j);(try have z6:bQ .add Za k 1=k+1:=b8 Uc);(try simp only[z6]at*))
 all_goals first
  | (show(_:List DV)=_
     first
      |(refine uB ?_;exact ail Ud)
      |(refine uB ?_;exact S9 j2 Ud j1 Ud)
      |done)
  |omega
  |exact j4
  |exact Rw.scal (Rw.sub (fs:=[.sl [tI]]) hxw Uc rfl) rfl
  |(have q:=k2.l;constructor<;>(simp only[Zi,Zk];omega))
  |(have q:=j2.l;constructor<;>omega)
  |exact acM k2 k0
  |exact SL k2 i0 y1 k1 Uc
  |exact ahH i2
  |exact ahK i2 i1 Uc
  |exact ac2 j2 j0 y2
  |exact ahx
  |exact⟨Zd,Zd⟩
  |done
end Go.V