/- Contracts. -/
import Derived.Test.YtpldpilhgjpkjaaGreatM0
set_option linter.all false
open Go
open And renaming intro->Zb
open IntKind renaming i64->Za
open List renaming length_cons->Zr,length_nil->Zt
open True renaming intro->Zd
namespace Go.V
open Go Go.Proofs
set_option maxRecDepth 1000000
set_option maxHeartbeats 8000000
abbrev La0:dB:=eg (fun F f=>match f with|157=>dr F|56=>bC F|92=>ai F|_=>fun _=>none) (by
 intro f;dsimp only;split;exact eG;exact de;exact bc;exact dI)
def bO:EC:=fun F=>fun
 |[.one (.v (.int Za k))]=>some (fun _=>True,[.j (F.slN k)])
 |_=>none
theorem eF:ec 255 bO:=by
 intro _ _ _ h hp;dsimp only[bO,F0]at h;split at h<;>cases h
 rename_i k;refine cb La0 Tryz.func255 ?_
 intro O r F hO hr hF;cbv
 repeat' first|apply Zb|(apply b8<;>intro hb<;>cbv)
 all_goals(subst hO hr hF;(try simp only[nc]at*);(try simp only[am,SS,sa,az]at*))
 all_goals first
  | (show(_:List DV)=_
     first
      |exact bV (I2 (by assumption))
      |exact bV (C7 (by assumption)).symm
      |done)
  |(have:=jr (k:=k) (by assumption);omega)
  |done
theorem gJ:ec 357 bO:=by
 intro _ _ _ h hp;dsimp only[bO,F0]at h;split at h<;>cases h
 rename_i k;refine cb La0 Tryz.func357 ?_
 intro O r F hO hr hF;cbv
 repeat' first|apply Zb|(apply b8<;>intro hb<;>cbv)
 all_goals(subst hO hr hF;(try simp only[nc]at*);(try simp only[am,SS,sa,az]at*))
 all_goals first
  | (show(_:List DV)=_
     first
      |exact bV (I3 (by assumption))
      |exact bV (C7 (by assumption)).symm
      |done)
  |(rcases GV (k:=k) (by assumption)with rfl|rfl|rfl|rfl<;>decide)
  |done
abbrev La1:dB:=eg (fun F f=>match f with|33=>ai F|92=>ai F|_=>fun _=>none) (by
 intro f;dsimp only;split;exact aP;exact bc;exact dI)
def cY:EC:=fun F=>fun
 |[.one (.v (.int Za n)),.one (.v (.int Za b))]=>some (fun _=>True,[.k (F.bmOk n b)])
 |_=>none
theorem mA:ec 278 cY:=by
 intro _ _ _ h hp;dsimp only[cY,F0]at h;split at h<;>cases h
 rename_i n b;refine cb La1 Tryz.func278 ?_
 intro O r F hO hr hF;cbv
 repeat' first|apply Zb|(apply b8<;>intro hb<;>cbv)
 all_goals(subst hO hr hF;(try simp only[nc]at*);(try simp only[am,SS,sa,az]at*);(try(have e:=I1 (n:=n) (by assumption);simp only[e.1])))
 all_goals first
  | (show(_:List DV)=_
     first
      |exact aj (GC (by assumption)).symm
      |exact aj (LM (by assumption)).symm
      |done)
  |(have:=bz.1 (‹inR n 1 16=true›);omega)
  |done
theorem mK:ec 356 cY:=by
 intro _ _ _ h hp;dsimp only[cY,F0]at h;split at h<;>cases h
 rename_i n b;refine cb La1 Tryz.func356 ?_
 intro O r F hO hr hF;cbv
 repeat' first|apply Zb|(apply b8<;>intro hb<;>cbv)
 all_goals(subst hO hr hF;(try simp only[nc]at*);(try simp only[am,SS,sa,az]at*);(try(have e:=I1 (n:=n) (by assumption);simp only[e.2.1])))
 all_goals first
  | (show(_:List DV)=_
     first
      |exact aj (GC (by assumption)).symm
      |exact aj (LM (by assumption)).symm
      |done)
  |exact(I1 (by assumption)).2.2
  |done
abbrev La2:dB:=eg (fun F f=>match f with|33=>ai F|157=>dr F|255=>bO F|278=>cY F|92=>ai F|357=>bO F|356=>cY F|_=>fun _=>none) (by
 intro f;dsimp only;split;exact aP;exact eG;exact eF;exact mA;exact bc;exact gJ;exact mK;exact dI)
def co:EC:=fun F=>fun
 |[.agg [.v (.int Za p),.v (.int Za k),.v (.int Za b)]]=>some (fun _=>True,[.k (F.spOk p k b)])
 |_=>none
theorem iO:ec 167 co:=by
 intro _ _ _ h hp;dsimp only[co,F0]at h;split at h<;>cases h
 rename_i p k b;refine cb La2 Tryz.func167 ?_
 intro O r F hO hr hF;cbv
 repeat' first|apply Zb|(apply b8<;>intro hb<;>cbv)
 all_goals(subst hO hr hF;(try simp only[nc]at*);(try simp only[am,SS,sa,az]at*))
 all_goals first
  | (show(_:List DV)=_
     first
      |exact aj (I6 (by assumption)).symm
      |exact aj (I5 (by assumption)).symm
      |exact aj (P3 (by assumption)).symm
      |done)
  |(show aw _ _=true;kernel_rfl)
  |done
theorem fZ:ec 296 co:=by
 intro _ _ _ h hp;dsimp only[co,F0]at h;split at h<;>cases h
 rename_i p k b;refine cb La2 Tryz.func296 ?_
 intro O r F hO hr hF;cbv
 repeat' first|apply Zb|(apply b8<;>intro hb<;>cbv)
 all_goals(subst hO hr hF;(try simp only[nc]at*);(try simp only[am,SS,sa,az]at*))
 all_goals first
  | (show(_:List DV)=_
     first
      |exact aj (I6 (by assumption)).symm
      |exact aj (I5 (by assumption)).symm
      |done)
  |(show aw _ _=true;kernel_rfl)
  |done
def dC:EC:=fun F=>fun
 |[.one (.v (.int Za s))]=>some (fun _=>True,[.j (F.pfN s)])
 |_=>none
theorem mE:ec 144 dC:=by
 intro _ _ _ h hp;dsimp only[dC,F0]at h;split at h<;>cases h
 rename_i s;refine cb La1 Tryz.func144 ?_
 exact ab5
theorem tJ:ec 358 dC:=by
 intro _ _ _ h hp;dsimp only[dC,F0]at h;split at h<;>cases h
 rename_i s;refine cb La1 Tryz.func358 ?_
 exact ab5
abbrev La3:dB:=eg (fun F f=>match f with|33=>ai F|144=>dC F|358=>dC F|92=>ai F|_=>fun _=>none) (by
 intro f;dsimp only;split;exact aP;exact mE;exact tJ;exact bc;exact dI)
def dq:EC:=fun F=>fun
 |[.agg [.v (.int Za p),.v (.int Za n),.v (.int Za s)]]=>some (fun _=>True,[.k (F.lgOk p n s)])
 |_=>none
theorem na:ec 168 dq:=by
 intro _ _ _ h hp;dsimp only[dq,F0]at h;split at h<;>cases h
 rename_i p n s;refine cb La3 Tryz.func168 ?_
 intro O r F hO hr hF;cbv
 repeat' first|apply Zb|(apply b8<;>intro hb<;>cbv)
 all_goals(subst hO hr hF;(try simp only[nc]at*);(try simp only[am,SS,sa,az]at*))
 all_goals first
  | (show(_:List DV)=_
     first
      |(have b:=ku (s:=s) (by assumption);rw[show bK .sub Za 32 n=32-n from fG (by omega)];exact aj (H1 (by assumption) (by assumption)).symm)
      |exact aj (HZ (by assumption)).symm
      |exact aj (H0 (by assumption)).symm
      |done)
  |(show aw _ _=true;kernel_rfl)
  |done
theorem nk:ec 298 dq:=by
 intro _ _ _ h hp;dsimp only[dq,F0]at h;split at h<;>cases h
 rename_i p n s;refine cb La3 Tryz.func298 ?_
 intro O r F hO hr hF;cbv
 repeat' first|apply Zb|(apply b8<;>intro hb<;>cbv)
 all_goals(subst hO hr hF;(try simp only[nc]at*);(try simp only[am,SS,sa,az]at*))
 all_goals first
  | (show(_:List DV)=_
     first
      |(have q:=IA.1 (‹0<pfN s›);have b:=ku q;rw[show bK .sub Za 32 (pfN s)=32-pfN s from fG (by omega), ‹n=pfN s›];exact aj (H1 q rfl).symm)
      |(refine aj (HZ ?_).symm;cases q:inR s 9 1000;rfl;have:=IA.2 q;omega)
      |exact aj (H0 (by assumption)).symm
      |done)
  |done
abbrev QT:dB:=eg (fun F f=>match f with|33=>ai F|167=>co F|56=>bC F|255=>bO F|168=>dq F|296=>co F|43=>bC F|298=>dq F|_=>fun _=>none) (by
 intro f;dsimp only;split;exact aP;exact iO;exact de;exact eF;exact na;exact fZ;exact dO;exact nk;exact dI)
def kR:EC:=fun F=>fun
 |[.agg [.v (.int Za p),.v (.int Za k),.v (.int Za b)],.one (.v (.int Za a))]=>some (fun _=>True,[.j (F.saS p k b a),.j (F.saO p k b a)])
 |_=>none
theorem xd:ec 272 kR:=by
 intro _ _ _ h hp;dsimp only[kR,F0]at h;split at h<;>cases h
 rename_i p k b a;refine cb QT Tryz.func272 ?_
 intro O r F hO hr hF;cbv
 repeat' first|apply Zb|(apply b8<;>intro hb<;>cbv)
 all_goals(subst hO hr hF;(try simp only[nc]at*);(try simp only[am,SS,sa,az]at*);(try(have t:=lL (p:=p) (k:=k) (b:=b) (by assumption);have c:=jr t.2.2.1;have e:=aac (p:=p) ⟨t.1,t.2.1⟩;try simp only[e.1,e.2]at*)))
 all_goals first
  | (show(_:List DV)=_
     first
      |(have q:=Lb (p:=p) (k:=k) (b:=b) (a:=a) (by assumption) (by assumption);exact kE q.1.symm q.2.symm)
      |(have q:=yh (M2 (p:=p) (k:=k) (b:=b) (a:=a) (by assumption));exact kE q.1.symm q.2.symm)
      |(have q:=yh (aaR (p:=p) (k:=k) (b:=b) (a:=a) (by assumption));exact kE q.1.symm q.2.symm)
      |done)
  |(show aw _ _=true;kernel_rfl)
  |omega
  |done
def kT:EC:=fun F=>fun
 |[.agg [.v (.int Za p),.v (.int Za k),.v (.int Za b)],.one (.v (.int Za a))]=>some (fun _=>Gi a,[.j (F.saS p k b a),.j (F.saO p k b a)])
 |_=>none
theorem xk:ec 360 kT:=by
 intro _ _ _ h hp;dsimp only[kT,F0]at h;split at h<;>cases h
 rename_i p k b a;refine cb QT Tryz.func360 ?_
 intro O r F hO hr hF;cbv
 repeat' first|apply Zb|(apply b8<;>intro hb<;>cbv)
 all_goals(subst hO hr hF;(try simp only[nc]at*);(try simp only[am,SS,sa,az]at*);(try(have t:=lL (p:=p) (k:=k) (b:=b) (by assumption);have c:=jr t.2.2.1)))
 all_goals first
  | (show(_:List DV)=_
     first
      |(have q:=Lc (p:=p) (k:=k) (b:=b) (a:=a) (by assumption) (by omega) (by assumption) (by omega);exact kE q.1.symm q.2.symm)
      |(have q:=yh (M2 (p:=p) (k:=k) (b:=b) (a:=a) (by assumption));exact kE q.1.symm q.2.symm)
      |(have q:=yh (M3 (p:=p) (k:=k) (b:=b) (a:=a) (.inl (by omega)) (by omega));exact kE q.1.symm q.2.symm)
      |(have q:=yh (M3 (p:=p) (k:=k) (b:=b) (a:=a) (.inr (by assumption)) (by omega));exact kE q.1.symm q.2.symm)
      |done)
  |(show aw _ _=true;kernel_rfl)
  |omega
  |done
def eS:EC:=fun F=>fun
 |[.agg [.v (.int Za p),.v (.int Za k),.v (.int Za b)],.one (.v (.int Za s))]=>some (fun _=>True,[.j (F.aaI p k b s)])
 |_=>none
theorem jc:ec 259 eS:=by
 intro _ _ _ h hp;dsimp only[eS,F0]at h;split at h<;>cases h
 rename_i p k b s;refine cb QT Tryz.func259 ?_
 intro O r F hO hr hF;cbv
 repeat' first|apply Zb|(apply b8<;>intro hb<;>cbv)
 all_goals(subst hO hr hF;(try simp only[nc]at*);(try simp only[am,SS,sa,az]at*);(try(have t:=lL (p:=p) (k:=k) (b:=b) (by assumption);have c:=jr t.2.2.1;have e:bK .sub Za (slN k) 1=slN k-1:=fG (by omega);try simp only[e]at*)))
 all_goals first
  | (show(_:List DV)=_
     first
      |exact bV (NC (by assumption) (by assumption))
      |exact bV (LJ (.inl (by assumption))).symm
      |exact bV (LJ (.inr (by assumption))).symm
      |done)
  |(show aw _ _=true;kernel_rfl)
  |done
def cZ:EC:=fun F=>fun
 |[.agg [.v (.int Za p),.v (.int Za n),.v (.int Za s)],.one (.v (.int Za a))]=>some (fun _=>True,[.k (F.lhB p n s a)])
 |_=>none
theorem mB:ec 274 cZ:=by
 intro _ _ _ h hp;dsimp only[cZ,F0]at h;split at h<;>cases h
 rename_i p n s a;refine cb QT Tryz.func274 ?_
 intro O r F hO hr hF;cbv
 repeat' first|apply Zb|(apply b8<;>intro hb<;>cbv)
 all_goals(subst hO hr hF;(try simp only[nc]at*);(try simp only[am,SS,sa,az]at*);(try(have e:=H2 (p:=p) (n:=n) (s:=s) (by assumption);try simp only[e.2.2])))
 all_goals first
  | (show(_:List DV)=_
     first
      |(rw[e.1];exact aj (CI (by assumption)).symm)
      |exact aj (H3 (by assumption)).symm
      |done)
  |done
theorem mM:ec 362 cZ:=by
 intro _ _ _ h hp;dsimp only[cZ,F0]at h;split at h<;>cases h
 rename_i p n s a;refine cb QT Tryz.func362 ?_
 intro O r F hO hr hF;cbv
 repeat' first|apply Zb|(apply b8<;>intro hb<;>cbv)
 all_goals(subst hO hr hF;(try simp only[nc]at*);(try simp only[am,SS,sa,az]at*);(try(have e:=H2 (p:=p) (n:=n) (s:=s) (by assumption);try simp only[e.1]at*)))
 all_goals first
  | (show(_:List DV)=_
     first
      |exact aj (H3 (by assumption)).symm
      |(refine aj (fU ?_);rw[CI (by assumption),bz];simp only[SS,cU,VM];omega)
      |(refine aj (fU ?_);rw[CI (by assumption),bz];simp only[Bool.false_eq_true,false_iff];omega)
      |done)
  |done
abbrev La5:dB:=eg (fun F f=>match f with|274=>cZ F|362=>cZ F|_=>fun _=>none) (by
 intro f;dsimp only;split;exact mB;exact mM;exact dI)
def di:EC:=fun F=>fun
 |[.agg [.v (.int Za p),.v (.int Za n),.v (.int Za s)],.one (.v (.int Za a))]=>some (fun _=>True,[.j (F.loI p n s a)])
 |_=>none
theorem pq:ec 275 di:=by
 intro _ _ _ h hp;dsimp only[di,F0]at h;split at h<;>cases h
 rename_i p n s a;refine cb La5 Tryz.func275 ?_
 exact ab6
theorem pw:ec 363 di:=by
 intro _ _ _ h hp;dsimp only[di,F0]at h;split at h<;>cases h
 rename_i p n s a;refine cb La5 Tryz.func363 ?_
 exact ab6
def eB:EC:=fun F=>fun
 |[.one (.s 1 l),.one (.v (.int Za x))]=>some (fun _=>Rw [tI] l,[.k (F.hasB l x)])
 |_=>none
theorem ga:ec 297 eB:=by
 intro _ _ _ h hp;dsimp only[eB,F0]at h;split at h<;>cases h
 rename_i l x;have hw:=hp;have hm:=hw.1;unfold maxLen at hm;refine cb nB Tryz.func297 ?_
 intro O r F hO hr hF;cbv
 repeat' first|apply Zb|(apply b8<;>intro hb<;>cbv)|(refine⟨[0,1,5],[],Int,fun i=>[.reg 5 (.j i)],fun i=>0<=i/\i<=((l.length:Nat):Int)/\upto (bR (Gc l x)) i,fun i=>(l.length)-i.toNat,⟨0,?_,?_⟩,?_⟩;rotate_left;(focus (cbv;done));intro i hi;replace hi:0<=i/\i<=((l.length:Nat):Int)/\upto (bR (Gc l x)) i:=hi;obtain⟨i0,i1,i2⟩:=hi;cbv)|(refine ah (O.ar .add Za i 1) ?_ ?_ ?_;focus (cbv;done))
 all_goals(subst hO hr hF;(try simp only[nc]at*);(try simp only[am,SS,sa,az]at*);(try rw[cJ (by omega) (by omega)]))
 all_goals first
  | (show(_:List DV)=_
     first
      |(refine aj ?_;symm;rw[DU];exact⟨i.toNat,by omega,by rw[Int.toNat_of_nonneg i0];assumption⟩)
      |(refine aj ?_;symm;exact Oa i2 (by omega))
      |done)
  |omega
  |exact fg
  |exact bD
  |exact aU i2 (by unfold bR Gc;rw[sJ (fun e=>absurd e.symm (by assumption))];rfl)
  |done
def gK:EP:=fun F=>fun
 |[.one (.v (.int Za pg)),.mp [.own (.m true es)]]=>some (fun _=>True,[[.own (.m true (F.muT es pg))]],[.k (!(F.mgbI es pg))])
 |_=>none
theorem pV:ep 166 gK:=by
 intro _ _ _ _ h hp;dsimp only[gK,F0]at h;split at h<;>cases h
 rename_i pg es;refine pb nB Tryz.func166 ?_
 intro O r os F hO hr hos hF;cbv
 repeat' first|apply Zb|(apply b8<;>intro hb<;>cbv)
 all_goals((try subst hos);subst hO hr hF;(try simp only[nc]at*);(try simp only[am,SS,sa,az]at*))
 all_goals first|(show(_:List DV)=_;exact rfl)|(show(_:List H)=_;exact rfl)|done
abbrev Lb1:dB:=eg (fun F f=>match f with|296=>co F|298=>dq F|297=>eB F|_=>fun _=>none) (by
 intro f;dsimp only;split;exact fZ;exact nk;exact ga;exact dI)
def cP:EC:=fun F=>fun
 |[.one (.s 3 sp),.one (.s 3 lg)]=>some (fun _=>Rw [tI,tI,tI] sp/\Rw [tI,tI,tI] lg/\sp.length<=1073741824/\lg.length<=1073741824,[.k (F.layOk sp lg)])
 |_=>none
theorem je:ec 203 cP:=by
 intro _ _ _ h hp;dsimp only[cP,F0]at h;split at h<;>cases h
 rename_i sp lg;obtain⟨hs,hl,ns,nl⟩:=hp;refine cb Lb1 Tryz.func203 ?_
 intro O r F hO hr hF;cbv
 repeat' first|apply Zb|(apply b8<;>intro hb<;>cbv)|(refine⟨[0,1,5,6],[5],Int×af,fun s_=>match s_ with|(i,o)=>[.reg 6 (.j i),.reg 5 (.one (.vw 5 0 0 0 (O.ln o))),.leaf 5 0 ⟨0,0,none,.own (.s 1 o)⟩],fun s_=>match s_ with|(i,o)=>0<=i/\i<=(sp.length:Int)/\JK sp i o,fun s_=>match s_ with|(i,o)=>sp.length-i.toNat,⟨(0,[]),?_,?_⟩,?_⟩;rotate_left;(focus (cbv;done));intro s_ hi;obtain⟨i,o⟩:=s_;replace hi:0<=i/\i<=(sp.length:Int)/\JK sp i o:=hi;obtain⟨i0,i1,i2⟩:=hi;cbv)|(refine⟨[1,5,7],[5],Int×af,fun s_=>match s_ with|(j,o1)=>[.reg 7 (.j j),.reg 5 (.one (.vw 5 0 0 0 (O.ln o1))),.leaf 5 0 ⟨0,0,none,.own (.s 1 o1)⟩],fun s_=>match s_ with|(j,o1)=>0<=j/\j<=(lg.length:Int)/\Qy sp lg j o1,fun s_=>match s_ with|(j,o1)=>lg.length-j.toNat,⟨(0,o),?_,?_⟩,?_⟩;rotate_left;(focus (cbv;done));intro s_ hj;obtain⟨j,o1⟩:=s_;replace hj:0<=j/\j<=(lg.length:Int)/\Qy sp lg j o1:=hj;obtain⟨j0,j1,j2⟩:=hj;cbv)|(refine⟨[1,5,7,8],[5],Int×af,fun s_=>match s_ with|(k,o2)=>[.reg 8 (.j k),.reg 5 (.one (.vw 5 0 0 0 (O.ln o2))),.leaf 5 0 ⟨0,0,none,.own (.s 1 o2)⟩],fun s_=>match s_ with|(k,o2)=>0<=k/\k<=ag lg j 1/\JJ sp lg j k o2,fun s_=>match s_ with|(k,o2)=>(ag lg j 1-k).toNat,⟨(0,o1),?_,?_⟩,?_⟩;rotate_left;(focus (cbv;done));intro s_ hk;obtain⟨k,o2⟩:=s_;replace hk:0<=k/\k<=ag lg j 1/\JJ sp lg j k o2:=hk;obtain⟨k0,k1,k2⟩:=hk;cbv)|(refine ah (O.ar .add Za k 1,O.cat o2 (O.sub [[.i (O.ar .add Za (O.gi lg j 0) k)]] 0 (O.ln [[.i (O.ar .add Za (O.gi lg j 0) k)]]))) ?_ ?_ ?_;focus (cbv;done))|(refine ah (O.ar .add Za j 1,o2) ?_ ?_ ?_;focus (cbv;done))|(refine ah (O.ar .add Za i 1,O.cat o (O.sub [[.i (O.gi sp i 0)]] 0 (O.ln [[.i (O.gi sp i 0)]]))) ?_ ?_ ?_;focus (cbv;done))
 all_goals(subst hO hr hF;(try simp only[nc]at*);(try simp only[am,SS,sa,az]at*);(try rw[cJ (by omega) (by omega)]);(try have z:=(Te (k:=k) (by assumption) k0 (by assumption)));(try(obtain⟨z1,z2,z3,z4,z5⟩:=z));(try have z6:bK .add Za k 1=k+1:=bT (by omega));(try simp only[z3]at*);(try simp only[z6]at*))
 all_goals first
  | (show(_:List DV)=_
     first
      |(refine aj ?_;symm;exact D7 i0 (by assumption) (by assumption))
      |(refine aj ?_;symm;exact O1 i2 i0 (by assumption) (by assumption))
      |(refine aj ?_;symm;exact D8 j0 (by assumption) (by assumption))
      |(refine aj ?_;symm;exact OX k2 j0 (by assumption) k0 (by assumption) (by assumption))
      |(refine aj ?_;symm;exact OZ j2 j1 (by assumption))
      |done)
  |omega
  |exact fg
  |exact Tl i2 (by omega)
  |exact Tf k2 (by omega) (by omega) (by omega)
  |(have q:=H5 i2;constructor<;>(simp only[Zr,Zt];omega))
  |(have q:=H4 k2;constructor<;>(simp only[Zr,Zt];omega))
  |exact Tm i2 i0 (by assumption) (by assumption)
  |exact Tg k2 k0 (by omega) (by assumption)
  |exact OY k2 j0 (by assumption) k0 k1 (by assumption)
  |exact adg j2
  |exact O2 i2 i1 (by assumption)
  |exact adh
  |exact⟨Zd,Zd⟩
  |(have t:=k7 (by assumption);have b:=ku t.1;omega)
  |done
abbrev Lc1:dB:={
 Φ:=wV
 F0:=F0
 ct:=fun F f=>match f with|167=>co F|168=>dq F|_=>fun _=>none
 hc:=(by
  intro f;dsimp only;split;exact iO;exact na;exact dI)
 pt:=fun F f=>match f with|166=>some (gK F)|_=>none
 hp:=(by
  intro f mk h;dsimp only at h;split at h<;>cases h
  exact pV)}
theorem mC:ec 62 cP:=by
 intro _ _ _ h hp;dsimp only[cP,F0]at h;split at h<;>cases h
 rename_i sp lg;obtain⟨hs,hl,ns,nl⟩:=hp;refine cb Lc1 Tryz.func62 ?_
 intro O r F hO hr hF;cbv
 repeat' first|apply Zb|(apply b8<;>intro hb<;>cbv)|(refine⟨[1,6,14,15,16],[5],Int×af,fun s_=>match s_ with|(i,es)=>[.reg 16 (.j i),.leaf 5 0 ⟨0,0,none,.own (.m true es)⟩],fun s_=>match s_ with|(i,es)=>0<=i/\i<=(sp.length:Int)/\Nq sp i es,fun s_=>match s_ with|(i,es)=>sp.length-i.toNat,⟨(0,[]),?_,?_⟩,?_⟩;rotate_left;(focus (cbv;done));intro s_ hi;obtain⟨i,es⟩:=s_;replace hi:0<=i/\i<=(sp.length:Int)/\Nq sp i es:=hi;obtain⟨i0,i1,i2⟩:=hi;cbv)|(refine⟨[6,31,32,33],[5],Int×af,fun s_=>match s_ with|(j,es1)=>[.reg 33 (.j j),.leaf 5 0 ⟨0,0,none,.own (.m true es1)⟩],fun s_=>match s_ with|(j,es1)=>0<=j/\j<=(lg.length:Int)/\Qx sp lg j es1,fun s_=>match s_ with|(j,es1)=>lg.length-j.toNat,⟨(0,es),?_,?_⟩,?_⟩;rotate_left;(focus (cbv;done));intro s_ hj;obtain⟨j,es1⟩:=s_;replace hj:0<=j/\j<=(lg.length:Int)/\Qx sp lg j es1:=hj;obtain⟨j0,j1,j2⟩:=hj;cbv)|(refine⟨[6,10,11,31,32,33],[5,10],Int×af,fun s_=>match s_ with|(k,es2)=>[.reg 11 (.j k),.leaf 5 0 ⟨0,0,none,.own (.m true es2)⟩],fun s_=>match s_ with|(k,es2)=>0<=k/\k<=ag lg j 1/\IkP sp lg j k es2,fun s_=>match s_ with|(k,es2)=>(ag lg j 1-k).toNat,⟨(0,es1),?_,?_⟩,?_⟩;rotate_left;(focus (cbv;done));intro s_ hk;obtain⟨k,es2⟩:=s_;replace hk:0<=k/\k<=ag lg j 1/\IkP sp lg j k es2:=hk;obtain⟨k0,k1,k2⟩:=hk;cbv)|(refine ah (O.ar .add Za k 1,F.muT es2 (O.ar .add Za (O.gi lg j 0) k)) ?_ ?_ ?_;focus (cbv;done))|(refine ah (O.ar .add Za j 1,es2) ?_ ?_ ?_;focus (cbv;done))|(refine ah (O.ar .add Za i 1,F.muT es (O.gi sp i 0)) ?_ ?_ ?_;focus (cbv;done))
 all_goals(subst hO hr hF;(try simp only[nc]at*);(try simp only[am,SS,sa,az]at*);(try rw[cJ (by omega) (by omega)]);(try have z:=(Te (k:=k) (by assumption) k0 (by assumption)));(try(obtain⟨z1,z2,z3,z4,z5⟩:=z));(try have z6:bK .add Za k 1=k+1:=bT (by omega));(try simp only[z3]at*);(try simp only[z6]at*))
 all_goals first
  | (show(_:List DV)=_
     first
      |(refine aj ?_;symm;exact OI i2 i0 (by assumption) (TJ (b:=mgbI es (ag sp i 0)) hb))
      |(refine aj ?_;symm;exact OA k2 j0 (by assumption) k0 (by assumption) (TJ (b:=mgbI es2 (ag lg j 0+k)) hb))
      |(refine aj ?_;symm;exact D7 i0 (by assumption) (by assumption))
      |(refine aj ?_;symm;exact D8 j0 (by assumption) (by assumption))
      |(refine aj ?_;symm;exact OC j2 j1 (by assumption))
      |done)
  |omega
  |exact fg
  |exact SN i2 i0 (by assumption) (TK (b:=mgbI es (ag sp i 0)) hb)
  |exact SI k2 k0 (TK (b:=mgbI es2 (ag lg j 0+k)) hb)
  |exact OB k2 j0 (by assumption) k1 (by assumption)
  |exact acW j2
  |exact OJ i2 i1 (by assumption)
  |exact acY
  |(have t:=k7 (by assumption);have b:=ku t.1;omega)
  |done
abbrev Ld1:dB:=eg (fun F f=>match f with|272=>kR F|273=>cF F|274=>cZ F|275=>di F|203=>cP F|360=>kT F|361=>cF F|362=>cZ F|363=>di F|_=>fun _=>none) (by
 intro f;dsimp only;split;exact xd;exact gH;exact mB;exact pq;exact je;exact xk;exact jI;exact mM;exact pw;exact dI)
def gQ:EC:=fun F=>fun
 |[.one (.s 3 sp),.one (.s 3 lg),.one (.v (.int Za a))]=>some (fun _=>Rw [tI,tI,tI] sp/\Rw [tI,tI,tI] lg,[.agg [.i (F.dnK sp lg a),.i (F.dnI sp lg a),.i (F.dnS sp a),.i (F.dnO sp lg a)]])
 |_=>none
theorem nh:ec 162 gQ:=by
 intro _ _ _ h hp;dsimp only[gQ,F0]at h;split at h<;>cases h
 rename_i sp lg a;obtain⟨hs,hl⟩:=hp;have ms:=hs.1;unfold maxLen at ms;have ml:=hl.1;unfold maxLen at ml;refine cb Ld1 Tryz.func162 ?_
 intro O r F hO hr hF;cbv
 repeat' first|apply Zb|(apply b8<;>intro hb<;>cbv)|(refine⟨[1,2,6,14,15,16],[6],Int,fun i=>[.reg 16 (.j i)],fun i=>0<=i/\i<=((sp.length:Nat):Int)/\upto (bR (zA sp a)) i,fun i=>(sp.length)-i.toNat,⟨0,?_,?_⟩,?_⟩;rotate_left;(focus (cbv;done));intro i hi;replace hi:0<=i/\i<=((sp.length:Nat):Int)/\upto (bR (zA sp a)) i:=hi;obtain⟨i0,i1,i2⟩:=hi;cbv)|(refine ah (O.ar .add Za i 1) ?_ ?_ ?_;focus (cbv;done))|(refine⟨[2,6,39,40,41],[6],Int,fun j=>[.reg 41 (.j j)],fun j=>0<=j/\j<=((lg.length:Nat):Int)/\upto (bR (A0 lg a)) j,fun j=>(lg.length)-j.toNat,⟨0,?_,?_⟩,?_⟩;rotate_left;(focus (cbv;done));intro j hj;replace hj:0<=j/\j<=((lg.length:Nat):Int)/\upto (bR (A0 lg a)) j:=hj;obtain⟨j0,j1,j2⟩:=hj;cbv)|(refine ah (O.ar .add Za j 1) ?_ ?_ ?_;focus (cbv;done))
 all_goals(subst hO hr hF;(try simp only[nc]at*);(try simp only[am,SS,sa,az]at*);(try rw[cJ (by omega) (by omega)]))
 all_goals first
  | (show(_:List DV)=_
     first
      |exact ow1 i2 i0 (by assumption) (by assumption) (by assumption)
      |exact ow2 i2 i0 (by assumption) (by assumption) (by assumption)
      |exact ow3 i2 (by assumption) j2 j0 (by assumption) (by assumption)
      |exact ow4 i2 (by assumption) j2 (by assumption)
      |done)
  |omega
  |exact fg
  |exact aaQ i2 (by assumption)
  |exact SX j2 (by assumption)
  |exact bD
  |done
def fB:EC:=fun F=>fun
 |[.one (.s 3 sp),.one (.s 3 lg),.one (.v (.int Za a))]=>some (fun _=>Rw [tI,tI,tI] sp/\Rw [tI,tI,tI] lg/\sp.length<=1073741824/\lg.length<=1073741824/\ -9223372036854775808<=a/\a<=9223372036854775807,[.agg [.i (F.dzK sp lg a),.i (F.dzI sp lg a),.i (F.dzS sp lg a),.i (F.dzO sp lg a)]])
 |_=>none
theorem jH:ec 304 fB:=by
 intro _ _ _ h hp;dsimp only[fB,F0]at h;split at h<;>cases h
 rename_i sp lg a;obtain⟨hs,hl,ns,nl,a0,a1⟩:=hp;refine cb Ld1 Tryz.func304 ?_
 intro O r F hO hr hF;cbv
 repeat' first|apply Zb|(apply b8<;>intro hb<;>cbv)|(refine⟨[0,1,2,6,7],[6],Int,fun i=>[.reg 7 (.j i)],fun i=>0<=i/\i<=((sp.length:Nat):Int)/\upto (bR (zA sp a)) i,fun i=>(sp.length)-i.toNat,⟨0,?_,?_⟩,?_⟩;rotate_left;(focus (cbv;done));intro i hi;replace hi:0<=i/\i<=((sp.length:Nat):Int)/\upto (bR (zA sp a)) i:=hi;obtain⟨i0,i1,i2⟩:=hi;cbv)|(refine ah (O.ar .add Za i 1) ?_ ?_ ?_;focus (cbv;done))|(refine⟨[1,2,6,11],[6],Int,fun j=>[.reg 11 (.j j)],fun j=>0<=j/\j<=((lg.length:Nat):Int)/\upto (bR (A0 lg a)) j,fun j=>(lg.length)-j.toNat,⟨0,?_,?_⟩,?_⟩;rotate_left;(focus (cbv;done));intro j hj;replace hj:0<=j/\j<=((lg.length:Nat):Int)/\upto (bR (A0 lg a)) j:=hj;obtain⟨j0,j1,j2⟩:=hj;cbv)|(refine ah (O.ar .add Za j 1) ?_ ?_ ?_;focus (cbv;done))
 all_goals(subst hO hr hF;(try simp only[nc]at*);(try simp only[am,SS,sa,az]at*);(try rw[cJ (by omega) (by omega)]))
 all_goals first
  | (show(_:List DV)=_
     first
      |exact Eq.trans (ow1 i2 i0 (by assumption) (by assumption) (by assumption)) (Kf (by assumption))
      |exact Eq.trans (ow2 i2 i0 (by assumption) (by assumption) (by assumption)) (Kf (by assumption))
      |exact Eq.trans (ow3 i2 (by assumption) j2 j0 (by assumption) (by assumption)) (Kf (by assumption))
      |exact Eq.trans (ow4 i2 (by assumption) j2 (by assumption)) (Kf (by assumption))
      |exact acs (by assumption)
      |done)
  |omega
  |exact fg
  |exact aaQ i2 (by assumption)
  |exact SX j2 (by assumption)
  |exact bD
  |exact⟨hs,hl,ns,nl⟩
  |done
abbrev Le1:dB:=eg (fun F f=>match f with|203=>cP F|304=>fB F|_=>fun _=>none) (by
 intro f;dsimp only;split;exact je;exact jH;exact dI)
def iH:EC:=fun F=>fun
 |[.one (.s 3 sp),.one (.s 3 lg)]=>some (fun _=>Rw [tI,tI,tI] sp/\Rw [tI,tI,tI] lg/\sp.length<=1073741824/\lg.length<=1073741824,[.one (.s 1 (F.laL sp lg))])
 |_=>none
theorem rC:ec 307 iH:=by
 intro _ _ _ h hp;dsimp only[iH,F0]at h;split at h<;>cases h
 rename_i sp lg;obtain⟨hs,hl,ns,nl⟩:=hp;refine cb Le1 Tryz.func307 ?_
 intro O r F hO hr hF;cbv
 repeat' first|apply Zb|(apply b8<;>intro hb<;>cbv)|(refine⟨[0,1,5,6],[5],Int×af,fun s_=>match s_ with|(i,o)=>[.reg 6 (.j i),.reg 5 (.one (.vw 5 0 0 0 (O.ln o))),.leaf 5 0 ⟨0,0,none,.own (.s 1 o)⟩],fun s_=>match s_ with|(i,o)=>0<=i/\i<=512/\JI sp lg i o,fun s_=>match s_ with|(i,o)=>512-i.toNat,⟨(0,[]),?_,?_⟩,?_⟩;rotate_left;(focus (cbv;done));intro s_ hi;obtain⟨i,o⟩:=s_;replace hi:0<=i/\i<=512/\JI sp lg i o:=hi;obtain⟨i0,i1,i2⟩:=hi;cbv)|(refine ah (O.ar .add Za i 1,O.cat o (O.sub [[.i i]] 0 (O.ln [[.i i]]))) ?_ ?_ ?_;focus (cbv;done))|(refine ah (O.ar .add Za i 1,o) ?_ ?_ ?_;focus (cbv;done))
 all_goals(subst hO hr hF;(try simp only[nc]at*);(try simp only[am,SS,sa,az]at*);(try rw[cJ (by omega) (by omega)]))
 all_goals first
  | (show(_:List DV)=_
     first
      |(refine rT ?_;exact OO i2 i1 (by assumption))
      |(refine rT ?_;exact ON i2 i0 (by assumption))
      |done)
  |omega
  |exact⟨hs,hl,ns,nl⟩
  |exact⟨hs,hl,ns,nl,by omega,by omega⟩
  |(have q:=i2.l;constructor<;>(simp only[Zr,Zt];omega))
  |exact HO i2 i0 (by assumption) (Tq (by assumption) (by assumption))
  |exact HO i2 i0 (by assumption) (Ts (by assumption) (by assumption))
  |exact Mw i2 i0 (by assumption) (Tn (by assumption))
  |exact Mw i2 i0 (by assumption) (To (by assumption) (by assumption))
  |exact ade
  |(have q:true=false:=(by assumption);cases q)
  |exact⟨Zd,Zd⟩
  |done
def Tryz.lays189_ren:Go.Shelf.Ren:=⟨fun|189=>281|125=>343|257=>342|128=>393|129=>394|294=>384|295=>385|296=>386|297=>387|298=>388|299=>389|216=>390|300=>391|301=>392|328=>407|329=>408|330=>409|331=>410|332=>411|215=>412|343=>417|n=>n,fun|28=>24|3=>3|46=>217|0=>0|51=>392|53=>394|4=>4|183=>386|182=>385|131=>113|5=>5|9=>9|218=>403|222=>407|228=>410|229=>59|n=>n,fun|n=>n⟩
theorem Tryz.lays189:Lays.n189 Tryz.prog Tryz.lays189_ren:=⟨by kernel_rfl,Tryz.func343.trans (congrArg some (by kernel_rfl)),Tryz.func393.trans (congrArg some (by kernel_rfl)),Tryz.func394.trans (congrArg some (by kernel_rfl)),Tryz.func281.trans (congrArg some (by kernel_rfl)),Tryz.func412.trans (congrArg some (by kernel_rfl)),Tryz.func390.trans (congrArg some (by kernel_rfl)),Tryz.func342.trans (congrArg some (by kernel_rfl)),Tryz.func384.trans (congrArg some (by kernel_rfl)),Tryz.func385.trans (congrArg some (by kernel_rfl)),Tryz.func386.trans (congrArg some (by kernel_rfl)),Tryz.func387.trans (congrArg some (by kernel_rfl)),Tryz.func388.trans (congrArg some (by kernel_rfl)),Tryz.func389.trans (congrArg some (by kernel_rfl)),Tryz.func391.trans (congrArg some (by kernel_rfl)),Tryz.func392.trans (congrArg some (by kernel_rfl)),Tryz.func407.trans (congrArg some (by kernel_rfl)),Tryz.func408.trans (congrArg some (by kernel_rfl)),Tryz.func409.trans (congrArg some (by kernel_rfl)),Tryz.func410.trans (congrArg some (by kernel_rfl)),Tryz.func411.trans (congrArg some (by kernel_rfl)),Tryz.func417.trans (congrArg some (by kernel_rfl)),Tryz.underlying0,Tryz.isAgg0,Tryz.sizeOf0,Tryz.zeroValue0,Tryz.underlying3,Tryz.isAgg3,Tryz.sizeOf3,Tryz.zeroValue3,Tryz.underlying4,Tryz.isAgg4,Tryz.sizeOf4,Tryz.zeroValue4,Tryz.underlying5,Tryz.isAgg5,Tryz.sizeOf5,Tryz.zeroValue5,Tryz.underlying9,Tryz.isAgg9,Tryz.sizeOf9,Tryz.zeroValue9,Tryz.underlying24,Tryz.isAgg24,Tryz.sizeOf24,Tryz.zeroValue24,Tryz.underlying217,Tryz.isAgg217,Tryz.sizeOf217,Tryz.zeroValue217,Tryz.underlying392,Tryz.isAgg392,Tryz.sizeOf392,Tryz.zeroValue392,Tryz.underlying394,Tryz.isAgg394,Tryz.sizeOf394,Tryz.zeroValue394,Tryz.underlying113,Tryz.isAgg113,Tryz.sizeOf113,Tryz.zeroValue113,Tryz.underlying385,Tryz.isAgg385,Tryz.sizeOf385,Tryz.zeroValue385,Tryz.underlying386,Tryz.isAgg386,Tryz.sizeOf386,Tryz.zeroValue386,Tryz.underlying403,Tryz.isAgg403,Tryz.sizeOf403,Tryz.zeroValue403,Tryz.underlying407,Tryz.isAgg407,Tryz.sizeOf407,Tryz.zeroValue407,Tryz.underlying410,Tryz.isAgg410,Tryz.sizeOf410,Tryz.zeroValue410,Tryz.underlying59,Tryz.isAgg59,Tryz.sizeOf59,Tryz.zeroValue59⟩
def fh:EM:=fun F=>fun
 |[.one (.s 1 l)]=>some (fun _=>Rw [tI] l/\l.length<=70368744177664,[.s 1 (F.srtL l)],[])
 |_=>none
theorem mV:em 281 fh:=by
 intro _ _ _ _ h hp;dsimp only[fh,F0]at h;split at h<;>cases h
 rename_i l;exact FG (Any.slices_Sort_int_none Tryz.lays189) (Any.slices_Sort_int Tryz.lays189) l hp
abbrev Lf1:dB:={
 Φ:=wV
 F0:=F0
 ct:=fun F f=>match f with|62=>cP F|255=>bO F|273=>cF F|259=>eS F|_=>fun _=>none
 hc:=(by
  intro f;dsimp only;split;exact mC;exact eF;exact gH;exact jc;exact dI)
 mt:=fun F f=>match f with|281=>some (fh F)|_=>none
 hm:=(by
  intro f mk h;dsimp only at h;split at h<;>cases h
  exact mV)}
def iB:EC:=fun F=>fun
 |[.one (.s 3 sp),.one (.s 3 lg)]=>some (fun _=>Rw [tI,tI,tI] sp/\Rw [tI,tI,tI] lg/\sp.length<=1073741824/\lg.length<=1073741824,[.one (.s 1 (F.iaL sp lg))])
 |_=>none
theorem rk:ec 177 iB:=by
 intro _ _ _ h hp;dsimp only[iB,F0]at h;split at h<;>cases h
 rename_i sp lg;obtain⟨hs,hl,ns,nl⟩:=hp;refine cb Lf1 Tryz.func177 ?_
 intro O r F hO hr hF;cbv
 repeat' first|apply Zb|(apply b8<;>intro hb<;>cbv)|(refine⟨[1,5,16,17,18],[5],Int×af,fun s_=>match s_ with|(i,o)=>[.reg 18 (.j i),.reg 5 (.one (.vw 5 0 0 0 (O.ln o))),.leaf 5 0 ⟨0,0,none,.own (.s 1 o)⟩],fun s_=>match s_ with|(i,o)=>0<=i/\i<=(sp.length:Int)/\Qw sp i o,fun s_=>match s_ with|(i,o)=>sp.length-i.toNat,⟨(0,[]),?_,?_⟩,?_⟩;rotate_left;(focus (cbv;done));intro s_ hi;obtain⟨i,o⟩:=s_;replace hi:0<=i/\i<=(sp.length:Int)/\Qw sp i o:=hi;obtain⟨i0,i1,i2⟩:=hi;cbv)|(refine⟨[1,5,7,8,16,17,18],[5,7],Int×af,fun s_=>match s_ with|(k,o1)=>[.reg 8 (.j k),.reg 5 (.one (.vw 5 0 0 0 (O.ln o1))),.leaf 5 0 ⟨0,0,none,.own (.s 1 o1)⟩],fun s_=>match s_ with|(k,o1)=>0<=k/\k<=slN (ag sp i 1)/\JG sp i k o1,fun s_=>match s_ with|(k,o1)=>(slN (ag sp i 1)-k).toNat,⟨(0,o),?_,?_⟩,?_⟩;rotate_left;(focus (cbv;done));intro s_ hk;obtain⟨k,o1⟩:=s_;replace hk:0<=k/\k<=slN (ag sp i 1)/\JG sp i k o1:=hk;obtain⟨k0,k1,k2⟩:=hk;cbv)|(refine⟨[5,40,41,42],[5],Int×af,fun s_=>match s_ with|(j,o2)=>[.reg 42 (.j j),.reg 5 (.one (.vw 5 0 0 0 (O.ln o2))),.leaf 5 0 ⟨0,0,none,.own (.s 1 o2)⟩],fun s_=>match s_ with|(j,o2)=>0<=j/\j<=(lg.length:Int)/\LF sp lg j o2,fun s_=>match s_ with|(j,o2)=>lg.length-j.toNat,⟨(0,o),?_,?_⟩,?_⟩;rotate_left;(focus (cbv;done));intro s_ hj;obtain⟨j,o2⟩:=s_;replace hj:0<=j/\j<=(lg.length:Int)/\LF sp lg j o2:=hj;obtain⟨j0,j1,j2⟩:=hj;cbv)|(refine ah (O.ar .add Za k 1,O.cat o1 (O.sub [[.i (F.aaI (O.gi sp i 0) (O.gi sp i 1) (O.gi sp i 2) k)]] 0 (O.ln [[.i (F.aaI (O.gi sp i 0) (O.gi sp i 1) (O.gi sp i 2) k)]]))) ?_ ?_ ?_;focus (cbv;done))|(refine ah (O.ar .add Za k 1,o1) ?_ ?_ ?_;focus (cbv;done))|(refine ah (O.ar .add Za i 1,o1) ?_ ?_ ?_;focus (cbv;done))|(refine ah (O.ar .add Za j 1,O.cat o2 (O.sub [[.i (O.ar .mul Za (O.gi lg j 0) 16)]] 0 (O.ln [[.i (O.ar .mul Za (O.gi lg j 0) 16)]]))) ?_ ?_ ?_;focus (cbv;done))
 all_goals(subst hO hr hF;(try simp only[nc]at*);(try simp only[am,SS,sa,az]at*);(try rw[cJ (by omega) (by omega)]);(try have z1:=ad4 (sp:=sp) (lg:=lg) (i:=i) (by assumption) i0 (by assumption));(try have z6:bK .add Za k 1=k+1:=bT (by omega));(try simp only[z6]at*);(try have z7:=adf (sp:=sp) (lg:=lg) (j:=j) (by assumption) j0 (by assumption));(try have z8:bK .mul Za (ag lg j 0) 16=ag lg j 0*16:=CL (by omega));(try simp only[z8]at*))
 all_goals first
  | (show(_:List DV)=_
     first
      |(refine rT ?_;exact acR (by assumption))
      |(refine rT ?_;exact Ow j2 j1 (by assumption) (by assumption))
      |done)
  |omega
  |exact fg
  |(show aw _ _=true;kernel_rfl)
  |exact scal_one
  |exact⟨hs,hl,ns,nl⟩
  |exact SE j2 (by omega) (by omega)
  |(have q:=Ou k2;constructor<;>(simp only[Zr,Zt];omega))
  |(have q:=HA j2;constructor<;>(simp only[Zr,Zt];omega))
  |exact Ov k2 k0 (by assumption)
  |exact SD k2 k0 (by assumption)
  |exact Ot k2 i0 k1 (by assumption) z1
  |exact acS i2
  |exact acT i2 i1 (by assumption)
  |exact SF j2 j0 z7
  |exact acQ
  |exact Bn
  |exact⟨Zd,Bn.symm⟩
  |exact⟨Zd,Zd⟩
  |exact Zd
  |done
def gS:EC:=fun F=>fun
 |[.agg [.v (.int Za d0),.v (.int Za d1),.v (.int Za d2)],.ptr [.v (.int Za ad)]]=>some (fun _=>True,[.k (F.eqB d0 ad)])
 |_=>none
theorem p7:ec 340 gS:=by
 intro _ _ _ h hp;dsimp only[gS,F0]at h;split at h<;>cases h
 rename_i d0 d1 d2 ad;refine cb nB Tryz.func340 ?_
 exact ab7
abbrev Lg1:dB:=eg (fun F f=>match f with|340=>gS F|_=>fun _=>none) (by
 intro f;dsimp only;split;exact p7;exact dI)
def aX:EC:=fun F=>fun
 |[.one (.s 3 os),.fn 340 [[.v (.int Za id)]]]=>some (fun _=>Rw [tI,tI,tI] os/\os.length<=1099511627776,[.j (F.qtI os id)])
 |_=>none
theorem cg:ec 383 aX:=by
 intro _ _ _ h hp;dsimp only[aX,F0]at h;split at h<;>cases h
 rename_i os id;obtain⟨hw,hn⟩:=hp;refine cb Lg1 Tryz.func383 ?_
 intro O r F hO hr hF;cbv
 repeat' first|apply Zb|(apply b8<;>intro hb<;>cbv)|(refine⟨[0,1,7,8],[0],Int,fun i=>[.reg 8 (.j i)],fun i=>0<=i/\i<=((os.length:Nat):Int)/\upto (bR (xy os id)) i,fun i=>(os.length)-i.toNat,⟨0,?_,?_⟩,?_⟩;rotate_left;(focus (cbv;done));intro i hi;replace hi:0<=i/\i<=((os.length:Nat):Int)/\upto (bR (xy os id)) i:=hi;obtain⟨i0,i1,i2⟩:=hi;cbv)|(refine ah (O.ar .add Za i 1) ?_ ?_ ?_;focus (cbv;done))
 all_goals(subst hO hr hF;(try simp only[nc]at*);(try simp only[am,SS,sa,az]at*);(try rw[cJ (by omega) (by omega)]))
 all_goals first
  | (show(_:List DV)=_
     first
      |exact bV (dE i2 i0 (by assumption) (show xy os id i=true from by assumption)).symm
      |exact bV (dF i2 (by assumption)).symm
      |done)
  |omega
  |exact fg
  |(show(lk _ _).isSome=true;kernel_rfl)
  |exact bD
  |exact aU i2 (fX (show xy os id i=false from by assumption))
  |done
abbrev Lg2:dB:=eg (fun F f=>match f with|383=>aX F|_=>fun _=>none) (by
 intro f;dsimp only;split;exact cg;exact dI)
def aS:EC:=fun F=>fun
 |[.one (.s 3 os),.fn 340 [[.v (.int Za id)]]]=>some (fun _=>Rw [tI,tI,tI] os/\os.length<=1099511627776,[.k (F.qtB os id)])
 |_=>none
theorem bZ:ec 339 aS:=by
 intro _ _ _ h hp;dsimp only[aS,F0]at h;split at h<;>cases h
 rename_i os id;refine cb Lg2 Tryz.func339 ?_
 intro O r F hO hr hF;cbv
 repeat' first|apply Zb|(apply b8<;>intro hb<;>cbv)
 all_goals(subst hO hr hF;(try simp only[nc]at*);(try simp only[am,SS,sa,az]at*))
 all_goals first
  | (show(_:List DV)=_
     first
      |exact aj (fU (by unfold qtB;simp only[SS,VM]))
      |done)
  |exact hp
  |done
abbrev Lg3:dB:=eg (fun F f=>match f with|339=>aS F|_=>fun _=>none) (by
 intro f;dsimp only;split;exact bZ;exact dI)
def gq:EC:=fun F=>fun
 |[.one (.s 3 os),.one (.v (.int Za id))]=>some (fun _=>Rw [tI,tI,tI] os/\os.length<=1099511627776,[.k (F.qtB os id)])
 |_=>none
theorem mJ:ec 271 gq:=by
 intro _ _ _ h hp;dsimp only[gq,F0]at h;split at h<;>cases h
 rename_i os id;refine cb Lg3 Tryz.func271 ?_
 exact ab9
abbrev Lg4:dB:=eg (fun F f=>match f with|271=>gq F|_=>fun _=>none) (by
 intro f;dsimp only;split;exact mJ;exact dI)
def jW:EC:=fun F=>fun
 |[.agg [.v (.int Za rm),.s 3 os],.one (.v (.int Za id))]=>some (fun _=>Rw [tI,tI,tI] os/\os.length<=1099511627776,[.k (F.qtB os id)])
 |_=>none
theorem uT:ec 16 jW:=by
 intro _ _ _ h hp;dsimp only[jW,F0]at h;split at h<;>cases h
 rename_i rm os id;obtain⟨hw,hn⟩:=hp;have hm:=hw.1;unfold maxLen at hm;refine cb Lg4 Tryz.func16 ?_
 intro O r F hO hr hF;cbv
 repeat' first|apply Zb|(apply b8<;>intro hb<;>cbv)|(refine⟨[1,2,5],[2],Int,fun i=>[.reg 5 (.j i)],fun i=>0<=i/\i<=((os.length:Nat):Int)/\upto (bR (xy os id)) i,fun i=>(os.length)-i.toNat,⟨0,?_,?_⟩,?_⟩;rotate_left;(focus (cbv;done));intro i hi;replace hi:0<=i/\i<=((os.length:Nat):Int)/\upto (bR (xy os id)) i:=hi;obtain⟨i0,i1,i2⟩:=hi;cbv)|(refine ah (O.ar .add Za i 1) ?_ ?_ ?_;focus (cbv;done))
 all_goals(subst hO hr hF;(try simp only[nc]at*);(try simp only[am,SS,sa,az]at*);(try rw[cJ (by omega) (by omega)]))
 all_goals first
  | (show(_:List DV)=_
     first
      |(refine aj ?_;symm;exact PL i2 i0 (by assumption) (by assumption))
      |(refine aj ?_;symm;exact aaA i2 (by omega))
      |done)
  |omega
  |exact fg
  |exact bD
  |exact aU i2 (fX (show xy os id i=false from sJ (by assumption)))
  |done
abbrev Li1:dB:=eg (fun F f=>match f with|33=>ai F|92=>ai F|_=>fun _=>none) (by
 intro f;dsimp only;split;exact aP;exact bc;exact dI)
def dK:EC:=fun F=>fun
 |[.agg [.s 1 b,.s 1 x]]=>some (fun _=>Ju b x,[.k (F.mailOk b x)])
 |_=>none
theorem o8:ec 64 dK:=by
 intro _ _ _ h hp;dsimp only[dK,F0]at h;split at h<;>cases h
 rename_i b x;have hbw:=hp.bw;have hxw:=hp.xw;have hbl:=hp.bl;have hxl:=hp.xl;have hsb:bK .sub Za (b.length:Int) 1=b.length-1:=fG (by omega);refine cb Li1 Tryz.func64 ?_
 intro O r F hO hr hF;cbv
 repeat' first|apply Zb|(apply b8<;>intro hb<;>cbv)|(refine⟨[1,3,4,25,26],[1],Int×Int,fun s_=>match s_ with|(i,t)=>[.reg 26 (.j i),.reg 4 (.j t)],fun s_=>match s_ with|(i,t)=>0<=i/\i<=(b.length:Int)/\JL b x i t,fun s_=>match s_ with|(i,t)=>b.length-i.toNat,⟨(0,0),?_,?_⟩,?_⟩;rotate_left;(focus (cbv;done));intro s_ hi;obtain⟨i,t⟩:=s_;replace hi:0<=i/\i<=(b.length:Int)/\JL b x i t:=hi;obtain⟨i0,i1,i2⟩:=hi;cbv)|(refine⟨[1,3,4,5,25,26,33,34,35],[1],Int,fun k=>[.reg 35 (.j k)],fun k=>0<=k/\k<=(((ax b i 0).length:Nat):Int)/\upto (FM b i) k,fun k=>((ax b i 0).length)-k.toNat,⟨0,?_,?_⟩,?_⟩;rotate_left;(focus (cbv;done));intro k hk;replace hk:0<=k/\k<=(((ax b i 0).length:Nat):Int)/\upto (FM b i) k:=hk;obtain⟨k0,k1,k2⟩:=hk;cbv)|(refine ah (O.ar .add Za k 1) ?_ ?_ ?_;focus (cbv;done))|(refine⟨[1,3,4,5,25,26,55,56,57],[1],Int,fun j=>[.reg 57 (.j j)],fun j=>0<=j/\j<=(((ax x i 0).length:Nat):Int)/\upto (Gs x i) j,fun j=>((ax x i 0).length)-j.toNat,⟨0,?_,?_⟩,?_⟩;rotate_left;(focus (cbv;done));intro j hj;replace hj:0<=j/\j<=(((ax x i 0).length:Nat):Int)/\upto (Gs x i) j:=hj;obtain⟨j0,j1,j2⟩:=hj;cbv)|(refine ah (O.ar .add Za j 1) ?_ ?_ ?_;focus (cbv;done))|(refine ah (O.ar .add Za i 1,O.ar .add Za t (O.ar .add Za (O.zi (O.ln (O.gs b i 0))) (O.zi (O.ln (O.gs x i 0))))) ?_ ?_ ?_;focus (cbv;done))
 all_goals(subst hO hr hF;(try simp only[nc]at*);(try simp only[am,SS,sa,az]at*);(try simp only[hsb]at*);(try have y2:=hp.xn i);(try have y1:=hp.bn i);(try rw[cJ (by omega) (by omega)]);(try have z6:bK .add Za k 1=k+1:=bT (by omega));(try simp only[z6]at*);(try have z7:bK .add Za j 1=j+1:=bT (by omega));(try simp only[z7]at*);(try have q:=Tz hp i2 i0 (by have r:=bz.1 (by assumption:inR (b.length:Int) 1 4=true);omega));(try have z8:bK .add Za (((ax b i 0).length:Nat):Int) (((ax x i 0).length:Nat):Int)=((ax b i 0).length:Int)+(ax x i 0).length:=bT (by omega));(try simp only[z8]at*);(try have z9:bK .add Za t (((ax b i 0).length:Int)+(ax x i 0).length)=t+(((ax b i 0).length:Int)+(ax x i 0).length):=bT (by omega)))
 all_goals exact zq5
theorem pc:ec 206 dK:=by
 intro _ _ _ h hp;dsimp only[dK,F0]at h;split at h<;>cases h
 rename_i b x;have hbw:=hp.bw;have hxw:=hp.xw;have hbl:=hp.bl;have hxl:=hp.xl;have hsb:bK .sub Za (b.length:Int) 1=b.length-1:=fG (by omega);refine cb Li1 Tryz.func206 ?_
 intro O r F hO hr hF;cbv
 repeat' first|apply Zb|(apply b8<;>intro hb<;>cbv)|(refine⟨[1,3,4,5],[1],Int×Int,fun s_=>match s_ with|(i,t)=>[.reg 5 (.j i),.reg 4 (.j t)],fun s_=>match s_ with|(i,t)=>0<=i/\i<=(b.length:Int)/\JL b x i t,fun s_=>match s_ with|(i,t)=>b.length-i.toNat,⟨(0,0),?_,?_⟩,?_⟩;rotate_left;(focus (cbv;done));intro s_ hi;obtain⟨i,t⟩:=s_;replace hi:0<=i/\i<=(b.length:Int)/\JL b x i t:=hi;obtain⟨i0,i1,i2⟩:=hi;cbv)|(refine⟨[1,3,4,5,6],[1],Int,fun k=>[.reg 6 (.j k)],fun k=>0<=k/\k<=(((ax b i 0).length:Nat):Int)/\upto (FM b i) k,fun k=>((ax b i 0).length)-k.toNat,⟨0,?_,?_⟩,?_⟩;rotate_left;(focus (cbv;done));intro k hk;replace hk:0<=k/\k<=(((ax b i 0).length:Nat):Int)/\upto (FM b i) k:=hk;obtain⟨k0,k1,k2⟩:=hk;cbv)|(refine ah (O.ar .add Za k 1) ?_ ?_ ?_;focus (cbv;done))|(refine⟨[1,3,4,5,8],[1],Int,fun j=>[.reg 8 (.j j)],fun j=>0<=j/\j<=(((ax x i 0).length:Nat):Int)/\upto (Gs x i) j,fun j=>((ax x i 0).length)-j.toNat,⟨0,?_,?_⟩,?_⟩;rotate_left;(focus (cbv;done));intro j hj;replace hj:0<=j/\j<=(((ax x i 0).length:Nat):Int)/\upto (Gs x i) j:=hj;obtain⟨j0,j1,j2⟩:=hj;cbv)|(refine ah (O.ar .add Za j 1) ?_ ?_ ?_;focus (cbv;done))|(refine ah (O.ar .add Za i 1,O.ar .add Za (O.ar .add Za t (O.zi (O.ln (O.gs b i 0)))) (O.zi (O.ln (O.gs x i 0)))) ?_ ?_ ?_;focus (cbv;done))
 all_goals(subst hO hr hF;(try simp only[nc]at*);(try simp only[am,SS,sa,az]at*);(try simp only[hsb]at*);(try have y2:=hp.xn i);(try have y1:=hp.bn i);(try rw[cJ (by omega) (by omega)]);(try have z6:bK .add Za k 1=k+1:=bT (by omega));(try simp only[z6]at*);(try have z7:bK .add Za j 1=j+1:=bT (by omega));(try simp only[z7]at*);(try have q:=Tz hp i2 i0 (by have r:=bz.1 (by assumption:inR (b.length:Int) 1 4=true);omega));(try have z8:bK .add Za t (((ax b i 0).length:Nat):Int)=t+((ax b i 0).length:Int):=bT (by omega));(try simp only[z8]at*);(try have z9:bK .add Za (t+((ax b i 0).length:Int)) (((ax x i 0).length:Nat):Int)=t+(((ax b i 0).length:Int)+(ax x i 0).length):=(bT (by omega)).trans (by omega)))
 all_goals exact zq5
abbrev Lj1:dB:=eg (fun F f=>match f with|64=>dK F|206=>dK F|_=>fun _=>none) (by
 intro f;dsimp only;split;exact o8;exact pc;exact dI)
def dZ:EC:=fun F=>fun
 |[.agg [.s 1 b,.s 1 x]]=>some (fun _=>Ju b x,[.one (.s 1 (F.ifL b x))])
 |_=>none
theorem tj:ec 176 dZ:=by
 intro _ _ _ h hp;dsimp only[dZ,F0]at h;split at h<;>cases h
 rename_i b x;have hbw:=hp.bw;have hxw:=hp.xw;have hbl:=hp.bl;have hxl:=hp.xl;refine cb Lj1 Tryz.func176 ?_
 intro O r F hO hr hF;cbv
 repeat' first|apply Zb|(apply b8<;>intro hb<;>cbv)|(refine⟨[1,3,15,16,17],[1,3],Int×af,fun s_=>match s_ with|(i,o)=>[.reg 17 (.j i),.reg 3 (.one (.vw 3 0 0 0 (O.ln o))),.leaf 3 0 ⟨0,0,none,.own (.s 1 o)⟩],fun s_=>match s_ with|(i,o)=>0<=i/\i<=(b.length:Int)/\LA b i o,fun s_=>match s_ with|(i,o)=>b.length-i.toNat,⟨(0,[]),?_,?_⟩,?_⟩;rotate_left;(focus (cbv;done));intro s_ hi;obtain⟨i,o⟩:=s_;replace hi:0<=i/\i<=(b.length:Int)/\LA b i o:=hi;obtain⟨i0,i1,i2⟩:=hi;cbv)|(refine⟨[1,3,15,16,17,21,22,23],[1,3],Int×af,fun s_=>match s_ with|(k,o1)=>[.reg 23 (.j k),.reg 3 (.one (.vw 3 0 0 0 (O.ln o1))),.leaf 3 0 ⟨0,0,none,.own (.s 1 o1)⟩],fun s_=>match s_ with|(k,o1)=>0<=k/\k<=((ax b i 0).length:Int)/\LB b i k o1,fun s_=>match s_ with|(k,o1)=>(ax b i 0).length-k.toNat,⟨(0,o),?_,?_⟩,?_⟩;rotate_left;(focus (cbv;done));intro s_ hk;obtain⟨k,o1⟩:=s_;replace hk:0<=k/\k<=((ax b i 0).length:Int)/\LB b i k o1:=hk;obtain⟨k0,k1,k2⟩:=hk;cbv)|(refine⟨[3,35,36,37],[3],Int×af,fun s_=>match s_ with|(j,o2)=>[.reg 37 (.j j),.reg 3 (.one (.vw 3 0 0 0 (O.ln o2))),.leaf 3 0 ⟨0,0,none,.own (.s 1 o2)⟩],fun s_=>match s_ with|(j,o2)=>0<=j/\j<=(x.length:Int)/\LC b x j o2,fun s_=>match s_ with|(j,o2)=>x.length-j.toNat,⟨(0,o),?_,?_⟩,?_⟩;rotate_left;(focus (cbv;done));intro s_ hj;obtain⟨j,o2⟩:=s_;replace hj:0<=j/\j<=(x.length:Int)/\LC b x j o2:=hj;obtain⟨j0,j1,j2⟩:=hj;cbv)|(refine ah (O.ar .add Za k 1,O.cat o1 (O.sub [[.i (O.gi (O.gs b i 0) k 1)]] 0 (O.ln [[.i (O.gi (O.gs b i 0) k 1)]]))) ?_ ?_ ?_;focus (cbv;done))|(refine ah (O.ar .add Za i 1,o1) ?_ ?_ ?_;focus (cbv;done))|(refine ah (O.ar .add Za j 1,O.cat o2 (O.gs x j 0)) ?_ ?_ ?_;focus (cbv;done))
 all_goals(subst hO hr hF;(try simp only[nc]at*);(try simp only[am,SS,sa,az]at*);(try rw[cJ (by omega) (by omega)]))
 all_goals exact zq4
theorem tF:ec 306 dZ:=by
 intro _ _ _ h hp;dsimp only[dZ,F0]at h;split at h<;>cases h
 rename_i b x;have hbw:=hp.bw;have hxw:=hp.xw;have hbl:=hp.bl;have hxl:=hp.xl;refine cb Lj1 Tryz.func306 ?_
 intro O r F hO hr hF;cbv
 repeat' first|apply Zb|(apply b8<;>intro hb<;>cbv)|(refine⟨[1,3,4],[1,3],Int×af,fun s_=>match s_ with|(i,o)=>[.reg 4 (.j i),.reg 3 (.one (.vw 3 0 0 0 (O.ln o))),.leaf 3 0 ⟨0,0,none,.own (.s 1 o)⟩],fun s_=>match s_ with|(i,o)=>0<=i/\i<=(b.length:Int)/\LA b i o,fun s_=>match s_ with|(i,o)=>b.length-i.toNat,⟨(0,[]),?_,?_⟩,?_⟩;rotate_left;(focus (cbv;done));intro s_ hi;obtain⟨i,o⟩:=s_;replace hi:0<=i/\i<=(b.length:Int)/\LA b i o:=hi;obtain⟨i0,i1,i2⟩:=hi;cbv)|(refine⟨[1,3,4,5],[1,3],Int×af,fun s_=>match s_ with|(k,o1)=>[.reg 5 (.j k),.reg 3 (.one (.vw 3 0 0 0 (O.ln o1))),.leaf 3 0 ⟨0,0,none,.own (.s 1 o1)⟩],fun s_=>match s_ with|(k,o1)=>0<=k/\k<=((ax b i 0).length:Int)/\LB b i k o1,fun s_=>match s_ with|(k,o1)=>(ax b i 0).length-k.toNat,⟨(0,o),?_,?_⟩,?_⟩;rotate_left;(focus (cbv;done));intro s_ hk;obtain⟨k,o1⟩:=s_;replace hk:0<=k/\k<=((ax b i 0).length:Int)/\LB b i k o1:=hk;obtain⟨k0,k1,k2⟩:=hk;cbv)|(refine⟨[1,3,6],[1,3],Int×af,fun s_=>match s_ with|(j,o2)=>[.reg 6 (.j j),.reg 3 (.one (.vw 3 0 0 0 (O.ln o2))),.leaf 3 0 ⟨0,0,none,.own (.s 1 o2)⟩],fun s_=>match s_ with|(j,o2)=>0<=j/\j<=(x.length:Int)/\LC b x j o2,fun s_=>match s_ with|(j,o2)=>x.length-j.toNat,⟨(0,o),?_,?_⟩,?_⟩;rotate_left;(focus (cbv;done));intro s_ hj;obtain⟨j,o2⟩:=s_;replace hj:0<=j/\j<=(x.length:Int)/\LC b x j o2:=hj;obtain⟨j0,j1,j2⟩:=hj;cbv)|(refine ah (O.ar .add Za k 1,O.cat o1 (O.sub [[.i (O.gi (O.gs b i 0) k 1)]] 0 (O.ln [[.i (O.gi (O.gs b i 0) k 1)]]))) ?_ ?_ ?_;focus (cbv;done))|(refine ah (O.ar .add Za i 1,o1) ?_ ?_ ?_;focus (cbv;done))|(refine ah (O.ar .add Za j 1,O.cat o2 (O.gs x j 0)) ?_ ?_ ?_;focus (cbv;done))
 all_goals(subst hO hr hF;(try simp only[nc]at*);(try simp only[am,SS,sa,az]at*);(try rw[cJ (by omega) (by omega)]);(try have z9:bK .add Za j 1=j+1:=bT (by omega));(try have z8:bK .add Za i 1=i+1:=bT (by omega));(try simp only[z9]at*);(try simp only[z8]at*))
 all_goals exact zq4
end Go.V