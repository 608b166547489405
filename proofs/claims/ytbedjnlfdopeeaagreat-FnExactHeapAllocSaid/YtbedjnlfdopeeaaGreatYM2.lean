/- Contracts. -/
import Derived.Test.YtbedjnlfdopeeaaGreatYM0
set_option linter.all false
open Go
open And renaming intro->Zb
open IntKind renaming i64->Za
open List renaming length_cons->Zp,length_nil->Zs
open True renaming intro->Zf
namespace Go.V
open Go Go.Proofs
set_option maxRecDepth 1000000
set_option maxHeartbeats 8000000
abbrev La0:cZ:=eK (fun F f=>match f with|193=>dN F|84=>bD F|28=>aj F|_=>fun _=>none) (by
 intro f;dsimp only;split;exact fA;exact dA;exact bi;exact db)
def bV:EC:=fun F=>fun
 |[.one (.v (.int Za k))]=>some (fun _=>True,[.j (F.slN k)])
 |_=>none
theorem fy:ec 290 bV:=by
 intro _ _ _ h hp;dsimp only[bV,F0]at h;split at h<;>cases h
 rename_i k;refine cb La0 Tryz.func290 ?_
 intro O r F hO hr hF;cbv
 repeat' first|apply Zb|(apply bG<;>intro hb<;>cbv)
 all_goals(subst hO hr hF;(try simp only[nc]at*);(try simp only[ai,SS,sa,az]at*))
 all_goals first
  | (show(_:List DV)=_
     first
      |exact cv (Ni (by assumption))
      |exact cv (HW (by assumption)).symm
      |done)
  |(have:=j8 (k:=k) (by assumption);omega)
  |done
theorem iO:ec 333 bV:=by
 intro _ _ _ h hp;dsimp only[bV,F0]at h;split at h<;>cases h
 rename_i k;refine cb La0 Tryz.func333 ?_
 intro O r F hO hr hF;cbv
 repeat' first|apply Zb|(apply bG<;>intro hb<;>cbv)
 all_goals(subst hO hr hF;(try simp only[nc]at*);(try simp only[ai,SS,sa,az]at*))
 all_goals first
  | (show(_:List DV)=_
     first
      |exact cv (Nj (by assumption))
      |exact cv (HW (by assumption)).symm
      |done)
  |(rcases Lb (k:=k) (by assumption)with rfl|rfl|rfl|rfl<;>decide)
  |done
abbrev La1:cZ:=eK (fun F f=>match f with|41=>aj F|28=>aj F|_=>fun _=>none) (by
 intro f;dsimp only;split;exact bc;exact bi;exact db)
def dk:EC:=fun F=>fun
 |[.one (.v (.int Za n)),.one (.v (.int Za b))]=>some (fun _=>True,[.k (F.bmOk n b)])
 |_=>none
theorem pJ:ec 316 dk:=by
 intro _ _ _ h hp;dsimp only[dk,F0]at h;split at h<;>cases h
 rename_i n b;refine cb La1 Tryz.func316 ?_
 intro O r F hO hr hF;cbv
 repeat' first|apply Zb|(apply bG<;>intro hb<;>cbv)
 all_goals(subst hO hr hF;(try simp only[nc]at*);(try simp only[ai,SS,sa,az]at*);(try(have e:=Nh (n:=n) (by assumption);simp only[e.1])))
 all_goals first
  | (show(_:List DV)=_
     first
      |exact ak (KT (by assumption)).symm
      |exact ak (Qu (by assumption)).symm
      |done)
  |(have:=bA.1 (‹inR n 1 16=true›);omega)
  |done
theorem pT:ec 332 dk:=by
 intro _ _ _ h hp;dsimp only[dk,F0]at h;split at h<;>cases h
 rename_i n b;refine cb La1 Tryz.func332 ?_
 intro O r F hO hr hF;cbv
 repeat' first|apply Zb|(apply bG<;>intro hb<;>cbv)
 all_goals(subst hO hr hF;(try simp only[nc]at*);(try simp only[ai,SS,sa,az]at*);(try(have e:=Nh (n:=n) (by assumption);simp only[e.2.1])))
 all_goals first
  | (show(_:List DV)=_
     first
      |exact ak (KT (by assumption)).symm
      |exact ak (Qu (by assumption)).symm
      |done)
  |exact(Nh (by assumption)).2.2
  |done
abbrev La2:cZ:=eK (fun F f=>match f with|41=>aj F|193=>dN F|290=>bV F|316=>dk F|28=>aj F|333=>bV F|332=>dk F|_=>fun _=>none) (by
 intro f;dsimp only;split;exact bc;exact fA;exact fy;exact pJ;exact bi;exact iO;exact pT;exact db)
def co:EC:=fun F=>fun
 |[.agg [.v (.int Za p),.v (.int Za k),.v (.int Za b)]]=>some (fun _=>True,[.k (F.spOk p k b)])
 |_=>none
theorem j3:ec 227 co:=by
 intro _ _ _ h hp;dsimp only[co,F0]at h;split at h<;>cases h
 rename_i p k b;refine cb La2 Tryz.func227 ?_
 intro O r F hO hr hF;cbv
 repeat' first|apply Zb|(apply bG<;>intro hb<;>cbv)
 all_goals(subst hO hr hF;(try simp only[nc]at*);(try simp only[ai,SS,sa,az]at*))
 all_goals first
  | (show(_:List DV)=_
     first
      |exact ak (Nm (by assumption)).symm
      |exact ak (Nl (by assumption)).symm
      |exact ak (aaV (by assumption)).symm
      |done)
  |(show aP _ _=true;kernel_rfl)
  |done
theorem ia:ec 259 co:=by
 intro _ _ _ h hp;dsimp only[co,F0]at h;split at h<;>cases h
 rename_i p k b;refine cb La2 Tryz.func259 ?_
 intro O r F hO hr hF;cbv
 repeat' first|apply Zb|(apply bG<;>intro hb<;>cbv)
 all_goals(subst hO hr hF;(try simp only[nc]at*);(try simp only[ai,SS,sa,az]at*))
 all_goals first
  | (show(_:List DV)=_
     first
      |exact ak (Nm (by assumption)).symm
      |exact ak (Nl (by assumption)).symm
      |done)
  |(show aP _ _=true;kernel_rfl)
  |done
def dp:EC:=fun F=>fun
 |[.one (.v (.int Za s))]=>some (fun _=>True,[.j (F.pfN s)])
 |_=>none
theorem pO:ec 205 dp:=by
 intro _ _ _ h hp;dsimp only[dp,F0]at h;split at h<;>cases h
 rename_i s;refine cb La1 Tryz.func205 ?_
 exact afL
theorem pW:ec 286 dp:=by
 intro _ _ _ h hp;dsimp only[dp,F0]at h;split at h<;>cases h
 rename_i s;refine cb La1 Tryz.func286 ?_
 exact afL
abbrev La3:cZ:=eK (fun F f=>match f with|41=>aj F|205=>dp F|286=>dp F|28=>aj F|_=>fun _=>none) (by
 intro f;dsimp only;split;exact bc;exact pO;exact pW;exact bi;exact db)
def dM:EC:=fun F=>fun
 |[.agg [.v (.int Za p),.v (.int Za n),.v (.int Za s)]]=>some (fun _=>True,[.k (F.lgOk p n s)])
 |_=>none
theorem qD:ec 228 dM:=by
 intro _ _ _ h hp;dsimp only[dM,F0]at h;split at h<;>cases h
 rename_i p n s;refine cb La3 Tryz.func228 ?_
 intro O r F hO hr hF;cbv
 repeat' first|apply Zb|(apply bG<;>intro hb<;>cbv)
 all_goals(subst hO hr hF;(try simp only[nc]at*);(try simp only[ai,SS,sa,az]at*))
 all_goals first
  | (show(_:List DV)=_
     first
      |(have b:=mX (s:=s) (by assumption);rw[show bO .sub Za 32 n=32-n from di (by omega)];exact ak (Mb (by assumption) (by assumption)).symm)
      |exact ak (L9 (by assumption)).symm
      |exact ak (Ma (by assumption)).symm
      |done)
  |(show aP _ _=true;kernel_rfl)
  |done
theorem qH:ec 261 dM:=by
 intro _ _ _ h hp;dsimp only[dM,F0]at h;split at h<;>cases h
 rename_i p n s;refine cb La3 Tryz.func261 ?_
 intro O r F hO hr hF;cbv
 repeat' first|apply Zb|(apply bG<;>intro hb<;>cbv)
 all_goals(subst hO hr hF;(try simp only[nc]at*);(try simp only[ai,SS,sa,az]at*))
 all_goals first
  | (show(_:List DV)=_
     first
      |(have q:=MO.1 (‹0<pfN s›);have b:=mX q;rw[show bO .sub Za 32 (pfN s)=32-pfN s from di (by omega), ‹n=pfN s›];exact ak (Mb q rfl).symm)
      |(refine ak (L9 ?_).symm;cases q:inR s 9 1000;rfl;have:=MO.2 q;omega)
      |exact ak (Ma (by assumption)).symm
      |done)
  |done
abbrev La4:cZ:=eK (fun F f=>match f with|41=>aj F|227=>co F|84=>bD F|290=>bV F|228=>dM F|259=>co F|183=>bD F|261=>dM F|_=>fun _=>none) (by
 intro f;dsimp only;split;exact bc;exact j3;exact dA;exact fy;exact qD;exact ia;exact d8;exact qH;exact db)
def nI:EC:=fun F=>fun
 |[.agg [.v (.int Za p),.v (.int Za k),.v (.int Za b)],.one (.v (.int Za a))]=>some (fun _=>True,[.j (F.saS p k b a),.j (F.saO p k b a)])
 |_=>none
theorem Br:ec 241 nI:=by
 intro _ _ _ h hp;dsimp only[nI,F0]at h;split at h<;>cases h
 rename_i p k b a;refine cb La4 Tryz.func241 ?_
 intro O r F hO hr hF;cbv
 repeat' first|apply Zb|(apply bG<;>intro hb<;>cbv)
 all_goals(subst hO hr hF;(try simp only[nc]at*);(try simp only[ai,SS,sa,az]at*);(try(have t:=oz (p:=p) (k:=k) (b:=b) (by assumption);have c:=j8 t.2.2.1;have e:=adU (p:=p) ⟨t.1,t.2.1⟩;try simp only[e.1,e.2]at*)))
 all_goals first
  | (show(_:List DV)=_
     first
      |(have q:=PE (p:=p) (k:=k) (b:=b) (a:=a) (by assumption) (by assumption);exact sE q.1.symm q.2.symm)
      |(have q:=CR (RH (p:=p) (k:=k) (b:=b) (a:=a) (by assumption));exact sE q.1.symm q.2.symm)
      |(have q:=CR (aez (p:=p) (k:=k) (b:=b) (a:=a) (by assumption));exact sE q.1.symm q.2.symm)
      |done)
  |(show aP _ _=true;kernel_rfl)
  |omega
  |done
def nZ:EC:=fun F=>fun
 |[.agg [.v (.int Za p),.v (.int Za k),.v (.int Za b)],.one (.v (.int Za a))]=>some (fun _=>NS a,[.j (F.saS p k b a),.j (F.saO p k b a)])
 |_=>none
theorem BS:ec 213 nZ:=by
 intro _ _ _ h hp;dsimp only[nZ,F0]at h;split at h<;>cases h
 rename_i p k b a;refine cb La4 Tryz.func213 ?_
 intro O r F hO hr hF;cbv
 repeat' first|apply Zb|(apply bG<;>intro hb<;>cbv)
 all_goals(subst hO hr hF;(try simp only[nc]at*);(try simp only[ai,SS,sa,az]at*);(try(have t:=oz (p:=p) (k:=k) (b:=b) (by assumption);have c:=j8 t.2.2.1)))
 all_goals first
  | (show(_:List DV)=_
     first
      |(have q:=PF (p:=p) (k:=k) (b:=b) (a:=a) (by assumption) (by omega) (by assumption) (by omega);exact sE q.1.symm q.2.symm)
      |(have q:=CR (RH (p:=p) (k:=k) (b:=b) (a:=a) (by assumption));exact sE q.1.symm q.2.symm)
      |(have q:=CR (RI (p:=p) (k:=k) (b:=b) (a:=a) (.inl (by omega)) (by omega));exact sE q.1.symm q.2.symm)
      |(have q:=CR (RI (p:=p) (k:=k) (b:=b) (a:=a) (.inr (by assumption)) (by omega));exact sE q.1.symm q.2.symm)
      |done)
  |(show aP _ _=true;kernel_rfl)
  |omega
  |done
def cR:EC:=fun F=>fun
 |[.agg [.v (.int Za p),.v (.int Za k),.v (.int Za b)],.one (.v (.int Za s))]=>some (fun _=>True,[.j (F.aaI p k b s)])
 |_=>none
theorem ku:ec 294 cR:=by
 intro _ _ _ h hp;dsimp only[cR,F0]at h;split at h<;>cases h
 rename_i p k b s;refine cb La4 Tryz.func294 ?_
 intro O r F hO hr hF;cbv
 repeat' first|apply Zb|(apply bG<;>intro hb<;>cbv)
 all_goals(subst hO hr hF;(try simp only[nc]at*);(try simp only[ai,SS,sa,az]at*);(try(have t:=oz (p:=p) (k:=k) (b:=b) (by assumption);have c:=j8 t.2.2.1;have e:bO .sub Za (slN k) 1=slN k-1:=di (by omega);try simp only[e]at*)))
 all_goals first
  | (show(_:List DV)=_
     first
      |exact cv (KH (by assumption) (by assumption))
      |exact cv (Il (.inl (by assumption))).symm
      |exact cv (Il (.inr (by assumption))).symm
      |done)
  |(show aP _ _=true;kernel_rfl)
  |done
def dn:EC:=fun F=>fun
 |[.agg [.v (.int Za p),.v (.int Za n),.v (.int Za s)],.one (.v (.int Za a))]=>some (fun _=>True,[.k (F.lhB p n s a)])
 |_=>none
theorem pM:ec 243 dn:=by
 intro _ _ _ h hp;dsimp only[dn,F0]at h;split at h<;>cases h
 rename_i p n s a;refine cb La4 Tryz.func243 ?_
 intro O r F hO hr hF;cbv
 repeat' first|apply Zb|(apply bG<;>intro hb<;>cbv)
 all_goals(subst hO hr hF;(try simp only[nc]at*);(try simp only[ai,SS,sa,az]at*);(try(have e:=Mc (p:=p) (n:=n) (s:=s) (by assumption);try simp only[e.2.2])))
 all_goals first
  | (show(_:List DV)=_
     first
      |(rw[e.1];exact ak (HA (by assumption)).symm)
      |exact ak (Md (by assumption)).symm
      |done)
  |done
theorem pV:ec 334 dn:=by
 intro _ _ _ h hp;dsimp only[dn,F0]at h;split at h<;>cases h
 rename_i p n s a;refine cb La4 Tryz.func334 ?_
 intro O r F hO hr hF;cbv
 repeat' first|apply Zb|(apply bG<;>intro hb<;>cbv)
 all_goals(subst hO hr hF;(try simp only[nc]at*);(try simp only[ai,SS,sa,az]at*);(try(have e:=Mc (p:=p) (n:=n) (s:=s) (by assumption);try simp only[e.1]at*)))
 all_goals first
  | (show(_:List DV)=_
     first
      |exact ak (Md (by assumption)).symm
      |(refine ak (hE ?_);rw[HA (by assumption),bA];simp only[SS,dB,VQ];omega)
      |(refine ak (hE ?_);rw[HA (by assumption),bA];simp only[Bool.false_eq_true,false_iff];omega)
      |done)
  |done
abbrev La5:cZ:=eK (fun F f=>match f with|243=>dn F|334=>dn F|_=>fun _=>none) (by
 intro f;dsimp only;split;exact pM;exact pV;exact db)
def dD:EC:=fun F=>fun
 |[.agg [.v (.int Za p),.v (.int Za n),.v (.int Za s)],.one (.v (.int Za a))]=>some (fun _=>True,[.j (F.loI p n s a)])
 |_=>none
theorem sK:ec 244 dD:=by
 intro _ _ _ h hp;dsimp only[dD,F0]at h;split at h<;>cases h
 rename_i p n s a;refine cb La5 Tryz.func244 ?_
 exact afM
theorem sP:ec 335 dD:=by
 intro _ _ _ h hp;dsimp only[dD,F0]at h;split at h<;>cases h
 rename_i p n s a;refine cb La5 Tryz.func335 ?_
 exact afM
def fj:EC:=fun F=>fun
 |[.one (.s 1 l),.one (.v (.int Za x))]=>some (fun _=>Rw [tI] l,[.k (F.hasB l x)])
 |_=>none
theorem ic:ec 260 fj:=by
 intro _ _ _ h hp;dsimp only[fj,F0]at h;split at h<;>cases h
 rename_i l x;have hw:=hp;have hm:=hw.1;unfold maxLen at hm;refine cb nB Tryz.func260 ?_
 intro O r F hO hr hF;cbv
 repeat' first|apply Zb|(apply bG<;>intro hb<;>cbv)|(refine⟨[0,1,5],[],Int,fun i=>[.reg 5 (.j i)],fun i=>0<=i/\i<=((l.length:Nat):Int)/\upto (bT (Kn l x)) i,fun i=>(l.length)-i.toNat,⟨0,?_,?_⟩,?_⟩;rotate_left;(focus (cbv;done));intro i hi;replace hi:0<=i/\i<=((l.length:Nat):Int)/\upto (bT (Kn l x)) i:=hi;obtain⟨i0,i1,i2⟩:=hi;cbv)|(refine ag (O.ar .add Za i 1) ?_ ?_ ?_;focus (cbv;done))
 all_goals(subst hO hr hF;(try simp only[nc]at*);(try simp only[ai,SS,sa,az]at*);(try rw[cQ (by omega) (by omega)]))
 all_goals first
  | (show(_:List DV)=_
     first
      |(refine ak ?_;symm;rw[CB];exact⟨i.toNat,by omega,by rw[Int.toNat_of_nonneg i0];assumption⟩)
      |(refine ak ?_;symm;exact Tp i2 (by omega))
      |done)
  |omega
  |exact fU
  |exact bB
  |exact aV i2 (by unfold bT Kn;rw[wq (fun e=>absurd e.symm (by assumption))];rfl)
  |done
def iQ:EP:=fun F=>fun
 |[.one (.v (.int Za pg)),.mp [.own (.m true es)]]=>some (fun _=>True,[[.own (.m true (F.muT es pg))]],[.k (!(F.mgbI es pg))])
 |_=>none
theorem tq:ep 226 iQ:=by
 intro _ _ _ _ h hp;dsimp only[iQ,F0]at h;split at h<;>cases h
 rename_i pg es;refine pb nB Tryz.func226 ?_
 intro O r os F hO hr hos hF;cbv
 repeat' first|apply Zb|(apply bG<;>intro hb<;>cbv)
 all_goals((try subst hos);subst hO hr hF;(try simp only[nc]at*);(try simp only[ai,SS,sa,az]at*))
 all_goals first|(show(_:List DV)=_;exact rfl)|(show(_:List H)=_;exact rfl)|done
abbrev Lb1:cZ:=eK (fun F f=>match f with|259=>co F|261=>dM F|260=>fj F|_=>fun _=>none) (by
 intro f;dsimp only;split;exact ia;exact qH;exact ic;exact db)
def cV:EC:=fun F=>fun
 |[.one (.s 3 sp),.one (.s 3 lg)]=>some (fun _=>Rw [tI,tI,tI] sp/\Rw [tI,tI,tI] lg/\sp.length<=1073741824/\lg.length<=1073741824,[.k (F.layOk sp lg)])
 |_=>none
theorem ky:ec 166 cV:=by
 intro _ _ _ h hp;dsimp only[cV,F0]at h;split at h<;>cases h
 rename_i sp lg;obtain⟨hs,hl,ns,nl⟩:=hp;refine cb Lb1 Tryz.func166 ?_
 intro O r F hO hr hF;cbv
 repeat' first|apply Zb|(apply bG<;>intro hb<;>cbv)|(refine⟨[0,1,5,6],[5],Int×af,fun s_=>match s_ with|(i,o)=>[.reg 6 (.j i),.reg 5 (.one (.vw 5 0 0 0 (O.ln o))),.leaf 5 0 ⟨0,0,none,.own (.s 1 o)⟩],fun s_=>match s_ with|(i,o)=>0<=i/\i<=(sp.length:Int)/\N9 sp i o,fun s_=>match s_ with|(i,o)=>sp.length-i.toNat,⟨(0,[]),?_,?_⟩,?_⟩;rotate_left;(focus (cbv;done));intro s_ hi;obtain⟨i,o⟩:=s_;replace hi:0<=i/\i<=(sp.length:Int)/\N9 sp i o:=hi;obtain⟨i0,i1,i2⟩:=hi;cbv)|(refine⟨[1,5,7],[5],Int×af,fun s_=>match s_ with|(j,o1)=>[.reg 7 (.j j),.reg 5 (.one (.vw 5 0 0 0 (O.ln o1))),.leaf 5 0 ⟨0,0,none,.own (.s 1 o1)⟩],fun s_=>match s_ with|(j,o1)=>0<=j/\j<=(lg.length:Int)/\LlP sp lg j o1,fun s_=>match s_ with|(j,o1)=>lg.length-j.toNat,⟨(0,o),?_,?_⟩,?_⟩;rotate_left;(focus (cbv;done));intro s_ hj;obtain⟨j,o1⟩:=s_;replace hj:0<=j/\j<=(lg.length:Int)/\LlP sp lg j o1:=hj;obtain⟨j0,j1,j2⟩:=hj;cbv)|(refine⟨[1,5,7,8],[5],Int×af,fun s_=>match s_ with|(k,o2)=>[.reg 8 (.j k),.reg 5 (.one (.vw 5 0 0 0 (O.ln o2))),.leaf 5 0 ⟨0,0,none,.own (.s 1 o2)⟩],fun s_=>match s_ with|(k,o2)=>0<=k/\k<=ah lg j 1/\N8 sp lg j k o2,fun s_=>match s_ with|(k,o2)=>(ah lg j 1-k).toNat,⟨(0,o1),?_,?_⟩,?_⟩;rotate_left;(focus (cbv;done));intro s_ hk;obtain⟨k,o2⟩:=s_;replace hk:0<=k/\k<=ah lg j 1/\N8 sp lg j k o2:=hk;obtain⟨k0,k1,k2⟩:=hk;cbv)|(refine ag (O.ar .add Za k 1,O.cat o2 (O.sub [[.i (O.ar .add Za (O.gi lg j 0) k)]] 0 (O.ln [[.i (O.ar .add Za (O.gi lg j 0) k)]]))) ?_ ?_ ?_;focus (cbv;done))|(refine ag (O.ar .add Za j 1,o2) ?_ ?_ ?_;focus (cbv;done))|(refine ag (O.ar .add Za i 1,O.cat o (O.sub [[.i (O.gi sp i 0)]] 0 (O.ln [[.i (O.gi sp i 0)]]))) ?_ ?_ ?_;focus (cbv;done))
 all_goals(subst hO hr hF;(try simp only[nc]at*);(try simp only[ai,SS,sa,az]at*);(try rw[cQ (by omega) (by omega)]);(try have z:=(ada (k:=k) (by assumption) k0 (by assumption)));(try(obtain⟨z1,z2,z3,z4,z5⟩:=z));(try have z6:bO .add Za k 1=k+1:=bF (by omega));(try simp only[z3]at*);(try simp only[z6]at*))
 all_goals first
  | (show(_:List DV)=_
     first
      |(refine ak ?_;symm;exact IS i0 (by assumption) (by assumption))
      |(refine ak ?_;symm;exact aag i2 i0 (by assumption) (by assumption))
      |(refine ak ?_;symm;exact IT j0 (by assumption) (by assumption))
      |(refine ak ?_;symm;exact aac k2 j0 (by assumption) k0 (by assumption) (by assumption))
      |(refine ak ?_;symm;exact aae j2 j1 (by assumption))
      |done)
  |omega
  |exact fU
  |exact adg i2 (by omega)
  |exact adb k2 (by omega) (by omega) (by omega)
  |(have q:=Mf i2;constructor<;>(simp only[Zp,Zs];omega))
  |(have q:=Me k2;constructor<;>(simp only[Zp,Zs];omega))
  |exact adh i2 i0 (by assumption) (by assumption)
  |exact adc k2 k0 (by omega) (by assumption)
  |exact aad k2 j0 (by assumption) k0 k1 (by assumption)
  |exact agB j2
  |exact aah i2 i1 (by assumption)
  |exact agC
  |exact⟨Zf,Zf⟩
  |(have t:=oj (by assumption);have b:=mX t.1;omega)
  |done
abbrev Lc1:cZ:={
 Φ:=qp
 F0:=F0
 ct:=fun F f=>match f with|227=>co F|228=>dM F|_=>fun _=>none
 hc:=(by
  intro f;dsimp only;split;exact j3;exact qD;exact db)
 pt:=fun F f=>match f with|226=>some (iQ F)|_=>none
 hp:=(by
  intro f mk h;dsimp only at h;split at h<;>cases h
  exact tq)}
theorem pN:ec 126 cV:=by
 intro _ _ _ h hp;dsimp only[cV,F0]at h;split at h<;>cases h
 rename_i sp lg;obtain⟨hs,hl,ns,nl⟩:=hp;refine cb Lc1 Tryz.func126 ?_
 intro O r F hO hr hF;cbv
 repeat' first|apply Zb|(apply bG<;>intro hb<;>cbv)|(refine⟨[1,6,14,15,16],[5],Int×af,fun s_=>match s_ with|(i,es)=>[.reg 16 (.j i),.leaf 5 0 ⟨0,0,none,.own (.m true es)⟩],fun s_=>match s_ with|(i,es)=>0<=i/\i<=(sp.length:Int)/\Sn sp i es,fun s_=>match s_ with|(i,es)=>sp.length-i.toNat,⟨(0,[]),?_,?_⟩,?_⟩;rotate_left;(focus (cbv;done));intro s_ hi;obtain⟨i,es⟩:=s_;replace hi:0<=i/\i<=(sp.length:Int)/\Sn sp i es:=hi;obtain⟨i0,i1,i2⟩:=hi;cbv)|(refine⟨[6,31,32,33],[5],Int×af,fun s_=>match s_ with|(j,es1)=>[.reg 33 (.j j),.leaf 5 0 ⟨0,0,none,.own (.m true es1)⟩],fun s_=>match s_ with|(j,es1)=>0<=j/\j<=(lg.length:Int)/\IlP sp lg j es1,fun s_=>match s_ with|(j,es1)=>lg.length-j.toNat,⟨(0,es),?_,?_⟩,?_⟩;rotate_left;(focus (cbv;done));intro s_ hj;obtain⟨j,es1⟩:=s_;replace hj:0<=j/\j<=(lg.length:Int)/\IlP sp lg j es1:=hj;obtain⟨j0,j1,j2⟩:=hj;cbv)|(refine⟨[6,10,11,31,32,33],[5,10],Int×af,fun s_=>match s_ with|(k,es2)=>[.reg 11 (.j k),.leaf 5 0 ⟨0,0,none,.own (.m true es2)⟩],fun s_=>match s_ with|(k,es2)=>0<=k/\k<=ah lg j 1/\Sk sp lg j k es2,fun s_=>match s_ with|(k,es2)=>(ah lg j 1-k).toNat,⟨(0,es1),?_,?_⟩,?_⟩;rotate_left;(focus (cbv;done));intro s_ hk;obtain⟨k,es2⟩:=s_;replace hk:0<=k/\k<=ah lg j 1/\Sk sp lg j k es2:=hk;obtain⟨k0,k1,k2⟩:=hk;cbv)|(refine ag (O.ar .add Za k 1,F.muT es2 (O.ar .add Za (O.gi lg j 0) k)) ?_ ?_ ?_;focus (cbv;done))|(refine ag (O.ar .add Za j 1,es2) ?_ ?_ ?_;focus (cbv;done))|(refine ag (O.ar .add Za i 1,F.muT es (O.gi sp i 0)) ?_ ?_ ?_;focus (cbv;done))
 all_goals(subst hO hr hF;(try simp only[nc]at*);(try simp only[ai,SS,sa,az]at*);(try rw[cQ (by omega) (by omega)]);(try have z:=(ada (k:=k) (by assumption) k0 (by assumption)));(try(obtain⟨z1,z2,z3,z4,z5⟩:=z));(try have z6:bO .add Za k 1=k+1:=bF (by omega));(try simp only[z3]at*);(try simp only[z6]at*))
 all_goals first
  | (show(_:List DV)=_
     first
      |(refine ak ?_;symm;exact TV i2 i0 (by assumption) (adB (b:=mgbI es (ah sp i 0)) hb))
      |(refine ak ?_;symm;exact TO k2 j0 (by assumption) k0 (by assumption) (adB (b:=mgbI es2 (ah lg j 0+k)) hb))
      |(refine ak ?_;symm;exact IS i0 (by assumption) (by assumption))
      |(refine ak ?_;symm;exact IT j0 (by assumption) (by assumption))
      |(refine ak ?_;symm;exact TQ j2 j1 (by assumption))
      |done)
  |omega
  |exact fU
  |exact acW i2 i0 (by assumption) (adC (b:=mgbI es (ah sp i 0)) hb)
  |exact acT k2 k0 (adC (b:=mgbI es2 (ah lg j 0+k)) hb)
  |exact TP k2 j0 (by assumption) k1 (by assumption)
  |exact agt j2
  |exact TW i2 i1 (by assumption)
  |exact agv
  |(have t:=oj (by assumption);have b:=mX t.1;omega)
  |done
abbrev Ld1:cZ:=eK (fun F f=>match f with|241=>nI F|242=>cF F|243=>dn F|244=>dD F|166=>cV F|213=>nZ F|305=>cF F|334=>dn F|335=>dD F|_=>fun _=>none) (by
 intro f;dsimp only;split;exact Br;exact iL;exact pM;exact sK;exact ky;exact BS;exact lT;exact pV;exact sP;exact db)
def iU:EC:=fun F=>fun
 |[.one (.s 3 sp),.one (.s 3 lg),.one (.v (.int Za a))]=>some (fun _=>Rw [tI,tI,tI] sp/\Rw [tI,tI,tI] lg,[.agg [.i (F.dnK sp lg a),.i (F.dnI sp lg a),.i (F.dnS sp a),.i (F.dnO sp lg a)]])
 |_=>none
theorem qF:ec 137 iU:=by
 intro _ _ _ h hp;dsimp only[iU,F0]at h;split at h<;>cases h
 rename_i sp lg a;obtain⟨hs,hl⟩:=hp;have ms:=hs.1;unfold maxLen at ms;have ml:=hl.1;unfold maxLen at ml;refine cb Ld1 Tryz.func137 ?_
 intro O r F hO hr hF;cbv
 repeat' first|apply Zb|(apply bG<;>intro hb<;>cbv)|(refine⟨[1,2,6,14,15,16],[6],Int,fun i=>[.reg 16 (.j i)],fun i=>0<=i/\i<=((sp.length:Nat):Int)/\upto (bT (Ej sp a)) i,fun i=>(sp.length)-i.toNat,⟨0,?_,?_⟩,?_⟩;rotate_left;(focus (cbv;done));intro i hi;replace hi:0<=i/\i<=((sp.length:Nat):Int)/\upto (bT (Ej sp a)) i:=hi;obtain⟨i0,i1,i2⟩:=hi;cbv)|(refine ag (O.ar .add Za i 1) ?_ ?_ ?_;focus (cbv;done))|(refine⟨[2,6,39,40,41],[6],Int,fun j=>[.reg 41 (.j j)],fun j=>0<=j/\j<=((lg.length:Nat):Int)/\upto (bT (FJ lg a)) j,fun j=>(lg.length)-j.toNat,⟨0,?_,?_⟩,?_⟩;rotate_left;(focus (cbv;done));intro j hj;replace hj:0<=j/\j<=((lg.length:Nat):Int)/\upto (bT (FJ lg a)) j:=hj;obtain⟨j0,j1,j2⟩:=hj;cbv)|(refine ag (O.ar .add Za j 1) ?_ ?_ ?_;focus (cbv;done))
 all_goals(subst hO hr hF;(try simp only[nc]at*);(try simp only[ai,SS,sa,az]at*);(try rw[cQ (by omega) (by omega)]))
 all_goals first
  | (show(_:List DV)=_
     first
      |exact ow1 i2 i0 (by assumption) (by assumption) (by assumption)
      |exact ow2 i2 i0 (by assumption) (by assumption) (by assumption)
      |exact ow3 i2 (by assumption) j2 j0 (by assumption) (by assumption)
      |exact ow4 i2 (by assumption) j2 (by assumption)
      |done)
  |omega
  |exact fU
  |exact aey i2 (by assumption)
  |exact ac4 j2 (by assumption)
  |exact bB
  |done
def gG:EC:=fun F=>fun
 |[.one (.s 3 sp),.one (.s 3 lg),.one (.v (.int Za a))]=>some (fun _=>Rw [tI,tI,tI] sp/\Rw [tI,tI,tI] lg/\sp.length<=1073741824/\lg.length<=1073741824/\ -9223372036854775808<=a/\a<=9223372036854775807,[.agg [.i (F.dzK sp lg a),.i (F.dzI sp lg a),.i (F.dzS sp lg a),.i (F.dzO sp lg a)]])
 |_=>none
theorem lS:ec 268 gG:=by
 intro _ _ _ h hp;dsimp only[gG,F0]at h;split at h<;>cases h
 rename_i sp lg a;obtain⟨hs,hl,ns,nl,a0,a1⟩:=hp;refine cb Ld1 Tryz.func268 ?_
 intro O r F hO hr hF;cbv
 repeat' first|apply Zb|(apply bG<;>intro hb<;>cbv)|(refine⟨[0,1,2,6,7],[6],Int,fun i=>[.reg 7 (.j i)],fun i=>0<=i/\i<=((sp.length:Nat):Int)/\upto (bT (Ej sp a)) i,fun i=>(sp.length)-i.toNat,⟨0,?_,?_⟩,?_⟩;rotate_left;(focus (cbv;done));intro i hi;replace hi:0<=i/\i<=((sp.length:Nat):Int)/\upto (bT (Ej sp a)) i:=hi;obtain⟨i0,i1,i2⟩:=hi;cbv)|(refine ag (O.ar .add Za i 1) ?_ ?_ ?_;focus (cbv;done))|(refine⟨[1,2,6,11],[6],Int,fun j=>[.reg 11 (.j j)],fun j=>0<=j/\j<=((lg.length:Nat):Int)/\upto (bT (FJ lg a)) j,fun j=>(lg.length)-j.toNat,⟨0,?_,?_⟩,?_⟩;rotate_left;(focus (cbv;done));intro j hj;replace hj:0<=j/\j<=((lg.length:Nat):Int)/\upto (bT (FJ lg a)) j:=hj;obtain⟨j0,j1,j2⟩:=hj;cbv)|(refine ag (O.ar .add Za j 1) ?_ ?_ ?_;focus (cbv;done))
 all_goals(subst hO hr hF;(try simp only[nc]at*);(try simp only[ai,SS,sa,az]at*);(try rw[cQ (by omega) (by omega)]))
 all_goals first
  | (show(_:List DV)=_
     first
      |exact Eq.trans (ow1 i2 i0 (by assumption) (by assumption) (by assumption)) (OG (by assumption))
      |exact Eq.trans (ow2 i2 i0 (by assumption) (by assumption) (by assumption)) (OG (by assumption))
      |exact Eq.trans (ow3 i2 (by assumption) j2 j0 (by assumption) (by assumption)) (OG (by assumption))
      |exact Eq.trans (ow4 i2 (by assumption) j2 (by assumption)) (OG (by assumption))
      |exact af7 (by assumption)
      |done)
  |omega
  |exact fU
  |exact aey i2 (by assumption)
  |exact ac4 j2 (by assumption)
  |exact bB
  |exact⟨hs,hl,ns,nl⟩
  |done
abbrev Le1:cZ:=eK (fun F f=>match f with|166=>cV F|268=>gG F|_=>fun _=>none) (by
 intro f;dsimp only;split;exact ky;exact lS;exact db)
def jT:EC:=fun F=>fun
 |[.one (.s 3 sp),.one (.s 3 lg)]=>some (fun _=>Rw [tI,tI,tI] sp/\Rw [tI,tI,tI] lg/\sp.length<=1073741824/\lg.length<=1073741824,[.one (.s 1 (F.laL sp lg))])
 |_=>none
theorem vz:ec 271 jT:=by
 intro _ _ _ h hp;dsimp only[jT,F0]at h;split at h<;>cases h
 rename_i sp lg;obtain⟨hs,hl,ns,nl⟩:=hp;refine cb Le1 Tryz.func271 ?_
 intro O r F hO hr hF;cbv
 repeat' first|apply Zb|(apply bG<;>intro hb<;>cbv)|(refine⟨[0,1,5,6],[5],Int×af,fun s_=>match s_ with|(i,o)=>[.reg 6 (.j i),.reg 5 (.one (.vw 5 0 0 0 (O.ln o))),.leaf 5 0 ⟨0,0,none,.own (.s 1 o)⟩],fun s_=>match s_ with|(i,o)=>0<=i/\i<=512/\N7 sp lg i o,fun s_=>match s_ with|(i,o)=>512-i.toNat,⟨(0,[]),?_,?_⟩,?_⟩;rotate_left;(focus (cbv;done));intro s_ hi;obtain⟨i,o⟩:=s_;replace hi:0<=i/\i<=512/\N7 sp lg i o:=hi;obtain⟨i0,i1,i2⟩:=hi;cbv)|(refine ag (O.ar .add Za i 1,O.cat o (O.sub [[.i i]] 0 (O.ln [[.i i]]))) ?_ ?_ ?_;focus (cbv;done))|(refine ag (O.ar .add Za i 1,o) ?_ ?_ ?_;focus (cbv;done))
 all_goals(subst hO hr hF;(try simp only[nc]at*);(try simp only[ai,SS,sa,az]at*);(try rw[cQ (by omega) (by omega)]))
 all_goals first
  | (show(_:List DV)=_
     first
      |(refine vS ?_;exact aaa i2 i1 (by assumption))
      |(refine vS ?_;exact T9 i2 i0 (by assumption))
      |done)
  |omega
  |exact⟨hs,hl,ns,nl⟩
  |exact⟨hs,hl,ns,nl,by omega,by omega⟩
  |(have q:=i2.l;constructor<;>(simp only[Zp,Zs];omega))
  |exact L0 i2 i0 (by assumption) (adl (by assumption) (by assumption))
  |exact L0 i2 i0 (by assumption) (adm (by assumption) (by assumption))
  |exact Ra i2 i0 (by assumption) (adi (by assumption))
  |exact Ra i2 i0 (by assumption) (adj (by assumption) (by assumption))
  |exact agz
  |(have q:true=false:=(by assumption);cases q)
  |exact⟨Zf,Zf⟩
  |done
def Tryz.lays189_ren:Go.Shelf.Ren:=⟨fun|189=>319|125=>362|257=>361|128=>378|129=>379|294=>369|295=>370|296=>371|297=>372|298=>373|299=>374|216=>375|300=>376|301=>377|328=>381|329=>382|330=>383|331=>384|332=>385|215=>386|343=>387|n=>n,fun|28=>31|3=>3|46=>286|0=>0|51=>343|53=>345|4=>4|183=>337|182=>336|131=>162|5=>5|9=>9|218=>347|222=>351|228=>353|229=>159|n=>n,fun|n=>n⟩
theorem Tryz.lays189:Lays.n189 Tryz.prog Tryz.lays189_ren:=⟨by kernel_rfl,Tryz.func362.trans (congrArg some (by kernel_rfl)),Tryz.func378.trans (congrArg some (by kernel_rfl)),Tryz.func379.trans (congrArg some (by kernel_rfl)),Tryz.func319.trans (congrArg some (by kernel_rfl)),Tryz.func386.trans (congrArg some (by kernel_rfl)),Tryz.func375.trans (congrArg some (by kernel_rfl)),Tryz.func361.trans (congrArg some (by kernel_rfl)),Tryz.func369.trans (congrArg some (by kernel_rfl)),Tryz.func370.trans (congrArg some (by kernel_rfl)),Tryz.func371.trans (congrArg some (by kernel_rfl)),Tryz.func372.trans (congrArg some (by kernel_rfl)),Tryz.func373.trans (congrArg some (by kernel_rfl)),Tryz.func374.trans (congrArg some (by kernel_rfl)),Tryz.func376.trans (congrArg some (by kernel_rfl)),Tryz.func377.trans (congrArg some (by kernel_rfl)),Tryz.func381.trans (congrArg some (by kernel_rfl)),Tryz.func382.trans (congrArg some (by kernel_rfl)),Tryz.func383.trans (congrArg some (by kernel_rfl)),Tryz.func384.trans (congrArg some (by kernel_rfl)),Tryz.func385.trans (congrArg some (by kernel_rfl)),Tryz.func387.trans (congrArg some (by kernel_rfl)),Tryz.underlying0,Tryz.isAgg0,Tryz.sizeOf0,Tryz.zeroValue0,Tryz.underlying3,Tryz.isAgg3,Tryz.sizeOf3,Tryz.zeroValue3,Tryz.underlying4,Tryz.isAgg4,Tryz.sizeOf4,Tryz.zeroValue4,Tryz.underlying5,Tryz.isAgg5,Tryz.sizeOf5,Tryz.zeroValue5,Tryz.underlying9,Tryz.isAgg9,Tryz.sizeOf9,Tryz.zeroValue9,Tryz.underlying31,Tryz.isAgg31,Tryz.sizeOf31,Tryz.zeroValue31,Tryz.underlying286,Tryz.isAgg286,Tryz.sizeOf286,Tryz.zeroValue286,Tryz.underlying343,Tryz.isAgg343,Tryz.sizeOf343,Tryz.zeroValue343,Tryz.underlying345,Tryz.isAgg345,Tryz.sizeOf345,Tryz.zeroValue345,Tryz.underlying162,Tryz.isAgg162,Tryz.sizeOf162,Tryz.zeroValue162,Tryz.underlying336,Tryz.isAgg336,Tryz.sizeOf336,Tryz.zeroValue336,Tryz.underlying337,Tryz.isAgg337,Tryz.sizeOf337,Tryz.zeroValue337,Tryz.underlying347,Tryz.isAgg347,Tryz.sizeOf347,Tryz.zeroValue347,Tryz.underlying351,Tryz.isAgg351,Tryz.sizeOf351,Tryz.zeroValue351,Tryz.underlying353,Tryz.isAgg353,Tryz.sizeOf353,Tryz.zeroValue353,Tryz.underlying159,Tryz.isAgg159,Tryz.sizeOf159,Tryz.zeroValue159⟩
def gr:EM:=fun F=>fun
 |[.one (.s 1 l)]=>some (fun _=>Rw [tI] l/\l.length<=70368744177664,[.s 1 (F.srtL l)],[])
 |_=>none
theorem qm:em 319 gr:=by
 intro _ _ _ _ h hp;dsimp only[gr,F0]at h;split at h<;>cases h
 rename_i l;exact J0 (Any.slices_Sort_int_none Tryz.lays189) (Any.slices_Sort_int Tryz.lays189) l hp
abbrev Lf1:cZ:={
 Φ:=qp
 F0:=F0
 ct:=fun F f=>match f with|126=>cV F|290=>bV F|242=>cF F|294=>cR F|_=>fun _=>none
 hc:=(by
  intro f;dsimp only;split;exact pN;exact fy;exact iL;exact ku;exact db)
 mt:=fun F f=>match f with|319=>some (gr F)|_=>none
 hm:=(by
  intro f mk h;dsimp only at h;split at h<;>cases h
  exact qm)}
def jI:EC:=fun F=>fun
 |[.one (.s 3 sp),.one (.s 3 lg)]=>some (fun _=>Rw [tI,tI,tI] sp/\Rw [tI,tI,tI] lg/\sp.length<=1073741824/\lg.length<=1073741824,[.one (.s 1 (F.iaL sp lg))])
 |_=>none
theorem uW:ec 237 jI:=by
 intro _ _ _ h hp;dsimp only[jI,F0]at h;split at h<;>cases h
 rename_i sp lg;obtain⟨hs,hl,ns,nl⟩:=hp;refine cb Lf1 Tryz.func237 ?_
 intro O r F hO hr hF;cbv
 repeat' first|apply Zb|(apply bG<;>intro hb<;>cbv)|(refine⟨[1,5,16,17,18],[5],Int×af,fun s_=>match s_ with|(i,o)=>[.reg 18 (.j i),.reg 5 (.one (.vw 5 0 0 0 (O.ln o))),.leaf 5 0 ⟨0,0,none,.own (.s 1 o)⟩],fun s_=>match s_ with|(i,o)=>0<=i/\i<=(sp.length:Int)/\IaP sp i o,fun s_=>match s_ with|(i,o)=>sp.length-i.toNat,⟨(0,[]),?_,?_⟩,?_⟩;rotate_left;(focus (cbv;done));intro s_ hi;obtain⟨i,o⟩:=s_;replace hi:0<=i/\i<=(sp.length:Int)/\IaP sp i o:=hi;obtain⟨i0,i1,i2⟩:=hi;cbv)|(refine⟨[1,5,7,8,16,17,18],[5,7],Int×af,fun s_=>match s_ with|(k,o1)=>[.reg 8 (.j k),.reg 5 (.one (.vw 5 0 0 0 (O.ln o1))),.leaf 5 0 ⟨0,0,none,.own (.s 1 o1)⟩],fun s_=>match s_ with|(k,o1)=>0<=k/\k<=slN (ah sp i 1)/\N5 sp i k o1,fun s_=>match s_ with|(k,o1)=>(slN (ah sp i 1)-k).toNat,⟨(0,o),?_,?_⟩,?_⟩;rotate_left;(focus (cbv;done));intro s_ hk;obtain⟨k,o1⟩:=s_;replace hk:0<=k/\k<=slN (ah sp i 1)/\N5 sp i k o1:=hk;obtain⟨k0,k1,k2⟩:=hk;cbv)|(refine⟨[5,40,41,42],[5],Int×af,fun s_=>match s_ with|(j,o2)=>[.reg 42 (.j j),.reg 5 (.one (.vw 5 0 0 0 (O.ln o2))),.leaf 5 0 ⟨0,0,none,.own (.s 1 o2)⟩],fun s_=>match s_ with|(j,o2)=>0<=j/\j<=(lg.length:Int)/\Qk sp lg j o2,fun s_=>match s_ with|(j,o2)=>lg.length-j.toNat,⟨(0,o),?_,?_⟩,?_⟩;rotate_left;(focus (cbv;done));intro s_ hj;obtain⟨j,o2⟩:=s_;replace hj:0<=j/\j<=(lg.length:Int)/\Qk sp lg j o2:=hj;obtain⟨j0,j1,j2⟩:=hj;cbv)|(refine ag (O.ar .add Za k 1,O.cat o1 (O.sub [[.i (F.aaI (O.gi sp i 0) (O.gi sp i 1) (O.gi sp i 2) k)]] 0 (O.ln [[.i (F.aaI (O.gi sp i 0) (O.gi sp i 1) (O.gi sp i 2) k)]]))) ?_ ?_ ?_;focus (cbv;done))|(refine ag (O.ar .add Za k 1,o1) ?_ ?_ ?_;focus (cbv;done))|(refine ag (O.ar .add Za i 1,o1) ?_ ?_ ?_;focus (cbv;done))|(refine ag (O.ar .add Za j 1,O.cat o2 (O.sub [[.i (O.ar .mul Za (O.gi lg j 0) 16)]] 0 (O.ln [[.i (O.ar .mul Za (O.gi lg j 0) 16)]]))) ?_ ?_ ?_;focus (cbv;done))
 all_goals(subst hO hr hF;(try simp only[nc]at*);(try simp only[ai,SS,sa,az]at*);(try rw[cQ (by omega) (by omega)]);(try have z1:=ahh (sp:=sp) (lg:=lg) (i:=i) (by assumption) i0 (by assumption));(try have z6:bO .add Za k 1=k+1:=bF (by omega));(try simp only[z6]at*);(try have z7:=agA (sp:=sp) (lg:=lg) (j:=j) (by assumption) j0 (by assumption));(try have z8:bO .mul Za (ah lg j 0) 16=ah lg j 0*16:=D7 (by omega));(try simp only[z8]at*))
 all_goals first
  | (show(_:List DV)=_
     first
      |(refine vS ?_;exact agp (by assumption))
      |(refine vS ?_;exact TK j2 j1 (by assumption) (by assumption))
      |done)
  |omega
  |exact fU
  |(show aP _ _=true;kernel_rfl)
  |exact scal_one
  |exact⟨hs,hl,ns,nl⟩
  |exact acP j2 (by omega) (by omega)
  |(have q:=TH k2;constructor<;>(simp only[Zp,Zs];omega))
  |(have q:=LM j2;constructor<;>(simp only[Zp,Zs];omega))
  |exact TJ k2 k0 (by assumption)
  |exact acO k2 k0 (by assumption)
  |exact TG k2 i0 k1 (by assumption) z1
  |exact agq i2
  |exact agr i2 i1 (by assumption)
  |exact acQ j2 j0 z7
  |exact ago
  |exact Gb
  |exact⟨Zf,Gb.symm⟩
  |exact⟨Zf,Zf⟩
  |exact Zf
  |done
def iV:EC:=fun F=>fun
 |[.agg [.v (.int Za d0),.v (.int Za d1),.v (.int Za d2)],.ptr [.v (.int Za ad)]]=>some (fun _=>True,[.k (F.eqB d0 ad)])
 |_=>none
theorem tw:ec 341 iV:=by
 intro _ _ _ h hp;dsimp only[iV,F0]at h;split at h<;>cases h
 rename_i d0 d1 d2 ad;refine cb nB Tryz.func341 ?_
 exact afN
abbrev Lg1:cZ:=eK (fun F f=>match f with|341=>iV F|_=>fun _=>none) (by
 intro f;dsimp only;split;exact tw;exact db)
def aY:EC:=fun F=>fun
 |[.one (.s 3 os),.fn 341 [[.v (.int Za id)]]]=>some (fun _=>Rw [tI,tI,tI] os/\os.length<=1099511627776,[.j (F.qtI os id)])
 |_=>none
theorem ce:ec 364 aY:=by
 intro _ _ _ h hp;dsimp only[aY,F0]at h;split at h<;>cases h
 rename_i os id;obtain⟨hw,hn⟩:=hp;refine cb Lg1 Tryz.func364 ?_
 intro O r F hO hr hF;cbv
 repeat' first|apply Zb|(apply bG<;>intro hb<;>cbv)|(refine⟨[0,1,7,8],[0],Int,fun i=>[.reg 8 (.j i)],fun i=>0<=i/\i<=((os.length:Nat):Int)/\upto (bT (B5 os id)) i,fun i=>(os.length)-i.toNat,⟨0,?_,?_⟩,?_⟩;rotate_left;(focus (cbv;done));intro i hi;replace hi:0<=i/\i<=((os.length:Nat):Int)/\upto (bT (B5 os id)) i:=hi;obtain⟨i0,i1,i2⟩:=hi;cbv)|(refine ag (O.ar .add Za i 1) ?_ ?_ ?_;focus (cbv;done))
 all_goals(subst hO hr hF;(try simp only[nc]at*);(try simp only[ai,SS,sa,az]at*);(try rw[cQ (by omega) (by omega)]))
 all_goals first
  | (show(_:List DV)=_
     first
      |exact cv (eD i2 i0 (by assumption) (show B5 os id i=true from by assumption)).symm
      |exact cv (eE i2 (by assumption)).symm
      |done)
  |omega
  |exact fU
  |(show(lk _ _).isSome=true;kernel_rfl)
  |exact bB
  |exact aV i2 (iD (show B5 os id i=false from by assumption))
  |done
abbrev Lg2:cZ:=eK (fun F f=>match f with|364=>aY F|_=>fun _=>none) (by
 intro f;dsimp only;split;exact ce;exact db)
def aU:EC:=fun F=>fun
 |[.one (.s 3 os),.fn 341 [[.v (.int Za id)]]]=>some (fun _=>Rw [tI,tI,tI] os/\os.length<=1099511627776,[.k (F.qtB os id)])
 |_=>none
theorem b8:ec 340 aU:=by
 intro _ _ _ h hp;dsimp only[aU,F0]at h;split at h<;>cases h
 rename_i os id;refine cb Lg2 Tryz.func340 ?_
 intro O r F hO hr hF;cbv
 repeat' first|apply Zb|(apply bG<;>intro hb<;>cbv)
 all_goals(subst hO hr hF;(try simp only[nc]at*);(try simp only[ai,SS,sa,az]at*))
 all_goals first
  | (show(_:List DV)=_
     first
      |exact ak (hE (by unfold qtB;simp only[SS,VQ]))
      |done)
  |exact hp
  |done
abbrev Lg3:cZ:=eK (fun F f=>match f with|340=>aU F|_=>fun _=>none) (by
 intro f;dsimp only;split;exact b8;exact db)
def ip:EC:=fun F=>fun
 |[.one (.s 3 os),.one (.v (.int Za id))]=>some (fun _=>Rw [tI,tI,tI] os/\os.length<=1099511627776,[.k (F.qtB os id)])
 |_=>none
theorem pS:ec 281 ip:=by
 intro _ _ _ h hp;dsimp only[ip,F0]at h;split at h<;>cases h
 rename_i os id;refine cb Lg3 Tryz.func281 ?_
 exact afS
abbrev Lg4:cZ:=eK (fun F f=>match f with|281=>ip F|_=>fun _=>none) (by
 intro f;dsimp only;split;exact pS;exact db)
def mA:EC:=fun F=>fun
 |[.agg [.v (.int Za rm),.s 3 os],.one (.v (.int Za id))]=>some (fun _=>Rw [tI,tI,tI] os/\os.length<=1099511627776,[.k (F.qtB os id)])
 |_=>none
theorem zF:ec 266 mA:=by
 intro _ _ _ h hp;dsimp only[mA,F0]at h;split at h<;>cases h
 rename_i rm os id;obtain⟨hw,hn⟩:=hp;have hm:=hw.1;unfold maxLen at hm;refine cb Lg4 Tryz.func266 ?_
 intro O r F hO hr hF;cbv
 repeat' first|apply Zb|(apply bG<;>intro hb<;>cbv)|(refine⟨[1,2,5],[2],Int,fun i=>[.reg 5 (.j i)],fun i=>0<=i/\i<=((os.length:Nat):Int)/\upto (bT (B5 os id)) i,fun i=>(os.length)-i.toNat,⟨0,?_,?_⟩,?_⟩;rotate_left;(focus (cbv;done));intro i hi;replace hi:0<=i/\i<=((os.length:Nat):Int)/\upto (bT (B5 os id)) i:=hi;obtain⟨i0,i1,i2⟩:=hi;cbv)|(refine ag (O.ar .add Za i 1) ?_ ?_ ?_;focus (cbv;done))
 all_goals(subst hO hr hF;(try simp only[nc]at*);(try simp only[ai,SS,sa,az]at*);(try rw[cQ (by omega) (by omega)]))
 all_goals first
  | (show(_:List DV)=_
     first
      |(refine ak ?_;symm;exact aaF i2 i0 (by assumption) (by assumption))
      |(refine ak ?_;symm;exact aej i2 (by omega))
      |done)
  |omega
  |exact fU
  |exact bB
  |exact aV i2 (iD (show B5 os id i=false from wq (by assumption)))
  |done
abbrev Li1:cZ:=eK (fun F f=>match f with|41=>aj F|28=>aj F|_=>fun _=>none) (by
 intro f;dsimp only;split;exact bc;exact bi;exact db)
def dZ:EC:=fun F=>fun
 |[.agg [.s 1 b,.s 1 x]]=>some (fun _=>NU b x,[.k (F.mailOk b x)])
 |_=>none
theorem su:ec 128 dZ:=by
 intro _ _ _ h hp;dsimp only[dZ,F0]at h;split at h<;>cases h
 rename_i b x;have hbw:=hp.bw;have hxw:=hp.xw;have hbl:=hp.bl;have hxl:=hp.xl;have hsb:bO .sub Za (b.length:Int) 1=b.length-1:=di (by omega);refine cb Li1 Tryz.func128 ?_
 intro O r F hO hr hF;cbv
 repeat' first|apply Zb|(apply bG<;>intro hb<;>cbv)|(refine⟨[1,3,4,25,26],[1],Int×Int,fun s_=>match s_ with|(i,t)=>[.reg 26 (.j i),.reg 4 (.j t)],fun s_=>match s_ with|(i,t)=>0<=i/\i<=(b.length:Int)/\Oa b x i t,fun s_=>match s_ with|(i,t)=>b.length-i.toNat,⟨(0,0),?_,?_⟩,?_⟩;rotate_left;(focus (cbv;done));intro s_ hi;obtain⟨i,t⟩:=s_;replace hi:0<=i/\i<=(b.length:Int)/\Oa b x i t:=hi;obtain⟨i0,i1,i2⟩:=hi;cbv)|(refine⟨[1,3,4,5,25,26,33,34,35],[1],Int,fun k=>[.reg 35 (.j k)],fun k=>0<=k/\k<=(((ax b i 0).length:Nat):Int)/\upto (J4 b i) k,fun k=>((ax b i 0).length)-k.toNat,⟨0,?_,?_⟩,?_⟩;rotate_left;(focus (cbv;done));intro k hk;replace hk:0<=k/\k<=(((ax b i 0).length:Nat):Int)/\upto (J4 b i) k:=hk;obtain⟨k0,k1,k2⟩:=hk;cbv)|(refine ag (O.ar .add Za k 1) ?_ ?_ ?_;focus (cbv;done))|(refine⟨[1,3,4,5,25,26,55,56,57],[1],Int,fun j=>[.reg 57 (.j j)],fun j=>0<=j/\j<=(((ax x i 0).length:Nat):Int)/\upto (KG x i) j,fun j=>((ax x i 0).length)-j.toNat,⟨0,?_,?_⟩,?_⟩;rotate_left;(focus (cbv;done));intro j hj;replace hj:0<=j/\j<=(((ax x i 0).length:Nat):Int)/\upto (KG x i) j:=hj;obtain⟨j0,j1,j2⟩:=hj;cbv)|(refine ag (O.ar .add Za j 1) ?_ ?_ ?_;focus (cbv;done))|(refine ag (O.ar .add Za i 1,O.ar .add Za t (O.ar .add Za (O.zi (O.ln (O.gs b i 0))) (O.zi (O.ln (O.gs x i 0))))) ?_ ?_ ?_;focus (cbv;done))
 all_goals(subst hO hr hF;(try simp only[nc]at*);(try simp only[ai,SS,sa,az]at*);(try simp only[hsb]at*);(try have y2:=hp.xn i);(try have y1:=hp.bn i);(try rw[cQ (by omega) (by omega)]);(try have z6:bO .add Za k 1=k+1:=bF (by omega));(try simp only[z6]at*);(try have z7:bO .add Za j 1=j+1:=bF (by omega));(try simp only[z7]at*);(try have q:=ads hp i2 i0 (by have r:=bA.1 (by assumption:inR (b.length:Int) 1 4=true);omega));(try have z8:bO .add Za (((ax b i 0).length:Nat):Int) (((ax x i 0).length:Nat):Int)=((ax b i 0).length:Int)+(ax x i 0).length:=bF (by omega));(try simp only[z8]at*);(try have z9:bO .add Za t (((ax b i 0).length:Int)+(ax x i 0).length)=t+(((ax b i 0).length:Int)+(ax x i 0).length):=bF (by omega)))
 all_goals exact afl
theorem sy:ec 169 dZ:=by
 intro _ _ _ h hp;dsimp only[dZ,F0]at h;split at h<;>cases h
 rename_i b x;have hbw:=hp.bw;have hxw:=hp.xw;have hbl:=hp.bl;have hxl:=hp.xl;have hsb:bO .sub Za (b.length:Int) 1=b.length-1:=di (by omega);refine cb Li1 Tryz.func169 ?_
 intro O r F hO hr hF;cbv
 repeat' first|apply Zb|(apply bG<;>intro hb<;>cbv)|(refine⟨[1,3,4,5],[1],Int×Int,fun s_=>match s_ with|(i,t)=>[.reg 5 (.j i),.reg 4 (.j t)],fun s_=>match s_ with|(i,t)=>0<=i/\i<=(b.length:Int)/\Oa b x i t,fun s_=>match s_ with|(i,t)=>b.length-i.toNat,⟨(0,0),?_,?_⟩,?_⟩;rotate_left;(focus (cbv;done));intro s_ hi;obtain⟨i,t⟩:=s_;replace hi:0<=i/\i<=(b.length:Int)/\Oa b x i t:=hi;obtain⟨i0,i1,i2⟩:=hi;cbv)|(refine⟨[1,3,4,5,6],[1],Int,fun k=>[.reg 6 (.j k)],fun k=>0<=k/\k<=(((ax b i 0).length:Nat):Int)/\upto (J4 b i) k,fun k=>((ax b i 0).length)-k.toNat,⟨0,?_,?_⟩,?_⟩;rotate_left;(focus (cbv;done));intro k hk;replace hk:0<=k/\k<=(((ax b i 0).length:Nat):Int)/\upto (J4 b i) k:=hk;obtain⟨k0,k1,k2⟩:=hk;cbv)|(refine ag (O.ar .add Za k 1) ?_ ?_ ?_;focus (cbv;done))|(refine⟨[1,3,4,5,8],[1],Int,fun j=>[.reg 8 (.j j)],fun j=>0<=j/\j<=(((ax x i 0).length:Nat):Int)/\upto (KG x i) j,fun j=>((ax x i 0).length)-j.toNat,⟨0,?_,?_⟩,?_⟩;rotate_left;(focus (cbv;done));intro j hj;replace hj:0<=j/\j<=(((ax x i 0).length:Nat):Int)/\upto (KG x i) j:=hj;obtain⟨j0,j1,j2⟩:=hj;cbv)|(refine ag (O.ar .add Za j 1) ?_ ?_ ?_;focus (cbv;done))|(refine ag (O.ar .add Za i 1,O.ar .add Za (O.ar .add Za t (O.zi (O.ln (O.gs b i 0)))) (O.zi (O.ln (O.gs x i 0)))) ?_ ?_ ?_;focus (cbv;done))
 all_goals(subst hO hr hF;(try simp only[nc]at*);(try simp only[ai,SS,sa,az]at*);(try simp only[hsb]at*);(try have y2:=hp.xn i);(try have y1:=hp.bn i);(try rw[cQ (by omega) (by omega)]);(try have z6:bO .add Za k 1=k+1:=bF (by omega));(try simp only[z6]at*);(try have z7:bO .add Za j 1=j+1:=bF (by omega));(try simp only[z7]at*);(try have q:=ads hp i2 i0 (by have r:=bA.1 (by assumption:inR (b.length:Int) 1 4=true);omega));(try have z8:bO .add Za t (((ax b i 0).length:Nat):Int)=t+((ax b i 0).length:Int):=bF (by omega));(try simp only[z8]at*);(try have z9:bO .add Za (t+((ax b i 0).length:Int)) (((ax x i 0).length:Nat):Int)=t+(((ax b i 0).length:Int)+(ax x i 0).length):=(bF (by omega)).trans (by omega)))
 all_goals exact afl
abbrev Lj1:cZ:=eK (fun F f=>match f with|128=>dZ F|169=>dZ F|_=>fun _=>none) (by
 intro f;dsimp only;split;exact su;exact sy;exact db)
def eN:EC:=fun F=>fun
 |[.agg [.s 1 b,.s 1 x]]=>some (fun _=>NU b x,[.one (.s 1 (F.ifL b x))])
 |_=>none
theorem wS:ec 236 eN:=by
 intro _ _ _ h hp;dsimp only[eN,F0]at h;split at h<;>cases h
 rename_i b x;have hbw:=hp.bw;have hxw:=hp.xw;have hbl:=hp.bl;have hxl:=hp.xl;refine cb Lj1 Tryz.func236 ?_
 intro O r F hO hr hF;cbv
 repeat' first|apply Zb|(apply bG<;>intro hb<;>cbv)|(refine⟨[1,3,15,16,17],[1,3],Int×af,fun s_=>match s_ with|(i,o)=>[.reg 17 (.j i),.reg 3 (.one (.vw 3 0 0 0 (O.ln o))),.leaf 3 0 ⟨0,0,none,.own (.s 1 o)⟩],fun s_=>match s_ with|(i,o)=>0<=i/\i<=(b.length:Int)/\Qf b i o,fun s_=>match s_ with|(i,o)=>b.length-i.toNat,⟨(0,[]),?_,?_⟩,?_⟩;rotate_left;(focus (cbv;done));intro s_ hi;obtain⟨i,o⟩:=s_;replace hi:0<=i/\i<=(b.length:Int)/\Qf b i o:=hi;obtain⟨i0,i1,i2⟩:=hi;cbv)|(refine⟨[1,3,15,16,17,21,22,23],[1,3],Int×af,fun s_=>match s_ with|(k,o1)=>[.reg 23 (.j k),.reg 3 (.one (.vw 3 0 0 0 (O.ln o1))),.leaf 3 0 ⟨0,0,none,.own (.s 1 o1)⟩],fun s_=>match s_ with|(k,o1)=>0<=k/\k<=((ax b i 0).length:Int)/\Qg b i k o1,fun s_=>match s_ with|(k,o1)=>(ax b i 0).length-k.toNat,⟨(0,o),?_,?_⟩,?_⟩;rotate_left;(focus (cbv;done));intro s_ hk;obtain⟨k,o1⟩:=s_;replace hk:0<=k/\k<=((ax b i 0).length:Int)/\Qg b i k o1:=hk;obtain⟨k0,k1,k2⟩:=hk;cbv)|(refine⟨[3,35,36,37],[3],Int×af,fun s_=>match s_ with|(j,o2)=>[.reg 37 (.j j),.reg 3 (.one (.vw 3 0 0 0 (O.ln o2))),.leaf 3 0 ⟨0,0,none,.own (.s 1 o2)⟩],fun s_=>match s_ with|(j,o2)=>0<=j/\j<=(x.length:Int)/\Qh b x j o2,fun s_=>match s_ with|(j,o2)=>x.length-j.toNat,⟨(0,o),?_,?_⟩,?_⟩;rotate_left;(focus (cbv;done));intro s_ hj;obtain⟨j,o2⟩:=s_;replace hj:0<=j/\j<=(x.length:Int)/\Qh b x j o2:=hj;obtain⟨j0,j1,j2⟩:=hj;cbv)|(refine ag (O.ar .add Za k 1,O.cat o1 (O.sub [[.i (O.gi (O.gs b i 0) k 1)]] 0 (O.ln [[.i (O.gi (O.gs b i 0) k 1)]]))) ?_ ?_ ?_;focus (cbv;done))|(refine ag (O.ar .add Za i 1,o1) ?_ ?_ ?_;focus (cbv;done))|(refine ag (O.ar .add Za j 1,O.cat o2 (O.gs x j 0)) ?_ ?_ ?_;focus (cbv;done))
 all_goals(subst hO hr hF;(try simp only[nc]at*);(try simp only[ai,SS,sa,az]at*);(try rw[cQ (by omega) (by omega)]))
 all_goals exact afk
theorem xV:ec 270 eN:=by
 intro _ _ _ h hp;dsimp only[eN,F0]at h;split at h<;>cases h
 rename_i b x;have hbw:=hp.bw;have hxw:=hp.xw;have hbl:=hp.bl;have hxl:=hp.xl;refine cb Lj1 Tryz.func270 ?_
 intro O r F hO hr hF;cbv
 repeat' first|apply Zb|(apply bG<;>intro hb<;>cbv)|(refine⟨[1,3,4],[1,3],Int×af,fun s_=>match s_ with|(i,o)=>[.reg 4 (.j i),.reg 3 (.one (.vw 3 0 0 0 (O.ln o))),.leaf 3 0 ⟨0,0,none,.own (.s 1 o)⟩],fun s_=>match s_ with|(i,o)=>0<=i/\i<=(b.length:Int)/\Qf b i o,fun s_=>match s_ with|(i,o)=>b.length-i.toNat,⟨(0,[]),?_,?_⟩,?_⟩;rotate_left;(focus (cbv;done));intro s_ hi;obtain⟨i,o⟩:=s_;replace hi:0<=i/\i<=(b.length:Int)/\Qf b i o:=hi;obtain⟨i0,i1,i2⟩:=hi;cbv)|(refine⟨[1,3,4,5],[1,3],Int×af,fun s_=>match s_ with|(k,o1)=>[.reg 5 (.j k),.reg 3 (.one (.vw 3 0 0 0 (O.ln o1))),.leaf 3 0 ⟨0,0,none,.own (.s 1 o1)⟩],fun s_=>match s_ with|(k,o1)=>0<=k/\k<=((ax b i 0).length:Int)/\Qg b i k o1,fun s_=>match s_ with|(k,o1)=>(ax b i 0).length-k.toNat,⟨(0,o),?_,?_⟩,?_⟩;rotate_left;(focus (cbv;done));intro s_ hk;obtain⟨k,o1⟩:=s_;replace hk:0<=k/\k<=((ax b i 0).length:Int)/\Qg b i k o1:=hk;obtain⟨k0,k1,k2⟩:=hk;cbv)|(refine⟨[1,3,6],[1,3],Int×af,fun s_=>match s_ with|(j,o2)=>[.reg 6 (.j j),.reg 3 (.one (.vw 3 0 0 0 (O.ln o2))),.leaf 3 0 ⟨0,0,none,.own (.s 1 o2)⟩],fun s_=>match s_ with|(j,o2)=>0<=j/\j<=(x.length:Int)/\Qh b x j o2,fun s_=>match s_ with|(j,o2)=>x.length-j.toNat,⟨(0,o),?_,?_⟩,?_⟩;rotate_left;(focus (cbv;done));intro s_ hj;obtain⟨j,o2⟩:=s_;replace hj:0<=j/\j<=(x.length:Int)/\Qh b x j o2:=hj;obtain⟨j0,j1,j2⟩:=hj;cbv)|(refine ag (O.ar .add Za k 1,O.cat o1 (O.sub [[.i (O.gi (O.gs b i 0) k 1)]] 0 (O.ln [[.i (O.gi (O.gs b i 0) k 1)]]))) ?_ ?_ ?_;focus (cbv;done))|(refine ag (O.ar .add Za i 1,o1) ?_ ?_ ?_;focus (cbv;done))|(refine ag (O.ar .add Za j 1,O.cat o2 (O.gs x j 0)) ?_ ?_ ?_;focus (cbv;done))
 all_goals(subst hO hr hF;(try simp only[nc]at*);(try simp only[ai,SS,sa,az]at*);(try rw[cQ (by omega) (by omega)]);(try have z9:bO .add Za j 1=j+1:=bF (by omega));(try have z8:bO .add Za i 1=i+1:=bF (by omega));(try simp only[z9]at*);(try simp only[z8]at*))
 all_goals exact afk
end Go.V