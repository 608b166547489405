/- Contracts. -/
import Derived.Test.YtpldpilhgjpkjaaGreatWM0
set_option linter.all false
open Go
open And renaming intro->Zb
open IntKind renaming i64->Za
open List renaming length_cons->Zp,length_nil->Zt
open True renaming intro->Zd
namespace Go.V
open Go Go.Proofs
set_option maxRecDepth 1000000
set_option maxHeartbeats 8000000
abbrev La0:cT:=dG (fun F f=>match f with|157=>ed F|56=>bL F|92=>ai F|_=>fun _=>none) (by
 intro f;dsimp only;split;exact gg;exact dU;exact bi;exact cX)
def dr:EC:=fun F=>fun
 |[.one (.v (.int Za k))]=>some (fun _=>True,[.j (F.slN k)])
 |_=>none
def lN:ec 255 dr:=by
 intro _ _ _ h hp;dsimp only[dr,F0]at h;split at h<;>cases h
 rename_i k;refine cb La0 Tryz.func255 ?_
 intro O r F hO hr hF;cbv
 repeat' first|apply Zb|(apply bC<;>intro hb<;>cbv)
 all_goals(subst hO hr hF;(try simp only[nc]at*);(try simp only[ah,SS,sa,az]at*))
 all_goals first
  | (show(_:List DV)=_
     first
      |exact dH (Oy Ud)
      |exact dH (I3 Ud).symm
      |done)
  |(have:=lW (k:=k) Ud;omega)
  |done
def AE:ec 357 dr:=by
 intro _ _ _ h hp;dsimp only[dr,F0]at h;split at h<;>cases h
 rename_i k;refine cb La0 Tryz.func357 ?_
 intro O r F hO hr hF;cbv
 repeat' first|apply Zb|(apply bC<;>intro hb<;>cbv)
 all_goals(subst hO hr hF;(try simp only[nc]at*);(try simp only[ah,SS,sa,az]at*))
 all_goals first
  | (show(_:List DV)=_
     first
      |exact dH (Oz Ud)
      |exact dH (I3 Ud).symm
      |done)
  |(rcases PI (k:=k) Ud with rfl|rfl|rfl|rfl<;>decide)
  |done
abbrev La1:cT:=dG (fun F f=>match f with|33=>ai F|92=>ai F|_=>fun _=>none) (by
 intro f;dsimp only;split;exact aU;exact bi;exact cX)
def eB:EC:=fun F=>fun
 |[.one (.v (.int Za n)),.one (.v (.int Za b))]=>some (fun _=>True,[.k (F.bmOk n b)])
 |_=>none
def xF:ec 278 eB:=by
 intro _ _ _ h hp;dsimp only[eB,F0]at h;split at h<;>cases h
 rename_i n b;refine cb La1 Tryz.func278 ?_
 intro O r F hO hr hF;cbv
 repeat' first|apply Zb|(apply bC<;>intro hb<;>cbv)
 all_goals(subst hO hr hF;(try simp only[nc]at*);(try simp only[ah,SS,sa,az]at*);(try(have e:=Ow (n:=n) Ud;simp only[e.1])))
 all_goals first
  | (show(_:List DV)=_
     first
      |exact aj (L3 Ud).symm
      |exact aj (RI Ud).symm
      |done)
  |(have:=bz.1 (‹inR n 1 16=true›);omega)
  |done
def yA:ec 356 eB:=by
 intro _ _ _ h hp;dsimp only[eB,F0]at h;split at h<;>cases h
 rename_i n b;refine cb La1 Tryz.func356 ?_
 intro O r F hO hr hF;cbv
 repeat' first|apply Zb|(apply bC<;>intro hb<;>cbv)
 all_goals(subst hO hr hF;(try simp only[nc]at*);(try simp only[ah,SS,sa,az]at*);(try(have e:=Ow (n:=n) Ud;simp only[e.2.1])))
 all_goals first
  | (show(_:List DV)=_
     first
      |exact aj (L3 Ud).symm
      |exact aj (RI Ud).symm
      |done)
  |exact(Ow Ud).2.2
  |done
abbrev La2:cT:=dG (fun F f=>match f with|33=>ai F|157=>ed F|255=>dr F|278=>eB F|92=>ai F|357=>dr F|356=>eB F|_=>fun _=>none) (by
 intro f;dsimp only;split;exact aU;exact gg;exact lN;exact xF;exact bi;exact AE;exact yA;exact cX)
def cI:EC:=fun F=>fun
 |[.agg [.v (.int Za p),.v (.int Za k),.v (.int Za b)]]=>some (fun _=>True,[.k (F.spOk p k b)])
 |_=>none
def jP:ec 167 cI:=by
 intro _ _ _ h hp;dsimp only[cI,F0]at h;split at h<;>cases h
 rename_i p k b;refine cb La2 Tryz.func167 ?_
 intro O r F hO hr hF;cbv
 repeat' first|apply Zb|(apply bC<;>intro hb<;>cbv)
 all_goals(subst hO hr hF;(try simp only[nc]at*);(try simp only[ah,SS,sa,az]at*))
 all_goals first
  | (show(_:List DV)=_
     first
      |exact aj (OF Ud).symm
      |exact aj (OE Ud).symm
      |exact aj (ack Ud).symm
      |done)
  |(show ay _ _=true;kernel_rfl)
  |done
def jR:ec 296 cI:=by
 intro _ _ _ h hp;dsimp only[cI,F0]at h;split at h<;>cases h
 rename_i p k b;refine cb La2 Tryz.func296 ?_
 intro O r F hO hr hF;cbv
 repeat' first|apply Zb|(apply bC<;>intro hb<;>cbv)
 all_goals(subst hO hr hF;(try simp only[nc]at*);(try simp only[ah,SS,sa,az]at*))
 all_goals first
  | (show(_:List DV)=_
     first
      |exact aj (OF Ud).symm
      |exact aj (OE Ud).symm
      |done)
  |(show ay _ _=true;kernel_rfl)
  |done
def eF:EC:=fun F=>fun
 |[.one (.v (.int Za s))]=>some (fun _=>True,[.j (F.pfN s)])
 |_=>none
def xL:ec 144 eF:=by
 intro _ _ _ h hp;dsimp only[eF,F0]at h;split at h<;>cases h
 rename_i s;refine cb La1 Tryz.func144 ?_
 exact agO
def yE:ec 358 eF:=by
 intro _ _ _ h hp;dsimp only[eF,F0]at h;split at h<;>cases h
 rename_i s;refine cb La1 Tryz.func358 ?_
 exact agO
abbrev La3:cT:=dG (fun F f=>match f with|33=>ai F|144=>eF F|358=>eF F|92=>ai F|_=>fun _=>none) (by
 intro f;dsimp only;split;exact aU;exact xL;exact yE;exact bi;exact cX)
def dq:EC:=fun F=>fun
 |[.agg [.v (.int Za p),.v (.int Za n),.v (.int Za s)]]=>some (fun _=>True,[.k (F.lgOk p n s)])
 |_=>none
def qU:ec 168 dq:=by
 intro _ _ _ h hp;dsimp only[dq,F0]at h;split at h<;>cases h
 rename_i p n s;refine cb La3 Tryz.func168 ?_
 intro O r F hO hr hF;cbv
 repeat' first|apply Zb|(apply bC<;>intro hb<;>cbv)
 all_goals(subst hO hr hF;(try simp only[nc]at*);(try simp only[ah,SS,sa,az]at*))
 all_goals first
  | (show(_:List DV)=_
     first
      |(have b:=ng (s:=s) Ud;rw[show bK .sub Za 32 n=32-n from dp Uc];exact aj (Nb Ud Ud).symm)
      |exact aj (M9 Ud).symm
      |exact aj (Na Ud).symm
      |done)
  |(show ay _ _=true;kernel_rfl)
  |done
def qY:ec 298 dq:=by
 intro _ _ _ h hp;dsimp only[dq,F0]at h;split at h<;>cases h
 rename_i p n s;refine cb La3 Tryz.func298 ?_
 intro O r F hO hr hF;cbv
 repeat' first|apply Zb|(apply bC<;>intro hb<;>cbv)
 all_goals(subst hO hr hF;(try simp only[nc]at*);(try simp only[ah,SS,sa,az]at*))
 all_goals first
  | (show(_:List DV)=_
     first
      |(have q:=NZ.1 (‹0<pfN s›);have b:=ng q;rw[show bK .sub Za 32 (pfN s)=32-pfN s from dp Uc, ‹n=pfN s›];exact aj (Nb q rfl).symm)
      |(refine aj (M9 ?_).symm;cases q:inR s 9 1000;rfl;have:=NZ.2 q;omega)
      |exact aj (Na Ud).symm
      |done)
  |done
abbrev La4:cT:=dG (fun F f=>match f with|33=>ai F|167=>cI F|56=>bL F|255=>dr F|168=>dq F|296=>cI F|43=>bL F|298=>dq F|_=>fun _=>none) (by
 intro f;dsimp only;split;exact aU;exact jP;exact dU;exact lN;exact qU;exact jR;exact gG;exact qY;exact cX)
def nR:EC:=fun F=>fun
 |[.agg [.v (.int Za p),.v (.int Za k),.v (.int Za b)],.one (.v (.int Za a))]=>some (fun _=>True,[.j (F.saS p k b a),.j (F.saO p k b a)])
 |_=>none
def Cn:ec 272 nR:=by
 intro _ _ _ h hp;dsimp only[nR,F0]at h;split at h<;>cases h
 rename_i p k b a;refine cb La4 Tryz.func272 ?_
 intro O r F hO hr hF;cbv
 repeat' first|apply Zb|(apply bC<;>intro hb<;>cbv)
 all_goals(subst hO hr hF;(try simp only[nc]at*);(try simp only[ah,SS,sa,az]at*);(try(have t:=mT (p:=p) (k:=k) (b:=b) Ud;have c:=lW t.2.2.1;have e:=ae9 (p:=p) ⟨t.1,t.2.1⟩;try simp only[e.1,e.2]at*)))
 all_goals first
  | (show(_:List DV)=_
     first
      |(have q:=QQ (p:=p) (k:=k) (b:=b) (a:=a) Ud Ud;exact sR q.1.symm q.2.symm)
      |(have q:=D1 (TH (p:=p) (k:=k) (b:=b) (a:=a) Ud);exact sR q.1.symm q.2.symm)
      |(have q:=D1 (afP (p:=p) (k:=k) (b:=b) (a:=a) Ud);exact sR q.1.symm q.2.symm)
      |done)
  |(show ay _ _=true;kernel_rfl)
  |omega
  |done
def ou:EC:=fun F=>fun
 |[.agg [.v (.int Za p),.v (.int Za k),.v (.int Za b)],.one (.v (.int Za a))]=>some (fun _=>I64 a,[.j (F.saS p k b a),.j (F.saO p k b a)])
 |_=>none
def CR:ec 360 ou:=by
 intro _ _ _ h hp;dsimp only[ou,F0]at h;split at h<;>cases h
 rename_i p k b a;refine cb La4 Tryz.func360 ?_
 intro O r F hO hr hF;cbv
 repeat' first|apply Zb|(apply bC<;>intro hb<;>cbv)
 all_goals(subst hO hr hF;(try simp only[nc]at*);(try simp only[ah,SS,sa,az]at*);(try(have t:=mT (p:=p) (k:=k) (b:=b) Ud;have c:=lW t.2.2.1)))
 all_goals first
  | (show(_:List DV)=_
     first
      |(have q:=QR (p:=p) (k:=k) (b:=b) (a:=a) Ud Uc Ud Uc;exact sR q.1.symm q.2.symm)
      |(have q:=D1 (TH (p:=p) (k:=k) (b:=b) (a:=a) Ud);exact sR q.1.symm q.2.symm)
      |(have q:=D1 (TJ (p:=p) (k:=k) (b:=b) (a:=a) (.inl Uc) Uc);exact sR q.1.symm q.2.symm)
      |(have q:=D1 (TJ (p:=p) (k:=k) (b:=b) (a:=a) (.inr Ud) Uc);exact sR q.1.symm q.2.symm)
      |done)
  |(show ay _ _=true;kernel_rfl)
  |omega
  |done
def ko:EC:=fun F=>fun
 |[.agg [.v (.int Za p),.v (.int Za k),.v (.int Za b)],.one (.v (.int Za s))]=>some (fun _=>True,[.j (F.aaI p k b s)])
 |_=>none
def xQ:ec 259 ko:=by
 intro _ _ _ h hp;dsimp only[ko,F0]at h;split at h<;>cases h
 rename_i p k b s;refine cb La4 Tryz.func259 ?_
 intro O r F hO hr hF;cbv
 repeat' first|apply Zb|(apply bC<;>intro hb<;>cbv)
 all_goals(subst hO hr hF;(try simp only[nc]at*);(try simp only[ah,SS,sa,az]at*);(try(have t:=mT (p:=p) (k:=k) (b:=b) Ud;have c:=lW t.2.2.1;have e:bK .sub Za (slN k) 1=slN k-1:=dp Uc;try simp only[e]at*)))
 all_goals first
  | (show(_:List DV)=_
     first
      |exact dH (aag Ud Ud)
      |exact dH (RE (.inl Ud)).symm
      |exact dH (RE (.inr Ud)).symm
      |done)
  |(show ay _ _=true;kernel_rfl)
  |done
def di:EC:=fun F=>fun
 |[.agg [.v (.int Za p),.v (.int Za n),.v (.int Za s)],.one (.v (.int Za a))]=>some (fun _=>True,[.k (F.lhB p n s a)])
 |_=>none
def qt:ec 274 di:=by
 intro _ _ _ h hp;dsimp only[di,F0]at h;split at h<;>cases h
 rename_i p n s a;refine cb La4 Tryz.func274 ?_
 intro O r F hO hr hF;cbv
 repeat' first|apply Zb|(apply bC<;>intro hb<;>cbv)
 all_goals(subst hO hr hF;(try simp only[nc]at*);(try simp only[ah,SS,sa,az]at*);(try(have e:=Nf (p:=p) (n:=n) (s:=s) Ud;try simp only[e.2.2])))
 all_goals first
  | (show(_:List DV)=_
     first
      |(rw[e.1];exact aj (Ix Ud).symm)
      |exact aj (Ng Ud).symm
      |done)
  |done
def qC:ec 362 di:=by
 intro _ _ _ h hp;dsimp only[di,F0]at h;split at h<;>cases h
 rename_i p n s a;refine cb La4 Tryz.func362 ?_
 intro O r F hO hr hF;cbv
 repeat' first|apply Zb|(apply bC<;>intro hb<;>cbv)
 all_goals(subst hO hr hF;(try simp only[nc]at*);(try simp only[ah,SS,sa,az]at*);(try(have e:=Nf (p:=p) (n:=n) (s:=s) Ud;try simp only[e.1]at*)))
 all_goals first
  | (show(_:List DV)=_
     first
      |exact aj (Ng Ud).symm
      |(refine aj (ij ?_);rw[Ix Ud,bz];simp only[SS,cM,VD];omega)
      |(refine aj (ij ?_);rw[Ix Ud,bz];simp only[Bool.false_eq_true,false_iff];omega)
      |done)
  |done
abbrev La5:cT:=dG (fun F f=>match f with|274=>di F|362=>di F|_=>fun _=>none) (by
 intro f;dsimp only;split;exact qt;exact qC;exact cX)
def dm:EC:=fun F=>fun
 |[.agg [.v (.int Za p),.v (.int Za n),.v (.int Za s)],.one (.v (.int Za a))]=>some (fun _=>True,[.j (F.loI p n s a)])
 |_=>none
def sY:ec 275 dm:=by
 intro _ _ _ h hp;dsimp only[dm,F0]at h;split at h<;>cases h
 rename_i p n s a;refine cb La5 Tryz.func275 ?_
 exact agP
def ta:ec 363 dm:=by
 intro _ _ _ h hp;dsimp only[dm,F0]at h;split at h<;>cases h
 rename_i p n s a;refine cb La5 Tryz.func363 ?_
 exact agP
def eZ:EC:=fun F=>fun
 |[.one (.s 1 l),.one (.v (.int Za x))]=>some (fun _=>Rw [tI] l,[.k (F.hasB l x)])
 |_=>none
def gV:ec 297 eZ:=by
 intro _ _ _ h hp;dsimp only[eZ,F0]at h;split at h<;>cases h
 rename_i l x;have hw:=hp;have hm:=hw.1;unfold maxLen at hm;refine cb nB Tryz.func297 ?_
 intro O r F hO hr hF;cbv
 repeat' first|apply Zb|(apply bC<;>intro hb<;>cbv)|(refine⟨[0,1,5],[],Int,fun i=>[.reg 5 (.j i)],fun i=>0<=i/\i<=((l.length:Nat):Int)/\upto (cY (LD l x)) i,fun i=>(l.length)-i.toNat,⟨0,?_,?_⟩,?_⟩;rotate_left;(focus (cbv;done));intro i hi;replace hi:0<=i/\i<=((l.length:Nat):Int)/\upto (cY (LD l x)) i:=hi;obtain⟨i0,i1,i2⟩:=hi;cbv)|(refine af (O.ar .add Za i 1) ?_ ?_ ?_;focus (cbv;done))
 all_goals(subst hO hr hF;(try simp only[nc]at*);(try simp only[ah,SS,sa,az]at*);(try rw[dd Uc Uc]))
 all_goals first
  | (show(_:List DV)=_
     first
      |(refine aj ?_;symm;rw[JL];exact⟨i.toNat,Uc,by rw[Int.toNat_of_nonneg i0];assumption⟩)
      |(refine aj ?_;symm;exact aaC i2 Uc)
      |done)
  |omega
  |exact iB
  |exact bI
  |exact bu i2 (by unfold cY LD;rw[Gv (fun e=>absurd e.symm Ud)];rfl)
  |done
def iH:EP:=fun F=>fun
 |[.one (.v (.int Za pg)),.mp [.own (.m true es)]]=>some (fun _=>True,[[.own (.m true (F.muT es pg))]],[.k (!(F.mgbI es pg))])
 |_=>none
def tM:ep 166 iH:=by
 intro _ _ _ _ h hp;dsimp only[iH,F0]at h;split at h<;>cases h
 rename_i pg es;refine pb nB Tryz.func166 ?_
 intro O r os F hO hr hos hF;cbv
 repeat' first|apply Zb|(apply bC<;>intro hb<;>cbv)
 all_goals((try subst hos);subst hO hr hF;(try simp only[nc]at*);(try simp only[ah,SS,sa,az]at*))
 all_goals first|(show(_:List DV)=_;exact rfl)|(show(_:List H)=_;exact rfl)|done
abbrev Lb1:cT:=dG (fun F f=>match f with|296=>cI F|298=>dq F|297=>eZ F|_=>fun _=>none) (by
 intro f;dsimp only;split;exact jR;exact qY;exact gV;exact cX)
def cS:EC:=fun F=>fun
 |[.one (.s 3 sp),.one (.s 3 lg)]=>some (fun _=>Rw [tI,tI,tI] sp/\Rw [tI,tI,tI] lg/\sp.length<=1073741824/\lg.length<=1073741824,[.k (F.layOk sp lg)])
 |_=>none
def kh:ec 203 cS:=by
 intro _ _ _ h hp;dsimp only[cS,F0]at h;split at h<;>cases h
 rename_i sp lg;obtain⟨hs,hl,ns,nl⟩:=hp;refine cb Lb1 Tryz.func203 ?_
 intro O r F hO hr hF;cbv
 repeat' first|apply Zb|(apply bC<;>intro hb<;>cbv)|(refine⟨[0,1,5,6],[5],Int×ab,fun s_=>match s_ with|(i,o)=>[.reg 6 (.j i),.reg 5 (.one (.vw 5 0 0 0 (O.ln o))),.leaf 5 0 ⟨0,0,none,.own (.s 1 o)⟩],fun s_=>match s_ with|(i,o)=>0<=i/\i<=(sp.length:Int)/\Pg sp i o,fun s_=>match s_ with|(i,o)=>sp.length-i.toNat,⟨(0,[]),?_,?_⟩,?_⟩;rotate_left;(focus (cbv;done));intro s_ hi;obtain⟨i,o⟩:=s_;replace hi:0<=i/\i<=(sp.length:Int)/\Pg sp i o:=hi;obtain⟨i0,i1,i2⟩:=hi;cbv)|(refine⟨[1,5,7],[5],Int×ab,fun s_=>match s_ with|(j,o1)=>[.reg 7 (.j j),.reg 5 (.one (.vw 5 0 0 0 (O.ln o1))),.leaf 5 0 ⟨0,0,none,.own (.s 1 o1)⟩],fun s_=>match s_ with|(j,o1)=>0<=j/\j<=(lg.length:Int)/\LlP sp lg j o1,fun s_=>match s_ with|(j,o1)=>lg.length-j.toNat,⟨(0,o),?_,?_⟩,?_⟩;rotate_left;(focus (cbv;done));intro s_ hj;obtain⟨j,o1⟩:=s_;replace hj:0<=j/\j<=(lg.length:Int)/\LlP sp lg j o1:=hj;obtain⟨j0,j1,j2⟩:=hj;cbv)|(refine⟨[1,5,7,8],[5],Int×ab,fun s_=>match s_ with|(k,o2)=>[.reg 8 (.j k),.reg 5 (.one (.vw 5 0 0 0 (O.ln o2))),.leaf 5 0 ⟨0,0,none,.own (.s 1 o2)⟩],fun s_=>match s_ with|(k,o2)=>0<=k/\k<=ag lg j 1/\Pf sp lg j k o2,fun s_=>match s_ with|(k,o2)=>(ag lg j 1-k).toNat,⟨(0,o1),?_,?_⟩,?_⟩;rotate_left;(focus (cbv;done));intro s_ hk;obtain⟨k,o2⟩:=s_;replace hk:0<=k/\k<=ag lg j 1/\Pf sp lg j k o2:=hk;obtain⟨k0,k1,k2⟩:=hk;cbv)|(refine af (O.ar .add Za k 1,O.cat o2 (O.sub [[.i (O.ar .add Za (O.gi lg j 0) k)]] 0 (O.ln [[.i (O.ar .add Za (O.gi lg j 0) k)]]))) ?_ ?_ ?_;focus (cbv;done))|(refine af (O.ar .add Za j 1,o2) ?_ ?_ ?_;focus (cbv;done))|(refine af (O.ar .add Za i 1,O.cat o (O.sub [[.i (O.gi sp i 0)]] 0 (O.ln [[.i (O.gi sp i 0)]]))) ?_ ?_ ?_;focus (cbv;done))
 all_goals(subst hO hr hF;(try simp only[nc]at*);(try simp only[ah,SS,sa,az]at*);(try rw[dd Uc Uc]);(try have z:=(ad2 (k:=k) Ud k0 Ud));(try(obtain⟨z1,z2,z3,z4,z5⟩:=z));(try have z6:bK .add Za k 1=k+1:=bD Uc);(try simp only[z3]at*);(try simp only[z6]at*))
 all_goals first
  | (show(_:List DV)=_
     first
      |(refine aj ?_;symm;exact JV i0 Ud Ud)
      |(refine aj ?_;symm;exact abw i2 i0 Ud Ud)
      |(refine aj ?_;symm;exact JW j0 Ud Ud)
      |(refine aj ?_;symm;exact abr k2 j0 Ud k0 Ud Ud)
      |(refine aj ?_;symm;exact abu j2 j1 Ud)
      |done)
  |omega
  |exact iB
  |exact ad7 i2 Uc
  |exact ad3 k2 Uc Uc Uc
  |(have q:=Ni i2;constructor<;>(simp only[Zp,Zt];omega))
  |(have q:=Nh k2;constructor<;>(simp only[Zp,Zt];omega))
  |exact ad8 i2 i0 Ud Ud
  |exact ad4 k2 k0 Uc Ud
  |exact abt k2 j0 Ud k0 k1 Ud
  |exact ahQ j2
  |exact abx i2 i1 Ud
  |exact ahR
  |exact⟨Zd,Zd⟩
  |(have t:=oE Ud;have b:=ng t.1;omega)
  |done
abbrev Lc1:cT:={
 Φ:=sF
 F0:=F0
 ct:=fun F f=>match f with|167=>cI F|168=>dq F|_=>fun _=>none
 hc:=(by
  intro f;dsimp only;split;exact jP;exact qU;exact cX)
 pt:=fun F f=>match f with|166=>some (iH F)|_=>none
 hp:=(by
  intro f mk h;dsimp only at h;split at h<;>cases h
  exact tM)}
def qv:ec 62 cS:=by
 intro _ _ _ h hp;dsimp only[cS,F0]at h;split at h<;>cases h
 rename_i sp lg;obtain⟨hs,hl,ns,nl⟩:=hp;refine cb Lc1 Tryz.func62 ?_
 intro O r F hO hr hF;cbv
 repeat' first|apply Zb|(apply bC<;>intro hb<;>cbv)|(refine⟨[1,6,14,15,16],[5],Int×ab,fun s_=>match s_ with|(i,es)=>[.reg 16 (.j i),.leaf 5 0 ⟨0,0,none,.own (.m true es)⟩],fun s_=>match s_ with|(i,es)=>0<=i/\i<=(sp.length:Int)/\IsP sp i es,fun s_=>match s_ with|(i,es)=>sp.length-i.toNat,⟨(0,[]),?_,?_⟩,?_⟩;rotate_left;(focus (cbv;done));intro s_ hi;obtain⟨i,es⟩:=s_;replace hi:0<=i/\i<=(sp.length:Int)/\IsP sp i es:=hi;obtain⟨i0,i1,i2⟩:=hi;cbv)|(refine⟨[6,31,32,33],[5],Int×ab,fun s_=>match s_ with|(j,es1)=>[.reg 33 (.j j),.leaf 5 0 ⟨0,0,none,.own (.m true es1)⟩],fun s_=>match s_ with|(j,es1)=>0<=j/\j<=(lg.length:Int)/\IlP sp lg j es1,fun s_=>match s_ with|(j,es1)=>lg.length-j.toNat,⟨(0,es),?_,?_⟩,?_⟩;rotate_left;(focus (cbv;done));intro s_ hj;obtain⟨j,es1⟩:=s_;replace hj:0<=j/\j<=(lg.length:Int)/\IlP sp lg j es1:=hj;obtain⟨j0,j1,j2⟩:=hj;cbv)|(refine⟨[6,10,11,31,32,33],[5,10],Int×ab,fun s_=>match s_ with|(k,es2)=>[.reg 11 (.j k),.leaf 5 0 ⟨0,0,none,.own (.m true es2)⟩],fun s_=>match s_ with|(k,es2)=>0<=k/\k<=ag lg j 1/\IkP sp lg j k es2,fun s_=>match s_ with|(k,es2)=>(ag lg j 1-k).toNat,⟨(0,es1),?_,?_⟩,?_⟩;rotate_left;(focus (cbv;done));intro s_ hk;obtain⟨k,es2⟩:=s_;replace hk:0<=k/\k<=ag lg j 1/\IkP sp lg j k es2:=hk;obtain⟨k0,k1,k2⟩:=hk;cbv)|(refine af (O.ar .add Za k 1,F.muT es2 (O.ar .add Za (O.gi lg j 0) k)) ?_ ?_ ?_;focus (cbv;done))|(refine af (O.ar .add Za j 1,es2) ?_ ?_ ?_;focus (cbv;done))|(refine af (O.ar .add Za i 1,F.muT es (O.gi sp i 0)) ?_ ?_ ?_;focus (cbv;done))
 all_goals(subst hO hr hF;(try simp only[nc]at*);(try simp only[ah,SS,sa,az]at*);(try rw[dd Uc Uc]);(try have z:=(ad2 (k:=k) Ud k0 Ud));(try(obtain⟨z1,z2,z3,z4,z5⟩:=z));(try have z6:bK .add Za k 1=k+1:=bD Uc);(try simp only[z3]at*);(try simp only[z6]at*))
 all_goals first
  | (show(_:List DV)=_
     first
      |(refine aj ?_;symm;exact aa3 i2 i0 Ud (aeR (b:=mgbI es (ag sp i 0)) hb))
      |(refine aj ?_;symm;exact aaW k2 j0 Ud k0 Ud (aeR (b:=mgbI es2 (ag lg j 0+k)) hb))
      |(refine aj ?_;symm;exact JV i0 Ud Ud)
      |(refine aj ?_;symm;exact JW j0 Ud Ud)
      |(refine aj ?_;symm;exact aaY j2 j1 Ud)
      |done)
  |omega
  |exact iB
  |exact adH i2 i0 Ud (aeS (b:=mgbI es (ag sp i 0)) hb)
  |exact adF k2 k0 (aeS (b:=mgbI es2 (ag lg j 0+k)) hb)
  |exact aaX k2 j0 Ud k1 Ud
  |exact ahv j2
  |exact aa4 i2 i1 Ud
  |exact ahy
  |(have t:=oE Ud;have b:=ng t.1;omega)
  |done
abbrev Ld1:cT:=dG (fun F f=>match f with|272=>nR F|273=>cD F|274=>di F|275=>dm F|203=>cS F|360=>ou F|361=>cD F|362=>di F|363=>dm F|_=>fun _=>none) (by
 intro f;dsimp only;split;exact Cn;exact iE;exact qt;exact sY;exact kh;exact CR;exact lT;exact qC;exact ta;exact cX)
def iK:EC:=fun F=>fun
 |[.one (.s 3 sp),.one (.s 3 lg),.one (.v (.int Za a))]=>some (fun _=>Rw [tI,tI,tI] sp/\Rw [tI,tI,tI] lg,[.agg [.i (F.dnK sp lg a),.i (F.dnI sp lg a),.i (F.dnS sp a),.i (F.dnO sp lg a)]])
 |_=>none
def qW:ec 162 iK:=by
 intro _ _ _ h hp;dsimp only[iK,F0]at h;split at h<;>cases h
 rename_i sp lg a;obtain⟨hs,hl⟩:=hp;have ms:=hs.1;unfold maxLen at ms;have ml:=hl.1;unfold maxLen at ml;refine cb Ld1 Tryz.func162 ?_
 intro O r F hO hr hF;cbv
 repeat' first|apply Zb|(apply bC<;>intro hb<;>cbv)|(refine⟨[1,2,6,14,15,16],[6],Int,fun i=>[.reg 16 (.j i)],fun i=>0<=i/\i<=((sp.length:Nat):Int)/\upto (cY (Fw sp a)) i,fun i=>(sp.length)-i.toNat,⟨0,?_,?_⟩,?_⟩;rotate_left;(focus (cbv;done));intro i hi;replace hi:0<=i/\i<=((sp.length:Nat):Int)/\upto (cY (Fw sp a)) i:=hi;obtain⟨i0,i1,i2⟩:=hi;cbv)|(refine af (O.ar .add Za i 1) ?_ ?_ ?_;focus (cbv;done))|(refine⟨[2,6,39,40,41],[6],Int,fun j=>[.reg 41 (.j j)],fun j=>0<=j/\j<=((lg.length:Nat):Int)/\upto (cY (GO lg a)) j,fun j=>(lg.length)-j.toNat,⟨0,?_,?_⟩,?_⟩;rotate_left;(focus (cbv;done));intro j hj;replace hj:0<=j/\j<=((lg.length:Nat):Int)/\upto (cY (GO lg a)) j:=hj;obtain⟨j0,j1,j2⟩:=hj;cbv)|(refine af (O.ar .add Za j 1) ?_ ?_ ?_;focus (cbv;done))
 all_goals(subst hO hr hF;(try simp only[nc]at*);(try simp only[ah,SS,sa,az]at*);(try rw[dd Uc Uc]))
 all_goals first
  | (show(_:List DV)=_
     first
      |exact ow1 i2 i0 Ud Ud Ud
      |exact ow2 i2 i0 Ud Ud Ud
      |exact ow3 i2 Ud j2 j0 Ud Ud
      |exact ow4 i2 Ud j2 Ud
      |done)
  |omega
  |exact iB
  |exact afO i2 Ud
  |exact adW j2 Ud
  |exact bI
  |done
def gu:EC:=fun F=>fun
 |[.one (.s 3 sp),.one (.s 3 lg),.one (.v (.int Za a))]=>some (fun _=>Rw [tI,tI,tI] sp/\Rw [tI,tI,tI] lg/\sp.length<=1073741824/\lg.length<=1073741824/\ -9223372036854775808<=a/\a<=9223372036854775807,[.agg [.i (F.dzK sp lg a),.i (F.dzI sp lg a),.i (F.dzS sp lg a),.i (F.dzO sp lg a)]])
 |_=>none
def lS:ec 304 gu:=by
 intro _ _ _ h hp;dsimp only[gu,F0]at h;split at h<;>cases h
 rename_i sp lg a;obtain⟨hs,hl,ns,nl,a0,a1⟩:=hp;refine cb Ld1 Tryz.func304 ?_
 intro O r F hO hr hF;cbv
 repeat' first|apply Zb|(apply bC<;>intro hb<;>cbv)|(refine⟨[0,1,2,6,7],[6],Int,fun i=>[.reg 7 (.j i)],fun i=>0<=i/\i<=((sp.length:Nat):Int)/\upto (cY (Fw sp a)) i,fun i=>(sp.length)-i.toNat,⟨0,?_,?_⟩,?_⟩;rotate_left;(focus (cbv;done));intro i hi;replace hi:0<=i/\i<=((sp.length:Nat):Int)/\upto (cY (Fw sp a)) i:=hi;obtain⟨i0,i1,i2⟩:=hi;cbv)|(refine af (O.ar .add Za i 1) ?_ ?_ ?_;focus (cbv;done))|(refine⟨[1,2,6,11],[6],Int,fun j=>[.reg 11 (.j j)],fun j=>0<=j/\j<=((lg.length:Nat):Int)/\upto (cY (GO lg a)) j,fun j=>(lg.length)-j.toNat,⟨0,?_,?_⟩,?_⟩;rotate_left;(focus (cbv;done));intro j hj;replace hj:0<=j/\j<=((lg.length:Nat):Int)/\upto (cY (GO lg a)) j:=hj;obtain⟨j0,j1,j2⟩:=hj;cbv)|(refine af (O.ar .add Za j 1) ?_ ?_ ?_;focus (cbv;done))
 all_goals(subst hO hr hF;(try simp only[nc]at*);(try simp only[ah,SS,sa,az]at*);(try rw[dd Uc Uc]))
 all_goals first
  | (show(_:List DV)=_
     first
      |exact Eq.trans (ow1 i2 i0 Ud Ud Ud) (PQ Ud)
      |exact Eq.trans (ow2 i2 i0 Ud Ud Ud) (PQ Ud)
      |exact Eq.trans (ow3 i2 Ud j2 j0 Ud Ud) (PQ Ud)
      |exact Eq.trans (ow4 i2 Ud j2 Ud) (PQ Ud)
      |exact ag9 Ud
      |done)
  |omega
  |exact iB
  |exact afO i2 Ud
  |exact adW j2 Ud
  |exact bI
  |exact⟨hs,hl,ns,nl⟩
  |done
abbrev Le1:cT:=dG (fun F f=>match f with|203=>cS F|304=>gu F|_=>fun _=>none) (by
 intro f;dsimp only;split;exact kh;exact lS;exact cX)
def jF:EC:=fun F=>fun
 |[.one (.s 3 sp),.one (.s 3 lg)]=>some (fun _=>Rw [tI,tI,tI] sp/\Rw [tI,tI,tI] lg/\sp.length<=1073741824/\lg.length<=1073741824,[.one (.s 1 (F.laL sp lg))])
 |_=>none
def vX:ec 307 jF:=by
 intro _ _ _ h hp;dsimp only[jF,F0]at h;split at h<;>cases h
 rename_i sp lg;obtain⟨hs,hl,ns,nl⟩:=hp;refine cb Le1 Tryz.func307 ?_
 intro O r F hO hr hF;cbv
 repeat' first|apply Zb|(apply bC<;>intro hb<;>cbv)|(refine⟨[0,1,5,6],[5],Int×ab,fun s_=>match s_ with|(i,o)=>[.reg 6 (.j i),.reg 5 (.one (.vw 5 0 0 0 (O.ln o))),.leaf 5 0 ⟨0,0,none,.own (.s 1 o)⟩],fun s_=>match s_ with|(i,o)=>0<=i/\i<=512/\Pe sp lg i o,fun s_=>match s_ with|(i,o)=>512-i.toNat,⟨(0,[]),?_,?_⟩,?_⟩;rotate_left;(focus (cbv;done));intro s_ hi;obtain⟨i,o⟩:=s_;replace hi:0<=i/\i<=512/\Pe sp lg i o:=hi;obtain⟨i0,i1,i2⟩:=hi;cbv)|(refine af (O.ar .add Za i 1,O.cat o (O.sub [[.i i]] 0 (O.ln [[.i i]]))) ?_ ?_ ?_;focus (cbv;done))|(refine af (O.ar .add Za i 1,o) ?_ ?_ ?_;focus (cbv;done))
 all_goals(subst hO hr hF;(try simp only[nc]at*);(try simp only[ah,SS,sa,az]at*);(try rw[dd Uc Uc]))
 all_goals first
  | (show(_:List DV)=_
     first
      |(refine oL ?_;exact abp i2 i1 Ud)
      |(refine oL ?_;exact abo i2 i0 Ud)
      |done)
  |omega
  |exact⟨hs,hl,ns,nl⟩
  |exact⟨hs,hl,ns,nl,Uc,Uc⟩
  |(have q:=i2.l;constructor<;>(simp only[Zp,Zt];omega))
  |exact M5 i2 i0 Ud (aec Ud Ud)
  |exact M5 i2 i0 Ud (aed Ud Ud)
  |exact SQ i2 i0 Ud (ad9 Ud)
  |exact SQ i2 i0 Ud (aea Ud Ud)
  |exact ahN
  |(have q:true=false:=Ud;cases q)
  |exact⟨Zd,Zd⟩
  |done
def Tryz.lays189_ren:Go.Shelf.Ren:=⟨fun|189=>281|125=>343|257=>342|128=>393|129=>394|294=>384|295=>385|296=>386|297=>387|298=>388|299=>389|216=>390|300=>391|301=>392|328=>407|329=>408|330=>409|331=>410|332=>411|215=>412|343=>417|n=>n,fun|28=>24|3=>3|46=>217|0=>0|51=>392|53=>394|4=>4|183=>386|182=>385|131=>113|5=>5|9=>9|218=>403|222=>407|228=>410|229=>59|n=>n,fun|n=>n⟩
def Tryz.lays189:Lays.n189 Tryz.prog Tryz.lays189_ren:=⟨by kernel_rfl,Tryz.func343.trans (congrArg some (by kernel_rfl)),Tryz.func393.trans (congrArg some (by kernel_rfl)),Tryz.func394.trans (congrArg some (by kernel_rfl)),Tryz.func281.trans (congrArg some (by kernel_rfl)),Tryz.func412.trans (congrArg some (by kernel_rfl)),Tryz.func390.trans (congrArg some (by kernel_rfl)),Tryz.func342.trans (congrArg some (by kernel_rfl)),Tryz.func384.trans (congrArg some (by kernel_rfl)),Tryz.func385.trans (congrArg some (by kernel_rfl)),Tryz.func386.trans (congrArg some (by kernel_rfl)),Tryz.func387.trans (congrArg some (by kernel_rfl)),Tryz.func388.trans (congrArg some (by kernel_rfl)),Tryz.func389.trans (congrArg some (by kernel_rfl)),Tryz.func391.trans (congrArg some (by kernel_rfl)),Tryz.func392.trans (congrArg some (by kernel_rfl)),Tryz.func407.trans (congrArg some (by kernel_rfl)),Tryz.func408.trans (congrArg some (by kernel_rfl)),Tryz.func409.trans (congrArg some (by kernel_rfl)),Tryz.func410.trans (congrArg some (by kernel_rfl)),Tryz.func411.trans (congrArg some (by kernel_rfl)),Tryz.func417.trans (congrArg some (by kernel_rfl)),Tryz.underlying0,Tryz.isAgg0,Tryz.sizeOf0,Tryz.zeroValue0,Tryz.underlying3,Tryz.isAgg3,Tryz.sizeOf3,Tryz.zeroValue3,Tryz.underlying4,Tryz.isAgg4,Tryz.sizeOf4,Tryz.zeroValue4,Tryz.underlying5,Tryz.isAgg5,Tryz.sizeOf5,Tryz.zeroValue5,Tryz.underlying9,Tryz.isAgg9,Tryz.sizeOf9,Tryz.zeroValue9,Tryz.underlying24,Tryz.isAgg24,Tryz.sizeOf24,Tryz.zeroValue24,Tryz.underlying217,Tryz.isAgg217,Tryz.sizeOf217,Tryz.zeroValue217,Tryz.underlying392,Tryz.isAgg392,Tryz.sizeOf392,Tryz.zeroValue392,Tryz.underlying394,Tryz.isAgg394,Tryz.sizeOf394,Tryz.zeroValue394,Tryz.underlying113,Tryz.isAgg113,Tryz.sizeOf113,Tryz.zeroValue113,Tryz.underlying385,Tryz.isAgg385,Tryz.sizeOf385,Tryz.zeroValue385,Tryz.underlying386,Tryz.isAgg386,Tryz.sizeOf386,Tryz.zeroValue386,Tryz.underlying403,Tryz.isAgg403,Tryz.sizeOf403,Tryz.zeroValue403,Tryz.underlying407,Tryz.isAgg407,Tryz.sizeOf407,Tryz.zeroValue407,Tryz.underlying410,Tryz.isAgg410,Tryz.sizeOf410,Tryz.zeroValue410,Tryz.underlying59,Tryz.isAgg59,Tryz.sizeOf59,Tryz.zeroValue59⟩
def fY:EM:=fun F=>fun
 |[.one (.s 1 l)]=>some (fun _=>Rw [tI] l/\l.length<=70368744177664,[.s 1 (F.srtL l)],[])
 |_=>none
def qN:em 281 fY:=by
 intro _ _ _ _ h hp;dsimp only[fY,F0]at h;split at h<;>cases h
 rename_i l;exact K9 (Any.slices_Sort_int_none Tryz.lays189) (Any.slices_Sort_int Tryz.lays189) l hp
abbrev Lf1:cT:={
 Φ:=sF
 F0:=F0
 ct:=fun F f=>match f with|62=>cS F|255=>dr F|273=>cD F|259=>ko F|_=>fun _=>none
 hc:=(by
  intro f;dsimp only;split;exact qv;exact lN;exact iE;exact xQ;exact cX)
 mt:=fun F f=>match f with|281=>some (fY F)|_=>none
 hm:=(by
  intro f mk h;dsimp only at h;split at h<;>cases h
  exact qN)}
def jt:EC:=fun F=>fun
 |[.one (.s 3 sp),.one (.s 3 lg)]=>some (fun _=>Rw [tI,tI,tI] sp/\Rw [tI,tI,tI] lg/\sp.length<=1073741824/\lg.length<=1073741824,[.one (.s 1 (F.iaL sp lg))])
 |_=>none
def vD:ec 177 jt:=by
 intro _ _ _ h hp;dsimp only[jt,F0]at h;split at h<;>cases h
 rename_i sp lg;obtain⟨hs,hl,ns,nl⟩:=hp;refine cb Lf1 Tryz.func177 ?_
 intro O r F hO hr hF;cbv
 repeat' first|apply Zb|(apply bC<;>intro hb<;>cbv)|(refine⟨[1,5,16,17,18],[5],Int×ab,fun s_=>match s_ with|(i,o)=>[.reg 18 (.j i),.reg 5 (.one (.vw 5 0 0 0 (O.ln o))),.leaf 5 0 ⟨0,0,none,.own (.s 1 o)⟩],fun s_=>match s_ with|(i,o)=>0<=i/\i<=(sp.length:Int)/\IaP sp i o,fun s_=>match s_ with|(i,o)=>sp.length-i.toNat,⟨(0,[]),?_,?_⟩,?_⟩;rotate_left;(focus (cbv;done));intro s_ hi;obtain⟨i,o⟩:=s_;replace hi:0<=i/\i<=(sp.length:Int)/\IaP sp i o:=hi;obtain⟨i0,i1,i2⟩:=hi;cbv)|(refine⟨[1,5,7,8,16,17,18],[5,7],Int×ab,fun s_=>match s_ with|(k,o1)=>[.reg 8 (.j k),.reg 5 (.one (.vw 5 0 0 0 (O.ln o1))),.leaf 5 0 ⟨0,0,none,.own (.s 1 o1)⟩],fun s_=>match s_ with|(k,o1)=>0<=k/\k<=slN (ag sp i 1)/\Pb sp i k o1,fun s_=>match s_ with|(k,o1)=>(slN (ag sp i 1)-k).toNat,⟨(0,o),?_,?_⟩,?_⟩;rotate_left;(focus (cbv;done));intro s_ hk;obtain⟨k,o1⟩:=s_;replace hk:0<=k/\k<=slN (ag sp i 1)/\Pb sp i k o1:=hk;obtain⟨k0,k1,k2⟩:=hk;cbv)|(refine⟨[5,40,41,42],[5],Int×ab,fun s_=>match s_ with|(j,o2)=>[.reg 42 (.j j),.reg 5 (.one (.vw 5 0 0 0 (O.ln o2))),.leaf 5 0 ⟨0,0,none,.own (.s 1 o2)⟩],fun s_=>match s_ with|(j,o2)=>0<=j/\j<=(lg.length:Int)/\Ru sp lg j o2,fun s_=>match s_ with|(j,o2)=>lg.length-j.toNat,⟨(0,o),?_,?_⟩,?_⟩;rotate_left;(focus (cbv;done));intro s_ hj;obtain⟨j,o2⟩:=s_;replace hj:0<=j/\j<=(lg.length:Int)/\Ru sp lg j o2:=hj;obtain⟨j0,j1,j2⟩:=hj;cbv)|(refine af (O.ar .add Za k 1,O.cat o1 (O.sub [[.i (F.aaI (O.gi sp i 0) (O.gi sp i 1) (O.gi sp i 2) k)]] 0 (O.ln [[.i (F.aaI (O.gi sp i 0) (O.gi sp i 1) (O.gi sp i 2) k)]]))) ?_ ?_ ?_;focus (cbv;done))|(refine af (O.ar .add Za k 1,o1) ?_ ?_ ?_;focus (cbv;done))|(refine af (O.ar .add Za i 1,o1) ?_ ?_ ?_;focus (cbv;done))|(refine af (O.ar .add Za j 1,O.cat o2 (O.sub [[.i (O.ar .mul Za (O.gi lg j 0) 16)]] 0 (O.ln [[.i (O.ar .mul Za (O.gi lg j 0) 16)]]))) ?_ ?_ ?_;focus (cbv;done))
 all_goals(subst hO hr hF;(try simp only[nc]at*);(try simp only[ah,SS,sa,az]at*);(try rw[dd Uc Uc]);(try have z1:=aiC (sp:=sp) (lg:=lg) (i:=i) Ud i0 Ud);(try have z6:bK .add Za k 1=k+1:=bD Uc);(try simp only[z6]at*);(try have z7:=ahP (sp:=sp) (lg:=lg) (j:=j) Ud j0 Ud);(try have z8:bK .mul Za (ag lg j 0) 16=ag lg j 0*16:=Fg Uc);(try simp only[z8]at*))
 all_goals first
  | (show(_:List DV)=_
     first
      |(refine oL ?_;exact ahr Ud)
      |(refine oL ?_;exact aaT j2 j1 Ud Ud)
      |done)
  |omega
  |exact iB
  |(show ay _ _=true;kernel_rfl)
  |exact scal_one
  |exact⟨hs,hl,ns,nl⟩
  |exact adB j2 Uc Uc
  |(have q:=aaR k2;constructor<;>(simp only[Zp,Zt];omega))
  |(have q:=MP j2;constructor<;>(simp only[Zp,Zt];omega))
  |exact aaS k2 k0 Ud
  |exact adA k2 k0 Ud
  |exact aaQ k2 i0 k1 Ud z1
  |exact ahs i2
  |exact aht i2 i1 Ud
  |exact adC j2 j0 z7
  |exact ahq
  |exact Hh
  |exact⟨Zd,Hh.symm⟩
  |exact⟨Zd,Zd⟩
  |exact Zd
  |done
def iM:EC:=fun F=>fun
 |[.agg [.v (.int Za d0),.v (.int Za d1),.v (.int Za d2)],.ptr [.v (.int Za ad)]]=>some (fun _=>True,[.k (F.eqB d0 ad)])
 |_=>none
def tT:ec 340 iM:=by
 intro _ _ _ h hp;dsimp only[iM,F0]at h;split at h<;>cases h
 rename_i d0 d1 d2 ad;refine cb nB Tryz.func340 ?_
 exact agQ
abbrev Lg1:cT:=dG (fun F f=>match f with|340=>iM F|_=>fun _=>none) (by
 intro f;dsimp only;split;exact tT;exact cX)
def ba:EC:=fun F=>fun
 |[.one (.s 3 os),.fn 340 [[.v (.int Za id)]]]=>some (fun _=>Rw [tI,tI,tI] os/\os.length<=1099511627776,[.j (F.qtI os id)])
 |_=>none
def cg:ec 383 ba:=by
 intro _ _ _ h hp;dsimp only[ba,F0]at h;split at h<;>cases h
 rename_i os id;obtain⟨hw,hn⟩:=hp;refine cb Lg1 Tryz.func383 ?_
 intro O r F hO hr hF;cbv
 repeat' first|apply Zb|(apply bC<;>intro hb<;>cbv)|(refine⟨[0,1,7,8],[0],Int,fun i=>[.reg 8 (.j i)],fun i=>0<=i/\i<=((os.length:Nat):Int)/\upto (cY (C5 os id)) i,fun i=>(os.length)-i.toNat,⟨0,?_,?_⟩,?_⟩;rotate_left;(focus (cbv;done));intro i hi;replace hi:0<=i/\i<=((os.length:Nat):Int)/\upto (cY (C5 os id)) i:=hi;obtain⟨i0,i1,i2⟩:=hi;cbv)|(refine af (O.ar .add Za i 1) ?_ ?_ ?_;focus (cbv;done))
 all_goals(subst hO hr hF;(try simp only[nc]at*);(try simp only[ah,SS,sa,az]at*);(try rw[dd Uc Uc]))
 all_goals first
  | (show(_:List DV)=_
     first
      |exact dH (gx i2 i0 Ud (show C5 os id i=true from by assumption)).symm
      |exact dH (fK i2 Ud).symm
      |done)
  |omega
  |exact iB
  |(show(lk _ _).isSome=true;kernel_rfl)
  |exact bI
  |exact bu i2 (rE (show C5 os id i=false from by assumption))
  |done
abbrev Lg2:cT:=dG (fun F f=>match f with|383=>ba F|_=>fun _=>none) (by
 intro f;dsimp only;split;exact cg;exact cX)
def aW:EC:=fun F=>fun
 |[.one (.s 3 os),.fn 340 [[.v (.int Za id)]]]=>some (fun _=>Rw [tI,tI,tI] os/\os.length<=1099511627776,[.k (F.qtB os id)])
 |_=>none
def b8:ec 339 aW:=by
 intro _ _ _ h hp;dsimp only[aW,F0]at h;split at h<;>cases h
 rename_i os id;refine cb Lg2 Tryz.func339 ?_
 intro O r F hO hr hF;cbv
 repeat' first|apply Zb|(apply bC<;>intro hb<;>cbv)
 all_goals(subst hO hr hF;(try simp only[nc]at*);(try simp only[ah,SS,sa,az]at*))
 all_goals first
  | (show(_:List DV)=_
     first
      |exact aj (ij (by unfold qtB;simp only[SS,VD]))
      |done)
  |exact hp
  |done
abbrev Lg3:cT:=dG (fun F f=>match f with|339=>aW F|_=>fun _=>none) (by
 intro f;dsimp only;split;exact b8;exact cX)
def hH:EC:=fun F=>fun
 |[.one (.s 3 os),.one (.v (.int Za id))]=>some (fun _=>Rw [tI,tI,tI] os/\os.length<=1099511627776,[.k (F.qtB os id)])
 |_=>none
def qy:ec 271 hH:=by
 intro _ _ _ h hp;dsimp only[hH,F0]at h;split at h<;>cases h
 rename_i os id;refine cb Lg3 Tryz.func271 ?_
 exact agV
abbrev Lg4:cT:=dG (fun F f=>match f with|271=>hH F|_=>fun _=>none) (by
 intro f;dsimp only;split;exact qy;exact cX)
def mD:EC:=fun F=>fun
 |[.agg [.v (.int Za rm),.s 3 os],.one (.v (.int Za id))]=>some (fun _=>Rw [tI,tI,tI] os/\os.length<=1099511627776,[.k (F.qtB os id)])
 |_=>none
def AD:ec 16 mD:=by
 intro _ _ _ h hp;dsimp only[mD,F0]at h;split at h<;>cases h
 rename_i rm os id;obtain⟨hw,hn⟩:=hp;have hm:=hw.1;unfold maxLen at hm;refine cb Lg4 Tryz.func16 ?_
 intro O r F hO hr hF;cbv
 repeat' first|apply Zb|(apply bC<;>intro hb<;>cbv)|(refine⟨[1,2,5],[2],Int,fun i=>[.reg 5 (.j i)],fun i=>0<=i/\i<=((os.length:Nat):Int)/\upto (cY (C5 os id)) i,fun i=>(os.length)-i.toNat,⟨0,?_,?_⟩,?_⟩;rotate_left;(focus (cbv;done));intro i hi;replace hi:0<=i/\i<=((os.length:Nat):Int)/\upto (cY (C5 os id)) i:=hi;obtain⟨i0,i1,i2⟩:=hi;cbv)|(refine af (O.ar .add Za i 1) ?_ ?_ ?_;focus (cbv;done))
 all_goals(subst hO hr hF;(try simp only[nc]at*);(try simp only[ah,SS,sa,az]at*);(try rw[dd Uc Uc]))
 all_goals first
  | (show(_:List DV)=_
     first
      |(refine aj ?_;symm;exact ab5 i2 i0 Ud Ud)
      |(refine aj ?_;symm;exact afA i2 Uc)
      |done)
  |omega
  |exact iB
  |exact bI
  |exact bu i2 (rE (show C5 os id i=false from Gv Ud))
  |done
abbrev Li1:cT:=dG (fun F f=>match f with|33=>ai F|92=>ai F|_=>fun _=>none) (by
 intro f;dsimp only;split;exact aU;exact bi;exact cX)
def dQ:EC:=fun F=>fun
 |[.agg [.s 1 b,.s 1 x]]=>some (fun _=>OZ b x,[.k (F.mailOk b x)])
 |_=>none
def sK:ec 64 dQ:=by
 intro _ _ _ h hp;dsimp only[dQ,F0]at h;split at h<;>cases h
 rename_i b x;have hbw:=hp.bw;have hxw:=hp.xw;have hbl:=hp.bl;have hxl:=hp.xl;have hsb:bK .sub Za (b.length:Int) 1=b.length-1:=dp Uc;refine cb Li1 Tryz.func64 ?_
 intro O r F hO hr hF;cbv
 repeat' first|apply Zb|(apply bC<;>intro hb<;>cbv)|(refine⟨[1,3,4,25,26],[1],Int×Int,fun s_=>match s_ with|(i,t)=>[.reg 26 (.j i),.reg 4 (.j t)],fun s_=>match s_ with|(i,t)=>0<=i/\i<=(b.length:Int)/\Ph b x i t,fun s_=>match s_ with|(i,t)=>b.length-i.toNat,⟨(0,0),?_,?_⟩,?_⟩;rotate_left;(focus (cbv;done));intro s_ hi;obtain⟨i,t⟩:=s_;replace hi:0<=i/\i<=(b.length:Int)/\Ph b x i t:=hi;obtain⟨i0,i1,i2⟩:=hi;cbv)|(refine⟨[1,3,4,5,25,26,33,34,35],[1],Int,fun k=>[.reg 35 (.j k)],fun k=>0<=k/\k<=(((aw b i 0).length:Nat):Int)/\upto (Le b i) k,fun k=>((aw b i 0).length)-k.toNat,⟨0,?_,?_⟩,?_⟩;rotate_left;(focus (cbv;done));intro k hk;replace hk:0<=k/\k<=(((aw b i 0).length:Nat):Int)/\upto (Le b i) k:=hk;obtain⟨k0,k1,k2⟩:=hk;cbv)|(refine af (O.ar .add Za k 1) ?_ ?_ ?_;focus (cbv;done))|(refine⟨[1,3,4,5,25,26,55,56,57],[1],Int,fun j=>[.reg 57 (.j j)],fun j=>0<=j/\j<=(((aw x i 0).length:Nat):Int)/\upto (LR x i) j,fun j=>((aw x i 0).length)-j.toNat,⟨0,?_,?_⟩,?_⟩;rotate_left;(focus (cbv;done));intro j hj;replace hj:0<=j/\j<=(((aw x i 0).length:Nat):Int)/\upto (LR x i) j:=hj;obtain⟨j0,j1,j2⟩:=hj;cbv)|(refine af (O.ar .add Za j 1) ?_ ?_ ?_;focus (cbv;done))|(refine af (O.ar .add Za i 1,O.ar .add Za t (O.ar .add Za (O.zi (O.ln (O.gs b i 0))) (O.zi (O.ln (O.gs x i 0))))) ?_ ?_ ?_;focus (cbv;done))
 all_goals(subst hO hr hF;(try simp only[nc]at*);(try simp only[ah,SS,sa,az]at*);(try simp only[hsb]at*);(try have y2:=hp.xn i);(try have y1:=hp.bn i);(try rw[dd Uc Uc]);(try have z6:bK .add Za k 1=k+1:=bD Uc);(try simp only[z6]at*);(try have z7:bK .add Za j 1=j+1:=bD Uc);(try simp only[z7]at*);(try have q:=aeo hp i2 i0 (by have r:=bz.1 (by assumption:inR (b.length:Int) 1 4=true);omega));(try have z8:bK .add Za (((aw b i 0).length:Nat):Int) (((aw x i 0).length:Nat):Int)=((aw b i 0).length:Int)+(aw x i 0).length:=bD Uc);(try simp only[z8]at*);(try have z9:bK .add Za t (((aw b i 0).length:Int)+(aw x i 0).length)=t+(((aw b i 0).length:Int)+(aw x i 0).length):=bD Uc))
 all_goals exact agq
def sN:ec 206 dQ:=by
 intro _ _ _ h hp;dsimp only[dQ,F0]at h;split at h<;>cases h
 rename_i b x;have hbw:=hp.bw;have hxw:=hp.xw;have hbl:=hp.bl;have hxl:=hp.xl;have hsb:bK .sub Za (b.length:Int) 1=b.length-1:=dp Uc;refine cb Li1 Tryz.func206 ?_
 intro O r F hO hr hF;cbv
 repeat' first|apply Zb|(apply bC<;>intro hb<;>cbv)|(refine⟨[1,3,4,5],[1],Int×Int,fun s_=>match s_ with|(i,t)=>[.reg 5 (.j i),.reg 4 (.j t)],fun s_=>match s_ with|(i,t)=>0<=i/\i<=(b.length:Int)/\Ph b x i t,fun s_=>match s_ with|(i,t)=>b.length-i.toNat,⟨(0,0),?_,?_⟩,?_⟩;rotate_left;(focus (cbv;done));intro s_ hi;obtain⟨i,t⟩:=s_;replace hi:0<=i/\i<=(b.length:Int)/\Ph b x i t:=hi;obtain⟨i0,i1,i2⟩:=hi;cbv)|(refine⟨[1,3,4,5,6],[1],Int,fun k=>[.reg 6 (.j k)],fun k=>0<=k/\k<=(((aw b i 0).length:Nat):Int)/\upto (Le b i) k,fun k=>((aw b i 0).length)-k.toNat,⟨0,?_,?_⟩,?_⟩;rotate_left;(focus (cbv;done));intro k hk;replace hk:0<=k/\k<=(((aw b i 0).length:Nat):Int)/\upto (Le b i) k:=hk;obtain⟨k0,k1,k2⟩:=hk;cbv)|(refine af (O.ar .add Za k 1) ?_ ?_ ?_;focus (cbv;done))|(refine⟨[1,3,4,5,8],[1],Int,fun j=>[.reg 8 (.j j)],fun j=>0<=j/\j<=(((aw x i 0).length:Nat):Int)/\upto (LR x i) j,fun j=>((aw x i 0).length)-j.toNat,⟨0,?_,?_⟩,?_⟩;rotate_left;(focus (cbv;done));intro j hj;replace hj:0<=j/\j<=(((aw x i 0).length:Nat):Int)/\upto (LR x i) j:=hj;obtain⟨j0,j1,j2⟩:=hj;cbv)|(refine af (O.ar .add Za j 1) ?_ ?_ ?_;focus (cbv;done))|(refine af (O.ar .add Za i 1,O.ar .add Za (O.ar .add Za t (O.zi (O.ln (O.gs b i 0)))) (O.zi (O.ln (O.gs x i 0)))) ?_ ?_ ?_;focus (cbv;done))
 all_goals(subst hO hr hF;(try simp only[nc]at*);(try simp only[ah,SS,sa,az]at*);(try simp only[hsb]at*);(try have y2:=hp.xn i);(try have y1:=hp.bn i);(try rw[dd Uc Uc]);(try have z6:bK .add Za k 1=k+1:=bD Uc);(try simp only[z6]at*);(try have z7:bK .add Za j 1=j+1:=bD Uc);(try simp only[z7]at*);(try have q:=aeo hp i2 i0 (by have r:=bz.1 (by assumption:inR (b.length:Int) 1 4=true);omega));(try have z8:bK .add Za t (((aw b i 0).length:Nat):Int)=t+((aw b i 0).length:Int):=bD Uc);(try simp only[z8]at*);(try have z9:bK .add Za (t+((aw b i 0).length:Int)) (((aw x i 0).length:Nat):Int)=t+(((aw b i 0).length:Int)+(aw x i 0).length):=(bD Uc).trans Uc))
 all_goals exact agq
abbrev Lj1:cT:=dG (fun F f=>match f with|64=>dQ F|206=>dQ F|_=>fun _=>none) (by
 intro f;dsimp only;split;exact sK;exact sN;exact cX)
def eD:EC:=fun F=>fun
 |[.agg [.s 1 b,.s 1 x]]=>some (fun _=>OZ b x,[.one (.s 1 (F.ifL b x))])
 |_=>none
def xI:ec 176 eD:=by
 intro _ _ _ h hp;dsimp only[eD,F0]at h;split at h<;>cases h
 rename_i b x;have hbw:=hp.bw;have hxw:=hp.xw;have hbl:=hp.bl;have hxl:=hp.xl;refine cb Lj1 Tryz.func176 ?_
 intro O r F hO hr hF;cbv
 repeat' first|apply Zb|(apply bC<;>intro hb<;>cbv)|(refine⟨[1,3,15,16,17],[1,3],Int×ab,fun s_=>match s_ with|(i,o)=>[.reg 17 (.j i),.reg 3 (.one (.vw 3 0 0 0 (O.ln o))),.leaf 3 0 ⟨0,0,none,.own (.s 1 o)⟩],fun s_=>match s_ with|(i,o)=>0<=i/\i<=(b.length:Int)/\Rp b i o,fun s_=>match s_ with|(i,o)=>b.length-i.toNat,⟨(0,[]),?_,?_⟩,?_⟩;rotate_left;(focus (cbv;done));intro s_ hi;obtain⟨i,o⟩:=s_;replace hi:0<=i/\i<=(b.length:Int)/\Rp b i o:=hi;obtain⟨i0,i1,i2⟩:=hi;cbv)|(refine⟨[1,3,15,16,17,21,22,23],[1,3],Int×ab,fun s_=>match s_ with|(k,o1)=>[.reg 23 (.j k),.reg 3 (.one (.vw 3 0 0 0 (O.ln o1))),.leaf 3 0 ⟨0,0,none,.own (.s 1 o1)⟩],fun s_=>match s_ with|(k,o1)=>0<=k/\k<=((aw b i 0).length:Int)/\Rq b i k o1,fun s_=>match s_ with|(k,o1)=>(aw b i 0).length-k.toNat,⟨(0,o),?_,?_⟩,?_⟩;rotate_left;(focus (cbv;done));intro s_ hk;obtain⟨k,o1⟩:=s_;replace hk:0<=k/\k<=((aw b i 0).length:Int)/\Rq b i k o1:=hk;obtain⟨k0,k1,k2⟩:=hk;cbv)|(refine⟨[3,35,36,37],[3],Int×ab,fun s_=>match s_ with|(j,o2)=>[.reg 37 (.j j),.reg 3 (.one (.vw 3 0 0 0 (O.ln o2))),.leaf 3 0 ⟨0,0,none,.own (.s 1 o2)⟩],fun s_=>match s_ with|(j,o2)=>0<=j/\j<=(x.length:Int)/\Rr b x j o2,fun s_=>match s_ with|(j,o2)=>x.length-j.toNat,⟨(0,o),?_,?_⟩,?_⟩;rotate_left;(focus (cbv;done));intro s_ hj;obtain⟨j,o2⟩:=s_;replace hj:0<=j/\j<=(x.length:Int)/\Rr b x j o2:=hj;obtain⟨j0,j1,j2⟩:=hj;cbv)|(refine af (O.ar .add Za k 1,O.cat o1 (O.sub [[.i (O.gi (O.gs b i 0) k 1)]] 0 (O.ln [[.i (O.gi (O.gs b i 0) k 1)]]))) ?_ ?_ ?_;focus (cbv;done))|(refine af (O.ar .add Za i 1,o1) ?_ ?_ ?_;focus (cbv;done))|(refine af (O.ar .add Za j 1,O.cat o2 (O.gs x j 0)) ?_ ?_ ?_;focus (cbv;done))
 all_goals(subst hO hr hF;(try simp only[nc]at*);(try simp only[ah,SS,sa,az]at*);(try rw[dd Uc Uc]))
 all_goals exact agp
def yC:ec 306 eD:=by
 intro _ _ _ h hp;dsimp only[eD,F0]at h;split at h<;>cases h
 rename_i b x;have hbw:=hp.bw;have hxw:=hp.xw;have hbl:=hp.bl;have hxl:=hp.xl;refine cb Lj1 Tryz.func306 ?_
 intro O r F hO hr hF;cbv
 repeat' first|apply Zb|(apply bC<;>intro hb<;>cbv)|(refine⟨[1,3,4],[1,3],Int×ab,fun s_=>match s_ with|(i,o)=>[.reg 4 (.j i),.reg 3 (.one (.vw 3 0 0 0 (O.ln o))),.leaf 3 0 ⟨0,0,none,.own (.s 1 o)⟩],fun s_=>match s_ with|(i,o)=>0<=i/\i<=(b.length:Int)/\Rp b i o,fun s_=>match s_ with|(i,o)=>b.length-i.toNat,⟨(0,[]),?_,?_⟩,?_⟩;rotate_left;(focus (cbv;done));intro s_ hi;obtain⟨i,o⟩:=s_;replace hi:0<=i/\i<=(b.length:Int)/\Rp b i o:=hi;obtain⟨i0,i1,i2⟩:=hi;cbv)|(refine⟨[1,3,4,5],[1,3],Int×ab,fun s_=>match s_ with|(k,o1)=>[.reg 5 (.j k),.reg 3 (.one (.vw 3 0 0 0 (O.ln o1))),.leaf 3 0 ⟨0,0,none,.own (.s 1 o1)⟩],fun s_=>match s_ with|(k,o1)=>0<=k/\k<=((aw b i 0).length:Int)/\Rq b i k o1,fun s_=>match s_ with|(k,o1)=>(aw b i 0).length-k.toNat,⟨(0,o),?_,?_⟩,?_⟩;rotate_left;(focus (cbv;done));intro s_ hk;obtain⟨k,o1⟩:=s_;replace hk:0<=k/\k<=((aw b i 0).length:Int)/\Rq b i k o1:=hk;obtain⟨k0,k1,k2⟩:=hk;cbv)|(refine⟨[1,3,6],[1,3],Int×ab,fun s_=>match s_ with|(j,o2)=>[.reg 6 (.j j),.reg 3 (.one (.vw 3 0 0 0 (O.ln o2))),.leaf 3 0 ⟨0,0,none,.own (.s 1 o2)⟩],fun s_=>match s_ with|(j,o2)=>0<=j/\j<=(x.length:Int)/\Rr b x j o2,fun s_=>match s_ with|(j,o2)=>x.length-j.toNat,⟨(0,o),?_,?_⟩,?_⟩;rotate_left;(focus (cbv;done));intro s_ hj;obtain⟨j,o2⟩:=s_;replace hj:0<=j/\j<=(x.length:Int)/\Rr b x j o2:=hj;obtain⟨j0,j1,j2⟩:=hj;cbv)|(refine af (O.ar .add Za k 1,O.cat o1 (O.sub [[.i (O.gi (O.gs b i 0) k 1)]] 0 (O.ln [[.i (O.gi (O.gs b i 0) k 1)]]))) ?_ ?_ ?_;focus (cbv;done))|(refine af (O.ar .add Za i 1,o1) ?_ ?_ ?_;focus (cbv;done))|(refine af (O.ar .add Za j 1,O.cat o2 (O.gs x j 0)) ?_ ?_ ?_;focus (cbv;done))
 all_goals(subst hO hr hF;(try simp only[nc]at*);(try simp only[ah,SS,sa,az]at*);(try rw[dd Uc Uc]);(try have z9:bK .add Za j 1=j+1:=bD Uc);(try have z8:bK .add Za i 1=i+1:=bD Uc);(try simp only[z9]at*);(try simp only[z8]at*))
 all_goals exact agp
end Go.V