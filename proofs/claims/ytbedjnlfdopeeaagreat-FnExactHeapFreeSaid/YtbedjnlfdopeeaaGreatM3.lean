/- Contracts. -/
import Derived.Test.YtbedjnlfdopeeaaGreatM0
set_option linter.all false
open Go
open And renaming intro->Zb
open IntKind renaming i64->Za
open List renaming length_cons->Zn,length_nil->Zr
open True renaming intro->Zh
namespace Go.V
open Go Go.Proofs
set_option maxRecDepth 1000000
set_option maxHeartbeats 8000000
abbrev La0:da:=ez (fun F f=>match f with|193=>dL F|84=>bA F|28=>aj F|_=>fun _=>none) (by
 intro f;dsimp only;split;exact fo;exact cT;exact bE;exact de)
def dK:EC:=fun F=>fun
 |[.one (.v (.int Za k))]=>some (fun _=>True,[.j (F.slN k)])
 |_=>none
theorem lX:ec 290 dK:=by
 intro _ _ _ h hp;dsimp only[dK,F0]at h;split at h<;>cases h
 rename_i k;refine cb La0 Tryz.func290 ?_
 intro O r F hO hr hF;cbv
 repeat' first|apply Zb|(apply bF<;>intro hb<;>cbv)
 all_goals(subst hO hr hF;(try simp only[nc]at*);(try simp only[ah,SS,sa,az]at*))
 all_goals first
  | (show(_:List DV)=_
     first
      |exact cq (N7 (by assumption))
      |exact cq (Iv (by assumption)).symm
      |done)
  |(have:=mi (k:=k) (by assumption);omega)
  |done
theorem zT:ec 333 dK:=by
 intro _ _ _ h hp;dsimp only[dK,F0]at h;split at h<;>cases h
 rename_i k;refine cb La0 Tryz.func333 ?_
 intro O r F hO hr hF;cbv
 repeat' first|apply Zb|(apply bF<;>intro hb<;>cbv)
 all_goals(subst hO hr hF;(try simp only[nc]at*);(try simp only[ah,SS,sa,az]at*))
 all_goals first
  | (show(_:List DV)=_
     first
      |exact cq (N8 (by assumption))
      |exact cq (Iv (by assumption)).symm
      |done)
  |(rcases Pm (k:=k) (by assumption)with rfl|rfl|rfl|rfl<;>decide)
  |done
abbrev La1:da:=ez (fun F f=>match f with|41=>aj F|28=>aj F|_=>fun _=>none) (by
 intro f;dsimp only;split;exact bB;exact bE;exact de)
def eI:EC:=fun F=>fun
 |[.one (.v (.int Za n)),.one (.v (.int Za b))]=>some (fun _=>True,[.k (F.bmOk n b)])
 |_=>none
theorem wP:ec 316 eI:=by
 intro _ _ _ h hp;dsimp only[eI,F0]at h;split at h<;>cases h
 rename_i n b;refine cb La1 Tryz.func316 ?_
 intro O r F hO hr hF;cbv
 repeat' first|apply Zb|(apply bF<;>intro hb<;>cbv)
 all_goals(subst hO hr hF;(try simp only[nc]at*);(try simp only[ah,SS,sa,az]at*);(try(have e:=N6 (n:=n) (by assumption);simp only[e.1])))
 all_goals first
  | (show(_:List DV)=_
     first
      |exact ai (Lv (by assumption)).symm
      |exact ai (Q8 (by assumption)).symm
      |done)
  |(have:=bH.1 (‹inR n 1 16=true›);omega)
  |done
theorem xV:ec 332 eI:=by
 intro _ _ _ h hp;dsimp only[eI,F0]at h;split at h<;>cases h
 rename_i n b;refine cb La1 Tryz.func332 ?_
 intro O r F hO hr hF;cbv
 repeat' first|apply Zb|(apply bF<;>intro hb<;>cbv)
 all_goals(subst hO hr hF;(try simp only[nc]at*);(try simp only[ah,SS,sa,az]at*);(try(have e:=N6 (n:=n) (by assumption);simp only[e.2.1])))
 all_goals first
  | (show(_:List DV)=_
     first
      |exact ai (Lv (by assumption)).symm
      |exact ai (Q8 (by assumption)).symm
      |done)
  |exact(N6 (by assumption)).2.2
  |done
abbrev La2:da:=ez (fun F f=>match f with|41=>aj F|193=>dL F|290=>dK F|316=>eI F|28=>aj F|333=>dK F|332=>eI F|_=>fun _=>none) (by
 intro f;dsimp only;split;exact bB;exact fo;exact lX;exact wP;exact bE;exact zT;exact xV;exact de)
def bZ:EC:=fun F=>fun
 |[.agg [.v (.int Za p),.v (.int Za k),.v (.int Za b)]]=>some (fun _=>True,[.k (F.spOk p k b)])
 |_=>none
theorem hE:ec 227 bZ:=by
 intro _ _ _ h hp;dsimp only[bZ,F0]at h;split at h<;>cases h
 rename_i p k b;refine cb La2 Tryz.func227 ?_
 intro O r F hO hr hF;cbv
 repeat' first|apply Zb|(apply bF<;>intro hb<;>cbv)
 all_goals(subst hO hr hF;(try simp only[nc]at*);(try simp only[ah,SS,sa,az]at*))
 all_goals first
  | (show(_:List DV)=_
     first
      |exact ai (Od (by assumption)).symm
      |exact ai (Oc (by assumption)).symm
      |exact ai (ab9 (by assumption)).symm
      |done)
  |(show aP _ _=true;kernel_rfl)
  |done
theorem hH:ec 259 bZ:=by
 intro _ _ _ h hp;dsimp only[bZ,F0]at h;split at h<;>cases h
 rename_i p k b;refine cb La2 Tryz.func259 ?_
 intro O r F hO hr hF;cbv
 repeat' first|apply Zb|(apply bF<;>intro hb<;>cbv)
 all_goals(subst hO hr hF;(try simp only[nc]at*);(try simp only[ah,SS,sa,az]at*))
 all_goals first
  | (show(_:List DV)=_
     first
      |exact ai (Od (by assumption)).symm
      |exact ai (Oc (by assumption)).symm
      |done)
  |(show aP _ _=true;kernel_rfl)
  |done
def eP:EC:=fun F=>fun
 |[.one (.v (.int Za s))]=>some (fun _=>True,[.j (F.pfN s)])
 |_=>none
theorem wW:ec 205 eP:=by
 intro _ _ _ h hp;dsimp only[eP,F0]at h;split at h<;>cases h
 rename_i s;refine cb La1 Tryz.func205 ?_
 exact agA
theorem x7:ec 286 eP:=by
 intro _ _ _ h hp;dsimp only[eP,F0]at h;split at h<;>cases h
 rename_i s;refine cb La1 Tryz.func286 ?_
 exact agA
abbrev La3:da:=ez (fun F f=>match f with|41=>aj F|205=>eP F|286=>eP F|28=>aj F|_=>fun _=>none) (by
 intro f;dsimp only;split;exact bB;exact wW;exact x7;exact bE;exact de)
def dJ:EC:=fun F=>fun
 |[.agg [.v (.int Za p),.v (.int Za n),.v (.int Za s)]]=>some (fun _=>True,[.k (F.lgOk p n s)])
 |_=>none
theorem qz:ec 228 dJ:=by
 intro _ _ _ h hp;dsimp only[dJ,F0]at h;split at h<;>cases h
 rename_i p n s;refine cb La3 Tryz.func228 ?_
 intro O r F hO hr hF;cbv
 repeat' first|apply Zb|(apply bF<;>intro hb<;>cbv)
 all_goals(subst hO hr hF;(try simp only[nc]at*);(try simp only[ah,SS,sa,az]at*))
 all_goals first
  | (show(_:List DV)=_
     first
      |(have b:=lL (s:=s) (by assumption);rw[show bO .sub Za 32 n=32-n from dG (by omega)];exact ai (MQ (by assumption) (by assumption)).symm)
      |exact ai (MO (by assumption)).symm
      |exact ai (MP (by assumption)).symm
      |done)
  |(show aP _ _=true;kernel_rfl)
  |done
theorem qD:ec 261 dJ:=by
 intro _ _ _ h hp;dsimp only[dJ,F0]at h;split at h<;>cases h
 rename_i p n s;refine cb La3 Tryz.func261 ?_
 intro O r F hO hr hF;cbv
 repeat' first|apply Zb|(apply bF<;>intro hb<;>cbv)
 all_goals(subst hO hr hF;(try simp only[nc]at*);(try simp only[ah,SS,sa,az]at*))
 all_goals first
  | (show(_:List DV)=_
     first
      |(have q:=Nx.1 (‹0<pfN s›);have b:=lL q;rw[show bO .sub Za 32 (pfN s)=32-pfN s from dG (by omega), ‹n=pfN s›];exact ai (MQ q rfl).symm)
      |(refine ai (MO ?_).symm;cases q:inR s 9 1000;rfl;have:=Nx.2 q;omega)
      |exact ai (MP (by assumption)).symm
      |done)
  |done
abbrev La4:da:=ez (fun F f=>match f with|41=>aj F|227=>bZ F|84=>bA F|290=>dK F|228=>dJ F|259=>bZ F|183=>bA F|261=>dJ F|_=>fun _=>none) (by
 intro f;dsimp only;split;exact bB;exact hE;exact cT;exact lX;exact qz;exact hH;exact d9;exact qD;exact de)
def nP:EC:=fun F=>fun
 |[.agg [.v (.int Za p),.v (.int Za k),.v (.int Za b)],.one (.v (.int Za a))]=>some (fun _=>True,[.j (F.saS p k b a),.j (F.saO p k b a)])
 |_=>none
theorem BP:ec 241 nP:=by
 intro _ _ _ h hp;dsimp only[nP,F0]at h;split at h<;>cases h
 rename_i p k b a;refine cb La4 Tryz.func241 ?_
 intro O r F hO hr hF;cbv
 repeat' first|apply Zb|(apply bF<;>intro hb<;>cbv)
 all_goals(subst hO hr hF;(try simp only[nc]at*);(try simp only[ah,SS,sa,az]at*);(try(have t:=ku (p:=p) (k:=k) (b:=b) (by assumption);have c:=mi t.2.2.1;have e:=aeN (p:=p) ⟨t.1,t.2.1⟩;try simp only[e.1,e.2]at*)))
 all_goals first
  | (show(_:List DV)=_
     first
      |(have q:=Qn (p:=p) (k:=k) (b:=b) (a:=a) (by assumption) (by assumption);exact As q.1.symm q.2.symm)
      |(have q:=Dg (To (p:=p) (k:=k) (b:=b) (a:=a) (by assumption));exact As q.1.symm q.2.symm)
      |(have q:=Dg (afF (p:=p) (k:=k) (b:=b) (a:=a) (by assumption));exact As q.1.symm q.2.symm)
      |done)
  |(show aP _ _=true;kernel_rfl)
  |omega
  |done
def j8:EC:=fun F=>fun
 |[.agg [.v (.int Za p),.v (.int Za k),.v (.int Za b)],.one (.v (.int Za a))]=>some (fun _=>K4 a,[.j (F.saS p k b a),.j (F.saO p k b a)])
 |_=>none
theorem sn:ec 213 j8:=by
 intro _ _ _ h hp;dsimp only[j8,F0]at h;split at h<;>cases h
 rename_i p k b a;refine cb La4 Tryz.func213 ?_
 intro O r F hO hr hF;cbv
 repeat' first|apply Zb|(apply bF<;>intro hb<;>cbv)
 all_goals(subst hO hr hF;(try simp only[nc]at*);(try simp only[ah,SS,sa,az]at*);(try(have t:=ku (p:=p) (k:=k) (b:=b) (by assumption);have c:=mi t.2.2.1)))
 all_goals first
  | (show(_:List DV)=_
     first
      |(have q:=Qo (p:=p) (k:=k) (b:=b) (a:=a) (by assumption) (by omega) (by assumption) (by omega);exact As q.1.symm q.2.symm)
      |(have q:=Dg (To (p:=p) (k:=k) (b:=b) (a:=a) (by assumption));exact As q.1.symm q.2.symm)
      |(have q:=Dg (Tp (p:=p) (k:=k) (b:=b) (a:=a) (.inl (by omega)) (by omega));exact As q.1.symm q.2.symm)
      |(have q:=Dg (Tp (p:=p) (k:=k) (b:=b) (a:=a) (.inr (by assumption)) (by omega));exact As q.1.symm q.2.symm)
      |done)
  |(show aP _ _=true;kernel_rfl)
  |omega
  |done
def kG:EC:=fun F=>fun
 |[.agg [.v (.int Za p),.v (.int Za k),.v (.int Za b)],.one (.v (.int Za s))]=>some (fun _=>True,[.j (F.aaI p k b s)])
 |_=>none
theorem wZ:ec 294 kG:=by
 intro _ _ _ h hp;dsimp only[kG,F0]at h;split at h<;>cases h
 rename_i p k b s;refine cb La4 Tryz.func294 ?_
 intro O r F hO hr hF;cbv
 repeat' first|apply Zb|(apply bF<;>intro hb<;>cbv)
 all_goals(subst hO hr hF;(try simp only[nc]at*);(try simp only[ah,SS,sa,az]at*);(try(have t:=ku (p:=p) (k:=k) (b:=b) (by assumption);have c:=mi t.2.2.1;have e:bO .sub Za (slN k) 1=slN k-1:=dG (by omega);try simp only[e]at*)))
 all_goals first
  | (show(_:List DV)=_
     first
      |exact cq (aab (by assumption) (by assumption))
      |exact cq (Q4 (.inl (by assumption))).symm
      |exact cq (Q4 (.inr (by assumption))).symm
      |done)
  |(show aP _ _=true;kernel_rfl)
  |done
def dt:EC:=fun F=>fun
 |[.agg [.v (.int Za p),.v (.int Za n),.v (.int Za s)],.one (.v (.int Za a))]=>some (fun _=>True,[.k (F.lhB p n s a)])
 |_=>none
theorem pT:ec 243 dt:=by
 intro _ _ _ h hp;dsimp only[dt,F0]at h;split at h<;>cases h
 rename_i p n s a;refine cb La4 Tryz.func243 ?_
 intro O r F hO hr hF;cbv
 repeat' first|apply Zb|(apply bF<;>intro hb<;>cbv)
 all_goals(subst hO hr hF;(try simp only[nc]at*);(try simp only[ah,SS,sa,az]at*);(try(have e:=MR (p:=p) (n:=n) (s:=s) (by assumption);try simp only[e.2.2])))
 all_goals first
  | (show(_:List DV)=_
     first
      |(rw[e.1];exact ai (H0 (by assumption)).symm)
      |exact ai (MS (by assumption)).symm
      |done)
  |done
theorem pZ:ec 334 dt:=by
 intro _ _ _ h hp;dsimp only[dt,F0]at h;split at h<;>cases h
 rename_i p n s a;refine cb La4 Tryz.func334 ?_
 intro O r F hO hr hF;cbv
 repeat' first|apply Zb|(apply bF<;>intro hb<;>cbv)
 all_goals(subst hO hr hF;(try simp only[nc]at*);(try simp only[ah,SS,sa,az]at*);(try(have e:=MR (p:=p) (n:=n) (s:=s) (by assumption);try simp only[e.1]at*)))
 all_goals first
  | (show(_:List DV)=_
     first
      |exact ai (MS (by assumption)).symm
      |(refine ai (gW ?_);rw[H0 (by assumption),bH];simp only[SS,dA,VV];omega)
      |(refine ai (gW ?_);rw[H0 (by assumption),bH];simp only[Bool.false_eq_true,false_iff];omega)
      |done)
  |done
abbrev La5:da:=ez (fun F f=>match f with|243=>dt F|334=>dt F|_=>fun _=>none) (by
 intro f;dsimp only;split;exact pT;exact pZ;exact de)
def dB:EC:=fun F=>fun
 |[.agg [.v (.int Za p),.v (.int Za n),.v (.int Za s)],.one (.v (.int Za a))]=>some (fun _=>True,[.j (F.loI p n s a)])
 |_=>none
theorem sC:ec 244 dB:=by
 intro _ _ _ h hp;dsimp only[dB,F0]at h;split at h<;>cases h
 rename_i p n s a;refine cb La5 Tryz.func244 ?_
 exact agB
theorem sI:ec 335 dB:=by
 intro _ _ _ h hp;dsimp only[dB,F0]at h;split at h<;>cases h
 rename_i p n s a;refine cb La5 Tryz.func335 ?_
 exact agB
def ga:EC:=fun F=>fun
 |[.one (.s 1 l),.one (.v (.int Za x))]=>some (fun _=>Rw [tI] l,[.k (F.hasB l x)])
 |_=>none
theorem j5:ec 260 ga:=by
 intro _ _ _ h hp;dsimp only[ga,F0]at h;split at h<;>cases h
 rename_i l x;have hw:=hp;have hm:=hw.1;unfold maxLen at hm;refine cb nB Tryz.func260 ?_
 intro O r F hO hr hF;cbv
 repeat' first|apply Zb|(apply bF<;>intro hb<;>cbv)|(refine⟨[0,1,5],[],Int,fun i=>[.reg 5 (.j i)],fun i=>0<=i/\i<=((l.length:Nat):Int)/\upto (cZ (R7 l x)) i,fun i=>(l.length)-i.toNat,⟨0,?_,?_⟩,?_⟩;rotate_left;(focus (cbv;done));intro i hi;replace hi:0<=i/\i<=((l.length:Nat):Int)/\upto (cZ (R7 l x)) i:=hi;obtain⟨i0,i1,i2⟩:=hi;cbv)|(refine ag (O.ar .add Za i 1) ?_ ?_ ?_;focus (cbv;done))
 all_goals(subst hO hr hF;(try simp only[nc]at*);(try simp only[ah,SS,sa,az]at*);(try rw[db (by omega) (by omega)]))
 all_goals first
  | (show(_:List DV)=_
     first
      |(refine ai ?_;symm;rw[Jh];exact⟨i.toNat,by omega,by rw[Int.toNat_of_nonneg i0];assumption⟩)
      |(refine ai ?_;symm;exact aaR i2 (by omega))
      |done)
  |omega
  |exact gj
  |exact bK
  |exact aZ i2 (by unfold cZ R7;rw[wn (fun e=>absurd e.symm (by assumption))];rfl)
  |done
def iO:EP:=fun F=>fun
 |[.one (.v (.int Za pg)),.mp [.own (.m true es)]]=>some (fun _=>True,[[.own (.m true (F.muT es pg))]],[.k (!(F.mgbI es pg))])
 |_=>none
theorem tg:ep 226 iO:=by
 intro _ _ _ _ h hp;dsimp only[iO,F0]at h;split at h<;>cases h
 rename_i pg es;refine pb nB Tryz.func226 ?_
 intro O r os F hO hr hos hF;cbv
 repeat' first|apply Zb|(apply bF<;>intro hb<;>cbv)
 all_goals((try subst hos);subst hO hr hF;(try simp only[nc]at*);(try simp only[ah,SS,sa,az]at*))
 all_goals first|(show(_:List DV)=_;exact rfl)|(show(_:List H)=_;exact rfl)|done
abbrev Lb1:da:=ez (fun F f=>match f with|259=>bZ F|261=>dJ F|260=>ga F|_=>fun _=>none) (by
 intro f;dsimp only;split;exact hH;exact qD;exact j5;exact de)
def cH:EC:=fun F=>fun
 |[.one (.s 3 sp),.one (.s 3 lg)]=>some (fun _=>Rw [tI,tI,tI] sp/\Rw [tI,tI,tI] lg/\sp.length<=1073741824/\lg.length<=1073741824,[.k (F.layOk sp lg)])
 |_=>none
theorem kD:ec 166 cH:=by
 intro _ _ _ h hp;dsimp only[cH,F0]at h;split at h<;>cases h
 rename_i sp lg;obtain⟨hs,hl,ns,nl⟩:=hp;refine cb Lb1 Tryz.func166 ?_
 intro O r F hO hr hF;cbv
 repeat' first|apply Zb|(apply bF<;>intro hb<;>cbv)|(refine⟨[0,1,5,6],[5],Int×aa,fun s_=>match s_ with|(i,o)=>[.reg 6 (.j i),.reg 5 (.one (.vw 5 0 0 0 (O.ln o))),.leaf 5 0 ⟨0,0,none,.own (.s 1 o)⟩],fun s_=>match s_ with|(i,o)=>0<=i/\i<=(sp.length:Int)/\OS sp i o,fun s_=>match s_ with|(i,o)=>sp.length-i.toNat,⟨(0,[]),?_,?_⟩,?_⟩;rotate_left;(focus (cbv;done));intro s_ hi;obtain⟨i,o⟩:=s_;replace hi:0<=i/\i<=(sp.length:Int)/\OS sp i o:=hi;obtain⟨i0,i1,i2⟩:=hi;cbv)|(refine⟨[1,5,7],[5],Int×aa,fun s_=>match s_ with|(j,o1)=>[.reg 7 (.j j),.reg 5 (.one (.vw 5 0 0 0 (O.ln o1))),.leaf 5 0 ⟨0,0,none,.own (.s 1 o1)⟩],fun s_=>match s_ with|(j,o1)=>0<=j/\j<=(lg.length:Int)/\LlP sp lg j o1,fun s_=>match s_ with|(j,o1)=>lg.length-j.toNat,⟨(0,o),?_,?_⟩,?_⟩;rotate_left;(focus (cbv;done));intro s_ hj;obtain⟨j,o1⟩:=s_;replace hj:0<=j/\j<=(lg.length:Int)/\LlP sp lg j o1:=hj;obtain⟨j0,j1,j2⟩:=hj;cbv)|(refine⟨[1,5,7,8],[5],Int×aa,fun s_=>match s_ with|(k,o2)=>[.reg 8 (.j k),.reg 5 (.one (.vw 5 0 0 0 (O.ln o2))),.leaf 5 0 ⟨0,0,none,.own (.s 1 o2)⟩],fun s_=>match s_ with|(k,o2)=>0<=k/\k<=ab lg j 1/\OR sp lg j k o2,fun s_=>match s_ with|(k,o2)=>(ab lg j 1-k).toNat,⟨(0,o1),?_,?_⟩,?_⟩;rotate_left;(focus (cbv;done));intro s_ hk;obtain⟨k,o2⟩:=s_;replace hk:0<=k/\k<=ab lg j 1/\OR sp lg j k o2:=hk;obtain⟨k0,k1,k2⟩:=hk;cbv)|(refine ag (O.ar .add Za k 1,O.cat o2 (O.sub [[.i (O.ar .add Za (O.gi lg j 0) k)]] 0 (O.ln [[.i (O.ar .add Za (O.gi lg j 0) k)]]))) ?_ ?_ ?_;focus (cbv;done))|(refine ag (O.ar .add Za j 1,o2) ?_ ?_ ?_;focus (cbv;done))|(refine ag (O.ar .add Za i 1,O.cat o (O.sub [[.i (O.gi sp i 0)]] 0 (O.ln [[.i (O.gi sp i 0)]]))) ?_ ?_ ?_;focus (cbv;done))
 all_goals(subst hO hr hF;(try simp only[nc]at*);(try simp only[ah,SS,sa,az]at*);(try rw[db (by omega) (by omega)]);(try have z:=(ad5 (k:=k) (by assumption) k0 (by assumption)));(try(obtain⟨z1,z2,z3,z4,z5⟩:=z));(try have z6:bO .add Za k 1=k+1:=bz (by omega));(try simp only[z3]at*);(try simp only[z6]at*))
 all_goals first
  | (show(_:List DV)=_
     first
      |(refine ai ?_;symm;exact Js i0 (by assumption) (by assumption))
      |(refine ai ?_;symm;exact abt i2 i0 (by assumption) (by assumption))
      |(refine ai ?_;symm;exact Jt j0 (by assumption) (by assumption))
      |(refine ai ?_;symm;exact abo k2 j0 (by assumption) k0 (by assumption) (by assumption))
      |(refine ai ?_;symm;exact abq j2 j1 (by assumption))
      |done)
  |omega
  |exact gj
  |exact aea i2 (by omega)
  |exact ad6 k2 (by omega) (by omega) (by omega)
  |(have q:=MV i2;constructor<;>(simp only[Zn,Zr];omega))
  |(have q:=MU k2;constructor<;>(simp only[Zn,Zr];omega))
  |exact aeb i2 i0 (by assumption) (by assumption)
  |exact ad7 k2 k0 (by omega) (by assumption)
  |exact abp k2 j0 (by assumption) k0 k1 (by assumption)
  |exact ahv j2
  |exact abu i2 i1 (by assumption)
  |exact ahw
  |exact⟨Zh,Zh⟩
  |(have t:=kn (by assumption);have b:=lL t.1;omega)
  |done
abbrev Lc1:da:={
 Φ:=rz
 F0:=F0
 ct:=fun F f=>match f with|227=>bZ F|228=>dJ F|_=>fun _=>none
 hc:=(by
  intro f;dsimp only;split;exact hE;exact qz;exact de)
 pt:=fun F f=>match f with|226=>some (iO F)|_=>none
 hp:=(by
  intro f mk h;dsimp only at h;split at h<;>cases h
  exact tg)}
theorem kz:ec 126 cH:=by
 intro _ _ _ h hp;dsimp only[cH,F0]at h;split at h<;>cases h
 rename_i sp lg;obtain⟨hs,hl,ns,nl⟩:=hp;refine cb Lc1 Tryz.func126 ?_
 intro O r F hO hr hF;cbv
 repeat' first|apply Zb|(apply bF<;>intro hb<;>cbv)|(refine⟨[1,6,14,15,16],[5],Int×aa,fun s_=>match s_ with|(i,es)=>[.reg 16 (.j i),.leaf 5 0 ⟨0,0,none,.own (.m true es)⟩],fun s_=>match s_ with|(i,es)=>0<=i/\i<=(sp.length:Int)/\TR sp i es,fun s_=>match s_ with|(i,es)=>sp.length-i.toNat,⟨(0,[]),?_,?_⟩,?_⟩;rotate_left;(focus (cbv;done));intro s_ hi;obtain⟨i,es⟩:=s_;replace hi:0<=i/\i<=(sp.length:Int)/\TR sp i es:=hi;obtain⟨i0,i1,i2⟩:=hi;cbv)|(refine⟨[6,31,32,33],[5],Int×aa,fun s_=>match s_ with|(j,es1)=>[.reg 33 (.j j),.leaf 5 0 ⟨0,0,none,.own (.m true es1)⟩],fun s_=>match s_ with|(j,es1)=>0<=j/\j<=(lg.length:Int)/\IlP sp lg j es1,fun s_=>match s_ with|(j,es1)=>lg.length-j.toNat,⟨(0,es),?_,?_⟩,?_⟩;rotate_left;(focus (cbv;done));intro s_ hj;obtain⟨j,es1⟩:=s_;replace hj:0<=j/\j<=(lg.length:Int)/\IlP sp lg j es1:=hj;obtain⟨j0,j1,j2⟩:=hj;cbv)|(refine⟨[6,10,11,31,32,33],[5,10],Int×aa,fun s_=>match s_ with|(k,es2)=>[.reg 11 (.j k),.leaf 5 0 ⟨0,0,none,.own (.m true es2)⟩],fun s_=>match s_ with|(k,es2)=>0<=k/\k<=ab lg j 1/\TP sp lg j k es2,fun s_=>match s_ with|(k,es2)=>(ab lg j 1-k).toNat,⟨(0,es1),?_,?_⟩,?_⟩;rotate_left;(focus (cbv;done));intro s_ hk;obtain⟨k,es2⟩:=s_;replace hk:0<=k/\k<=ab lg j 1/\TP sp lg j k es2:=hk;obtain⟨k0,k1,k2⟩:=hk;cbv)|(refine ag (O.ar .add Za k 1,F.muT es2 (O.ar .add Za (O.gi lg j 0) k)) ?_ ?_ ?_;focus (cbv;done))|(refine ag (O.ar .add Za j 1,es2) ?_ ?_ ?_;focus (cbv;done))|(refine ag (O.ar .add Za i 1,F.muT es (O.gi sp i 0)) ?_ ?_ ?_;focus (cbv;done))
 all_goals(subst hO hr hF;(try simp only[nc]at*);(try simp only[ah,SS,sa,az]at*);(try rw[db (by omega) (by omega)]);(try have z:=(ad5 (k:=k) (by assumption) k0 (by assumption)));(try(obtain⟨z1,z2,z3,z4,z5⟩:=z));(try have z6:bO .add Za k 1=k+1:=bz (by omega));(try simp only[z3]at*);(try simp only[z6]at*))
 all_goals first
  | (show(_:List DV)=_
     first
      |(refine ai ?_;symm;exact abh i2 i0 (by assumption) (aeu (b:=mgbI es (ab sp i 0)) hb))
      |(refine ai ?_;symm;exact abb k2 j0 (by assumption) k0 (by assumption) (aeu (b:=mgbI es2 (ab lg j 0+k)) hb))
      |(refine ai ?_;symm;exact Js i0 (by assumption) (by assumption))
      |(refine ai ?_;symm;exact Jt j0 (by assumption) (by assumption))
      |(refine ai ?_;symm;exact abd j2 j1 (by assumption))
      |done)
  |omega
  |exact gj
  |exact adL i2 i0 (by assumption) (aev (b:=mgbI es (ab sp i 0)) hb)
  |exact adK k2 k0 (aev (b:=mgbI es2 (ab lg j 0+k)) hb)
  |exact abc k2 j0 (by assumption) k1 (by assumption)
  |exact ahp j2
  |exact abi i2 i1 (by assumption)
  |exact ahq
  |(have t:=kn (by assumption);have b:=lL t.1;omega)
  |done
abbrev Ld1:da:=ez (fun F f=>match f with|241=>nP F|242=>cD F|243=>dt F|244=>dB F|166=>cH F|213=>j8 F|305=>cD F|334=>dt F|335=>dB F|_=>fun _=>none) (by
 intro f;dsimp only;split;exact BP;exact iK;exact pT;exact sC;exact kD;exact sn;exact mg;exact pZ;exact sI;exact de)
def eB:EC:=fun F=>fun
 |[.one (.s 3 sp),.one (.s 3 lg),.one (.v (.int Za a))]=>some (fun _=>Rw [tI,tI,tI] sp/\Rw [tI,tI,tI] lg,[.agg [.i (F.dnK sp lg a),.i (F.dnI sp lg a),.i (F.dnS sp a),.i (F.dnO sp lg a)]])
 |_=>none
theorem gx:ec 137 eB:=by
 intro _ _ _ h hp;dsimp only[eB,F0]at h;split at h<;>cases h
 rename_i sp lg a;obtain⟨hs,hl⟩:=hp;have ms:=hs.1;unfold maxLen at ms;have ml:=hl.1;unfold maxLen at ml;refine cb Ld1 Tryz.func137 ?_
 intro O r F hO hr hF;cbv
 repeat' first|apply Zb|(apply bF<;>intro hb<;>cbv)|(refine⟨[1,2,6,14,15,16],[6],Int,fun i=>[.reg 16 (.j i)],fun i=>0<=i/\i<=((sp.length:Nat):Int)/\upto (cZ (BI sp a)) i,fun i=>(sp.length)-i.toNat,⟨0,?_,?_⟩,?_⟩;rotate_left;(focus (cbv;done));intro i hi;replace hi:0<=i/\i<=((sp.length:Nat):Int)/\upto (cZ (BI sp a)) i:=hi;obtain⟨i0,i1,i2⟩:=hi;cbv)|(refine ag (O.ar .add Za i 1) ?_ ?_ ?_;focus (cbv;done))|(refine⟨[2,6,39,40,41],[6],Int,fun j=>[.reg 41 (.j j)],fun j=>0<=j/\j<=((lg.length:Nat):Int)/\upto (cZ (BG lg a)) j,fun j=>(lg.length)-j.toNat,⟨0,?_,?_⟩,?_⟩;rotate_left;(focus (cbv;done));intro j hj;replace hj:0<=j/\j<=((lg.length:Nat):Int)/\upto (cZ (BG lg a)) j:=hj;obtain⟨j0,j1,j2⟩:=hj;cbv)|(refine ag (O.ar .add Za j 1) ?_ ?_ ?_;focus (cbv;done))
 all_goals(subst hO hr hF;(try simp only[nc]at*);(try simp only[ah,SS,sa,az]at*);(try rw[db (by omega) (by omega)]))
 all_goals first
  | (show(_:List DV)=_
     first
      |exact ow1 i2 i0 (by assumption) (by assumption) (by assumption)
      |exact ow2 i2 i0 (by assumption) (by assumption) (by assumption)
      |exact ow3 i2 (by assumption) j2 j0 (by assumption) (by assumption)
      |exact ow4 i2 (by assumption) j2 (by assumption)
      |done)
  |omega
  |exact gj
  |exact afE i2 (by assumption)
  |exact adX j2 (by assumption)
  |exact bK
  |done
def fF:EC:=fun F=>fun
 |[.one (.s 3 sp),.one (.s 3 lg),.one (.v (.int Za a))]=>some (fun _=>Rw [tI,tI,tI] sp/\Rw [tI,tI,tI] lg/\sp.length<=1073741824/\lg.length<=1073741824/\ -9223372036854775808<=a/\a<=9223372036854775807,[.agg [.i (F.dzK sp lg a),.i (F.dzI sp lg a),.i (F.dzS sp lg a),.i (F.dzO sp lg a)]])
 |_=>none
theorem iL:ec 268 fF:=by
 intro _ _ _ h hp;dsimp only[fF,F0]at h;split at h<;>cases h
 rename_i sp lg a;obtain⟨hs,hl,ns,nl,a0,a1⟩:=hp;refine cb Ld1 Tryz.func268 ?_
 intro O r F hO hr hF;cbv
 repeat' first|apply Zb|(apply bF<;>intro hb<;>cbv)|(refine⟨[0,1,2,6,7],[6],Int,fun i=>[.reg 7 (.j i)],fun i=>0<=i/\i<=((sp.length:Nat):Int)/\upto (cZ (BI sp a)) i,fun i=>(sp.length)-i.toNat,⟨0,?_,?_⟩,?_⟩;rotate_left;(focus (cbv;done));intro i hi;replace hi:0<=i/\i<=((sp.length:Nat):Int)/\upto (cZ (BI sp a)) i:=hi;obtain⟨i0,i1,i2⟩:=hi;cbv)|(refine ag (O.ar .add Za i 1) ?_ ?_ ?_;focus (cbv;done))|(refine⟨[1,2,6,11],[6],Int,fun j=>[.reg 11 (.j j)],fun j=>0<=j/\j<=((lg.length:Nat):Int)/\upto (cZ (BG lg a)) j,fun j=>(lg.length)-j.toNat,⟨0,?_,?_⟩,?_⟩;rotate_left;(focus (cbv;done));intro j hj;replace hj:0<=j/\j<=((lg.length:Nat):Int)/\upto (cZ (BG lg a)) j:=hj;obtain⟨j0,j1,j2⟩:=hj;cbv)|(refine ag (O.ar .add Za j 1) ?_ ?_ ?_;focus (cbv;done))
 all_goals(subst hO hr hF;(try simp only[nc]at*);(try simp only[ah,SS,sa,az]at*);(try rw[db (by omega) (by omega)]))
 all_goals first
  | (show(_:List DV)=_
     first
      |exact Eq.trans (ow1 i2 i0 (by assumption) (by assumption) (by assumption)) (Pq (by assumption))
      |exact Eq.trans (ow2 i2 i0 (by assumption) (by assumption) (by assumption)) (Pq (by assumption))
      |exact Eq.trans (ow3 i2 (by assumption) j2 j0 (by assumption) (by assumption)) (Pq (by assumption))
      |exact Eq.trans (ow4 i2 (by assumption) j2 (by assumption)) (Pq (by assumption))
      |exact ag0 (by assumption)
      |done)
  |omega
  |exact gj
  |exact afE i2 (by assumption)
  |exact adX j2 (by assumption)
  |exact bK
  |exact⟨hs,hl,ns,nl⟩
  |done
abbrev Le1:da:=ez (fun F f=>match f with|166=>cH F|268=>fF F|_=>fun _=>none) (by
 intro f;dsimp only;split;exact kD;exact iL;exact de)
def jQ:EC:=fun F=>fun
 |[.one (.s 3 sp),.one (.s 3 lg)]=>some (fun _=>Rw [tI,tI,tI] sp/\Rw [tI,tI,tI] lg/\sp.length<=1073741824/\lg.length<=1073741824,[.one (.s 1 (F.laL sp lg))])
 |_=>none
theorem vp:ec 271 jQ:=by
 intro _ _ _ h hp;dsimp only[jQ,F0]at h;split at h<;>cases h
 rename_i sp lg;obtain⟨hs,hl,ns,nl⟩:=hp;refine cb Le1 Tryz.func271 ?_
 intro O r F hO hr hF;cbv
 repeat' first|apply Zb|(apply bF<;>intro hb<;>cbv)|(refine⟨[0,1,5,6],[5],Int×aa,fun s_=>match s_ with|(i,o)=>[.reg 6 (.j i),.reg 5 (.one (.vw 5 0 0 0 (O.ln o))),.leaf 5 0 ⟨0,0,none,.own (.s 1 o)⟩],fun s_=>match s_ with|(i,o)=>0<=i/\i<=512/\OQ sp lg i o,fun s_=>match s_ with|(i,o)=>512-i.toNat,⟨(0,[]),?_,?_⟩,?_⟩;rotate_left;(focus (cbv;done));intro s_ hi;obtain⟨i,o⟩:=s_;replace hi:0<=i/\i<=512/\OQ sp lg i o:=hi;obtain⟨i0,i1,i2⟩:=hi;cbv)|(refine ag (O.ar .add Za i 1,O.cat o (O.sub [[.i i]] 0 (O.ln [[.i i]]))) ?_ ?_ ?_;focus (cbv;done))|(refine ag (O.ar .add Za i 1,o) ?_ ?_ ?_;focus (cbv;done))
 all_goals(subst hO hr hF;(try simp only[nc]at*);(try simp only[ah,SS,sa,az]at*);(try rw[db (by omega) (by omega)]))
 all_goals first
  | (show(_:List DV)=_
     first
      |(refine vR ?_;exact abl i2 i1 (by assumption))
      |(refine vR ?_;exact abk i2 i0 (by assumption))
      |done)
  |omega
  |exact⟨hs,hl,ns,nl⟩
  |exact⟨hs,hl,ns,nl,by omega,by omega⟩
  |(have q:=i2.l;constructor<;>(simp only[Zn,Zr];omega))
  |exact MG i2 i0 (by assumption) (aef (by assumption) (by assumption))
  |exact MG i2 i0 (by assumption) (aeg (by assumption) (by assumption))
  |exact Se i2 i0 (by assumption) (aec (by assumption))
  |exact Se i2 i0 (by assumption) (aed (by assumption) (by assumption))
  |exact ahs
  |(have q:true=false:=(by assumption);cases q)
  |exact⟨Zh,Zh⟩
  |done
def Tryz.lays189_ren:Go.Shelf.Ren:=⟨fun|189=>319|125=>362|257=>361|128=>378|129=>379|294=>369|295=>370|296=>371|297=>372|298=>373|299=>374|216=>375|300=>376|301=>377|328=>381|329=>382|330=>383|331=>384|332=>385|215=>386|343=>387|n=>n,fun|28=>31|3=>3|46=>286|0=>0|51=>343|53=>345|4=>4|183=>337|182=>336|131=>162|5=>5|9=>9|218=>347|222=>351|228=>353|229=>159|n=>n,fun|n=>n⟩
theorem Tryz.lays189:Lays.n189 Tryz.prog Tryz.lays189_ren:=⟨by kernel_rfl,Tryz.func362.trans (congrArg some (by kernel_rfl)),Tryz.func378.trans (congrArg some (by kernel_rfl)),Tryz.func379.trans (congrArg some (by kernel_rfl)),Tryz.func319.trans (congrArg some (by kernel_rfl)),Tryz.func386.trans (congrArg some (by kernel_rfl)),Tryz.func375.trans (congrArg some (by kernel_rfl)),Tryz.func361.trans (congrArg some (by kernel_rfl)),Tryz.func369.trans (congrArg some (by kernel_rfl)),Tryz.func370.trans (congrArg some (by kernel_rfl)),Tryz.func371.trans (congrArg some (by kernel_rfl)),Tryz.func372.trans (congrArg some (by kernel_rfl)),Tryz.func373.trans (congrArg some (by kernel_rfl)),Tryz.func374.trans (congrArg some (by kernel_rfl)),Tryz.func376.trans (congrArg some (by kernel_rfl)),Tryz.func377.trans (congrArg some (by kernel_rfl)),Tryz.func381.trans (congrArg some (by kernel_rfl)),Tryz.func382.trans (congrArg some (by kernel_rfl)),Tryz.func383.trans (congrArg some (by kernel_rfl)),Tryz.func384.trans (congrArg some (by kernel_rfl)),Tryz.func385.trans (congrArg some (by kernel_rfl)),Tryz.func387.trans (congrArg some (by kernel_rfl)),Tryz.underlying0,Tryz.isAgg0,Tryz.sizeOf0,Tryz.zeroValue0,Tryz.underlying3,Tryz.isAgg3,Tryz.sizeOf3,Tryz.zeroValue3,Tryz.underlying4,Tryz.isAgg4,Tryz.sizeOf4,Tryz.zeroValue4,Tryz.underlying5,Tryz.isAgg5,Tryz.sizeOf5,Tryz.zeroValue5,Tryz.underlying9,Tryz.isAgg9,Tryz.sizeOf9,Tryz.zeroValue9,Tryz.underlying31,Tryz.isAgg31,Tryz.sizeOf31,Tryz.zeroValue31,Tryz.underlying286,Tryz.isAgg286,Tryz.sizeOf286,Tryz.zeroValue286,Tryz.underlying343,Tryz.isAgg343,Tryz.sizeOf343,Tryz.zeroValue343,Tryz.underlying345,Tryz.isAgg345,Tryz.sizeOf345,Tryz.zeroValue345,Tryz.underlying162,Tryz.isAgg162,Tryz.sizeOf162,Tryz.zeroValue162,Tryz.underlying336,Tryz.isAgg336,Tryz.sizeOf336,Tryz.zeroValue336,Tryz.underlying337,Tryz.isAgg337,Tryz.sizeOf337,Tryz.zeroValue337,Tryz.underlying347,Tryz.isAgg347,Tryz.sizeOf347,Tryz.zeroValue347,Tryz.underlying351,Tryz.isAgg351,Tryz.sizeOf351,Tryz.zeroValue351,Tryz.underlying353,Tryz.isAgg353,Tryz.sizeOf353,Tryz.zeroValue353,Tryz.underlying159,Tryz.isAgg159,Tryz.sizeOf159,Tryz.zeroValue159⟩
def gg:EM:=fun F=>fun
 |[.one (.s 1 l)]=>some (fun _=>Rw [tI] l/\l.length<=70368744177664,[.s 1 (F.srtL l)],[])
 |_=>none
theorem qo:em 319 gg:=by
 intro _ _ _ _ h hp;dsimp only[gg,F0]at h;split at h<;>cases h
 rename_i l;exact KI (Any.slices_Sort_int_none Tryz.lays189) (Any.slices_Sort_int Tryz.lays189) l hp
abbrev Lf1:da:={
 Φ:=rz
 F0:=F0
 ct:=fun F f=>match f with|126=>cH F|290=>dK F|242=>cD F|294=>kG F|_=>fun _=>none
 hc:=(by
  intro f;dsimp only;split;exact kz;exact lX;exact iK;exact wZ;exact de)
 mt:=fun F f=>match f with|319=>some (gg F)|_=>none
 hm:=(by
  intro f mk h;dsimp only at h;split at h<;>cases h
  exact qo)}
def jH:EC:=fun F=>fun
 |[.one (.s 3 sp),.one (.s 3 lg)]=>some (fun _=>Rw [tI,tI,tI] sp/\Rw [tI,tI,tI] lg/\sp.length<=1073741824/\lg.length<=1073741824,[.one (.s 1 (F.iaL sp lg))])
 |_=>none
theorem uV:ec 237 jH:=by
 intro _ _ _ h hp;dsimp only[jH,F0]at h;split at h<;>cases h
 rename_i sp lg;obtain⟨hs,hl,ns,nl⟩:=hp;refine cb Lf1 Tryz.func237 ?_
 intro O r F hO hr hF;cbv
 repeat' first|apply Zb|(apply bF<;>intro hb<;>cbv)|(refine⟨[1,5,16,17,18],[5],Int×aa,fun s_=>match s_ with|(i,o)=>[.reg 18 (.j i),.reg 5 (.one (.vw 5 0 0 0 (O.ln o))),.leaf 5 0 ⟨0,0,none,.own (.s 1 o)⟩],fun s_=>match s_ with|(i,o)=>0<=i/\i<=(sp.length:Int)/\IaP sp i o,fun s_=>match s_ with|(i,o)=>sp.length-i.toNat,⟨(0,[]),?_,?_⟩,?_⟩;rotate_left;(focus (cbv;done));intro s_ hi;obtain⟨i,o⟩:=s_;replace hi:0<=i/\i<=(sp.length:Int)/\IaP sp i o:=hi;obtain⟨i0,i1,i2⟩:=hi;cbv)|(refine⟨[1,5,7,8,16,17,18],[5,7],Int×aa,fun s_=>match s_ with|(k,o1)=>[.reg 8 (.j k),.reg 5 (.one (.vw 5 0 0 0 (O.ln o1))),.leaf 5 0 ⟨0,0,none,.own (.s 1 o1)⟩],fun s_=>match s_ with|(k,o1)=>0<=k/\k<=slN (ab sp i 1)/\ON sp i k o1,fun s_=>match s_ with|(k,o1)=>(slN (ab sp i 1)-k).toNat,⟨(0,o),?_,?_⟩,?_⟩;rotate_left;(focus (cbv;done));intro s_ hk;obtain⟨k,o1⟩:=s_;replace hk:0<=k/\k<=slN (ab sp i 1)/\ON sp i k o1:=hk;obtain⟨k0,k1,k2⟩:=hk;cbv)|(refine⟨[5,40,41,42],[5],Int×aa,fun s_=>match s_ with|(j,o2)=>[.reg 42 (.j j),.reg 5 (.one (.vw 5 0 0 0 (O.ln o2))),.leaf 5 0 ⟨0,0,none,.own (.s 1 o2)⟩],fun s_=>match s_ with|(j,o2)=>0<=j/\j<=(lg.length:Int)/\QV sp lg j o2,fun s_=>match s_ with|(j,o2)=>lg.length-j.toNat,⟨(0,o),?_,?_⟩,?_⟩;rotate_left;(focus (cbv;done));intro s_ hj;obtain⟨j,o2⟩:=s_;replace hj:0<=j/\j<=(lg.length:Int)/\QV sp lg j o2:=hj;obtain⟨j0,j1,j2⟩:=hj;cbv)|(refine ag (O.ar .add Za k 1,O.cat o1 (O.sub [[.i (F.aaI (O.gi sp i 0) (O.gi sp i 1) (O.gi sp i 2) k)]] 0 (O.ln [[.i (F.aaI (O.gi sp i 0) (O.gi sp i 1) (O.gi sp i 2) k)]]))) ?_ ?_ ?_;focus (cbv;done))|(refine ag (O.ar .add Za k 1,o1) ?_ ?_ ?_;focus (cbv;done))|(refine ag (O.ar .add Za i 1,o1) ?_ ?_ ?_;focus (cbv;done))|(refine ag (O.ar .add Za j 1,O.cat o2 (O.sub [[.i (O.ar .mul Za (O.gi lg j 0) 16)]] 0 (O.ln [[.i (O.ar .mul Za (O.gi lg j 0) 16)]]))) ?_ ?_ ?_;focus (cbv;done))
 all_goals(subst hO hr hF;(try simp only[nc]at*);(try simp only[ah,SS,sa,az]at*);(try rw[db (by omega) (by omega)]);(try have z1:=aid (sp:=sp) (lg:=lg) (i:=i) (by assumption) i0 (by assumption));(try have z6:bO .add Za k 1=k+1:=bz (by omega));(try simp only[z6]at*);(try have z7:=aht (sp:=sp) (lg:=lg) (j:=j) (by assumption) j0 (by assumption));(try have z8:bO .mul Za (ab lg j 0) 16=ab lg j 0*16:=H4 (by omega));(try simp only[z8]at*))
 all_goals first
  | (show(_:List DV)=_
     first
      |(refine vR ?_;exact ahl (by assumption))
      |(refine vR ?_;exact aa8 j2 j1 (by assumption) (by assumption))
      |done)
  |omega
  |exact gj
  |(show aP _ _=true;kernel_rfl)
  |exact scal_one
  |exact⟨hs,hl,ns,nl⟩
  |exact adF j2 (by omega) (by omega)
  |(have q:=aa6 k2;constructor<;>(simp only[Zn,Zr];omega))
  |(have q:=Mr j2;constructor<;>(simp only[Zn,Zr];omega))
  |exact aa7 k2 k0 (by assumption)
  |exact adE k2 k0 (by assumption)
  |exact aa5 k2 i0 k1 (by assumption) z1
  |exact ahm i2
  |exact ahn i2 i1 (by assumption)
  |exact adG j2 j0 z7
  |exact ahk
  |exact GH
  |exact⟨Zh,GH.symm⟩
  |exact⟨Zh,Zh⟩
  |exact Zh
  |done
def iR:EC:=fun F=>fun
 |[.agg [.v (.int Za d0),.v (.int Za d1),.v (.int Za d2)],.ptr [.v (.int Za ad)]]=>some (fun _=>True,[.k (F.eqB d0 ad)])
 |_=>none
theorem tw:ec 341 iR:=by
 intro _ _ _ h hp;dsimp only[iR,F0]at h;split at h<;>cases h
 rename_i d0 d1 d2 ad;refine cb nB Tryz.func341 ?_
 exact agC
abbrev Lg1:da:=ez (fun F f=>match f with|341=>iR F|_=>fun _=>none) (by
 intro f;dsimp only;split;exact tw;exact de)
def aY:EC:=fun F=>fun
 |[.one (.s 3 os),.fn 341 [[.v (.int Za id)]]]=>some (fun _=>Rw [tI,tI,tI] os/\os.length<=1099511627776,[.j (F.qtI os id)])
 |_=>none
theorem cg:ec 364 aY:=by
 intro _ _ _ h hp;dsimp only[aY,F0]at h;split at h<;>cases h
 rename_i os id;obtain⟨hw,hn⟩:=hp;refine cb Lg1 Tryz.func364 ?_
 intro O r F hO hr hF;cbv
 repeat' first|apply Zb|(apply bF<;>intro hb<;>cbv)|(refine⟨[0,1,7,8],[0],Int,fun i=>[.reg 8 (.j i)],fun i=>0<=i/\i<=((os.length:Nat):Int)/\upto (cZ (yg os id)) i,fun i=>(os.length)-i.toNat,⟨0,?_,?_⟩,?_⟩;rotate_left;(focus (cbv;done));intro i hi;replace hi:0<=i/\i<=((os.length:Nat):Int)/\upto (cZ (yg os id)) i:=hi;obtain⟨i0,i1,i2⟩:=hi;cbv)|(refine ag (O.ar .add Za i 1) ?_ ?_ ?_;focus (cbv;done))
 all_goals(subst hO hr hF;(try simp only[nc]at*);(try simp only[ah,SS,sa,az]at*);(try rw[db (by omega) (by omega)]))
 all_goals first
  | (show(_:List DV)=_
     first
      |exact cq (dM i2 i0 (by assumption) (show yg os id i=true from by assumption)).symm
      |exact cq (eY i2 (by assumption)).symm
      |done)
  |omega
  |exact gj
  |(show(lk _ _).isSome=true;kernel_rfl)
  |exact bK
  |exact aZ i2 (ji (show yg os id i=false from by assumption))
  |done
abbrev Lg2:da:=ez (fun F f=>match f with|364=>aY F|_=>fun _=>none) (by
 intro f;dsimp only;split;exact cg;exact de)
def aU:EC:=fun F=>fun
 |[.one (.s 3 os),.fn 341 [[.v (.int Za id)]]]=>some (fun _=>Rw [tI,tI,tI] os/\os.length<=1099511627776,[.k (F.qtB os id)])
 |_=>none
theorem ca:ec 340 aU:=by
 intro _ _ _ h hp;dsimp only[aU,F0]at h;split at h<;>cases h
 rename_i os id;refine cb Lg2 Tryz.func340 ?_
 intro O r F hO hr hF;cbv
 repeat' first|apply Zb|(apply bF<;>intro hb<;>cbv)
 all_goals(subst hO hr hF;(try simp only[nc]at*);(try simp only[ah,SS,sa,az]at*))
 all_goals first
  | (show(_:List DV)=_
     first
      |exact ai (gW (by unfold qtB;simp only[SS,VV]))
      |done)
  |exact hp
  |done
abbrev Lg3:da:=ez (fun F f=>match f with|340=>aU F|_=>fun _=>none) (by
 intro f;dsimp only;split;exact ca;exact de)
def ia:EC:=fun F=>fun
 |[.one (.s 3 os),.one (.v (.int Za id))]=>some (fun _=>Rw [tI,tI,tI] os/\os.length<=1099511627776,[.k (F.qtB os id)])
 |_=>none
theorem pX:ec 281 ia:=by
 intro _ _ _ h hp;dsimp only[ia,F0]at h;split at h<;>cases h
 rename_i os id;refine cb Lg3 Tryz.func281 ?_
 exact agH
abbrev Lg4:da:=ez (fun F f=>match f with|281=>ia F|_=>fun _=>none) (by
 intro f;dsimp only;split;exact pX;exact de)
def je:EC:=fun F=>fun
 |[.agg [.v (.int Za rm),.s 3 os],.one (.v (.int Za id))]=>some (fun _=>Rw [tI,tI,tI] os/\os.length<=1099511627776,[.k (F.qtB os id)])
 |_=>none
theorem qE:ec 266 je:=by
 intro _ _ _ h hp;dsimp only[je,F0]at h;split at h<;>cases h
 rename_i rm os id;obtain⟨hw,hn⟩:=hp;have hm:=hw.1;unfold maxLen at hm;refine cb Lg4 Tryz.func266 ?_
 intro O r F hO hr hF;cbv
 repeat' first|apply Zb|(apply bF<;>intro hb<;>cbv)|(refine⟨[1,2,5],[2],Int,fun i=>[.reg 5 (.j i)],fun i=>0<=i/\i<=((os.length:Nat):Int)/\upto (cZ (yg os id)) i,fun i=>(os.length)-i.toNat,⟨0,?_,?_⟩,?_⟩;rotate_left;(focus (cbv;done));intro i hi;replace hi:0<=i/\i<=((os.length:Nat):Int)/\upto (cZ (yg os id)) i:=hi;obtain⟨i0,i1,i2⟩:=hi;cbv)|(refine ag (O.ar .add Za i 1) ?_ ?_ ?_;focus (cbv;done))
 all_goals(subst hO hr hF;(try simp only[nc]at*);(try simp only[ah,SS,sa,az]at*);(try rw[db (by omega) (by omega)]))
 all_goals first
  | (show(_:List DV)=_
     first
      |(refine ai ?_;symm;exact abT i2 i0 (by assumption) (by assumption))
      |(refine ai ?_;symm;exact afh i2 (by omega))
      |done)
  |omega
  |exact gj
  |exact bK
  |exact aZ i2 (ji (show yg os id i=false from wn (by assumption)))
  |done
abbrev Li1:da:=ez (fun F f=>match f with|41=>aj F|28=>aj F|_=>fun _=>none) (by
 intro f;dsimp only;split;exact bB;exact bE;exact de)
def cG:EC:=fun F=>fun
 |[.agg [.s 1 b,.s 1 x]]=>some (fun _=>K5 b x,[.k (F.mailOk b x)])
 |_=>none
theorem jZ:ec 128 cG:=by
 intro _ _ _ h hp;dsimp only[cG,F0]at h;split at h<;>cases h
 rename_i b x;have hbw:=hp.bw;have hxw:=hp.xw;have hbl:=hp.bl;have hxl:=hp.xl;have hsb:bO .sub Za (b.length:Int) 1=b.length-1:=dG (by omega);refine cb Li1 Tryz.func128 ?_
 intro O r F hO hr hF;cbv
 repeat' first|apply Zb|(apply bF<;>intro hb<;>cbv)|(refine⟨[1,3,4,25,26],[1],Int×Int,fun s_=>match s_ with|(i,t)=>[.reg 26 (.j i),.reg 4 (.j t)],fun s_=>match s_ with|(i,t)=>0<=i/\i<=(b.length:Int)/\OU b x i t,fun s_=>match s_ with|(i,t)=>b.length-i.toNat,⟨(0,0),?_,?_⟩,?_⟩;rotate_left;(focus (cbv;done));intro s_ hi;obtain⟨i,t⟩:=s_;replace hi:0<=i/\i<=(b.length:Int)/\OU b x i t:=hi;obtain⟨i0,i1,i2⟩:=hi;cbv)|(refine⟨[1,3,4,5,25,26,33,34,35],[1],Int,fun k=>[.reg 35 (.j k)],fun k=>0<=k/\k<=(((aw b i 0).length:Nat):Int)/\upto (KN b i) k,fun k=>((aw b i 0).length)-k.toNat,⟨0,?_,?_⟩,?_⟩;rotate_left;(focus (cbv;done));intro k hk;replace hk:0<=k/\k<=(((aw b i 0).length:Nat):Int)/\upto (KN b i) k:=hk;obtain⟨k0,k1,k2⟩:=hk;cbv)|(refine ag (O.ar .add Za k 1) ?_ ?_ ?_;focus (cbv;done))|(refine⟨[1,3,4,5,25,26,55,56,57],[1],Int,fun j=>[.reg 57 (.j j)],fun j=>0<=j/\j<=(((aw x i 0).length:Nat):Int)/\upto (Lk x i) j,fun j=>((aw x i 0).length)-j.toNat,⟨0,?_,?_⟩,?_⟩;rotate_left;(focus (cbv;done));intro j hj;replace hj:0<=j/\j<=(((aw x i 0).length:Nat):Int)/\upto (Lk x i) j:=hj;obtain⟨j0,j1,j2⟩:=hj;cbv)|(refine ag (O.ar .add Za j 1) ?_ ?_ ?_;focus (cbv;done))|(refine ag (O.ar .add Za i 1,O.ar .add Za t (O.ar .add Za (O.zi (O.ln (O.gs b i 0))) (O.zi (O.ln (O.gs x i 0))))) ?_ ?_ ?_;focus (cbv;done))
 all_goals(subst hO hr hF;(try simp only[nc]at*);(try simp only[ah,SS,sa,az]at*);(try simp only[hsb]at*);(try have y2:=hp.xn i);(try have y1:=hp.bn i);(try rw[db (by omega) (by omega)]);(try have z6:bO .add Za k 1=k+1:=bz (by omega));(try simp only[z6]at*);(try have z7:bO .add Za j 1=j+1:=bz (by omega));(try simp only[z7]at*);(try have q:=aen hp i2 i0 (by have r:=bH.1 (by assumption:inR (b.length:Int) 1 4=true);omega));(try have z8:bO .add Za (((aw b i 0).length:Nat):Int) (((aw x i 0).length:Nat):Int)=((aw b i 0).length:Int)+(aw x i 0).length:=bz (by omega));(try simp only[z8]at*);(try have z9:bO .add Za t (((aw b i 0).length:Int)+(aw x i 0).length)=t+(((aw b i 0).length:Int)+(aw x i 0).length):=bz (by omega)))
 all_goals exact aga
theorem j3:ec 169 cG:=by
 intro _ _ _ h hp;dsimp only[cG,F0]at h;split at h<;>cases h
 rename_i b x;have hbw:=hp.bw;have hxw:=hp.xw;have hbl:=hp.bl;have hxl:=hp.xl;have hsb:bO .sub Za (b.length:Int) 1=b.length-1:=dG (by omega);refine cb Li1 Tryz.func169 ?_
 intro O r F hO hr hF;cbv
 repeat' first|apply Zb|(apply bF<;>intro hb<;>cbv)|(refine⟨[1,3,4,5],[1],Int×Int,fun s_=>match s_ with|(i,t)=>[.reg 5 (.j i),.reg 4 (.j t)],fun s_=>match s_ with|(i,t)=>0<=i/\i<=(b.length:Int)/\OU b x i t,fun s_=>match s_ with|(i,t)=>b.length-i.toNat,⟨(0,0),?_,?_⟩,?_⟩;rotate_left;(focus (cbv;done));intro s_ hi;obtain⟨i,t⟩:=s_;replace hi:0<=i/\i<=(b.length:Int)/\OU b x i t:=hi;obtain⟨i0,i1,i2⟩:=hi;cbv)|(refine⟨[1,3,4,5,6],[1],Int,fun k=>[.reg 6 (.j k)],fun k=>0<=k/\k<=(((aw b i 0).length:Nat):Int)/\upto (KN b i) k,fun k=>((aw b i 0).length)-k.toNat,⟨0,?_,?_⟩,?_⟩;rotate_left;(focus (cbv;done));intro k hk;replace hk:0<=k/\k<=(((aw b i 0).length:Nat):Int)/\upto (KN b i) k:=hk;obtain⟨k0,k1,k2⟩:=hk;cbv)|(refine ag (O.ar .add Za k 1) ?_ ?_ ?_;focus (cbv;done))|(refine⟨[1,3,4,5,8],[1],Int,fun j=>[.reg 8 (.j j)],fun j=>0<=j/\j<=(((aw x i 0).length:Nat):Int)/\upto (Lk x i) j,fun j=>((aw x i 0).length)-j.toNat,⟨0,?_,?_⟩,?_⟩;rotate_left;(focus (cbv;done));intro j hj;replace hj:0<=j/\j<=(((aw x i 0).length:Nat):Int)/\upto (Lk x i) j:=hj;obtain⟨j0,j1,j2⟩:=hj;cbv)|(refine ag (O.ar .add Za j 1) ?_ ?_ ?_;focus (cbv;done))|(refine ag (O.ar .add Za i 1,O.ar .add Za (O.ar .add Za t (O.zi (O.ln (O.gs b i 0)))) (O.zi (O.ln (O.gs x i 0)))) ?_ ?_ ?_;focus (cbv;done))
 all_goals(subst hO hr hF;(try simp only[nc]at*);(try simp only[ah,SS,sa,az]at*);(try simp only[hsb]at*);(try have y2:=hp.xn i);(try have y1:=hp.bn i);(try rw[db (by omega) (by omega)]);(try have z6:bO .add Za k 1=k+1:=bz (by omega));(try simp only[z6]at*);(try have z7:bO .add Za j 1=j+1:=bz (by omega));(try simp only[z7]at*);(try have q:=aen hp i2 i0 (by have r:=bH.1 (by assumption:inR (b.length:Int) 1 4=true);omega));(try have z8:bO .add Za t (((aw b i 0).length:Nat):Int)=t+((aw b i 0).length:Int):=bz (by omega));(try simp only[z8]at*);(try have z9:bO .add Za (t+((aw b i 0).length:Int)) (((aw x i 0).length:Nat):Int)=t+(((aw b i 0).length:Int)+(aw x i 0).length):=(bz (by omega)).trans (by omega)))
 all_goals exact aga
abbrev Lj1:da:=ez (fun F f=>match f with|128=>cG F|169=>cG F|_=>fun _=>none) (by
 intro f;dsimp only;split;exact jZ;exact j3;exact de)
def eN:EC:=fun F=>fun
 |[.agg [.s 1 b,.s 1 x]]=>some (fun _=>K5 b x,[.one (.s 1 (F.ifL b x))])
 |_=>none
theorem wU:ec 236 eN:=by
 intro _ _ _ h hp;dsimp only[eN,F0]at h;split at h<;>cases h
 rename_i b x;have hbw:=hp.bw;have hxw:=hp.xw;have hbl:=hp.bl;have hxl:=hp.xl;refine cb Lj1 Tryz.func236 ?_
 intro O r F hO hr hF;cbv
 repeat' first|apply Zb|(apply bF<;>intro hb<;>cbv)|(refine⟨[1,3,15,16,17],[1,3],Int×aa,fun s_=>match s_ with|(i,o)=>[.reg 17 (.j i),.reg 3 (.one (.vw 3 0 0 0 (O.ln o))),.leaf 3 0 ⟨0,0,none,.own (.s 1 o)⟩],fun s_=>match s_ with|(i,o)=>0<=i/\i<=(b.length:Int)/\QO b i o,fun s_=>match s_ with|(i,o)=>b.length-i.toNat,⟨(0,[]),?_,?_⟩,?_⟩;rotate_left;(focus (cbv;done));intro s_ hi;obtain⟨i,o⟩:=s_;replace hi:0<=i/\i<=(b.length:Int)/\QO b i o:=hi;obtain⟨i0,i1,i2⟩:=hi;cbv)|(refine⟨[1,3,15,16,17,21,22,23],[1,3],Int×aa,fun s_=>match s_ with|(k,o1)=>[.reg 23 (.j k),.reg 3 (.one (.vw 3 0 0 0 (O.ln o1))),.leaf 3 0 ⟨0,0,none,.own (.s 1 o1)⟩],fun s_=>match s_ with|(k,o1)=>0<=k/\k<=((aw b i 0).length:Int)/\QP b i k o1,fun s_=>match s_ with|(k,o1)=>(aw b i 0).length-k.toNat,⟨(0,o),?_,?_⟩,?_⟩;rotate_left;(focus (cbv;done));intro s_ hk;obtain⟨k,o1⟩:=s_;replace hk:0<=k/\k<=((aw b i 0).length:Int)/\QP b i k o1:=hk;obtain⟨k0,k1,k2⟩:=hk;cbv)|(refine⟨[3,35,36,37],[3],Int×aa,fun s_=>match s_ with|(j,o2)=>[.reg 37 (.j j),.reg 3 (.one (.vw 3 0 0 0 (O.ln o2))),.leaf 3 0 ⟨0,0,none,.own (.s 1 o2)⟩],fun s_=>match s_ with|(j,o2)=>0<=j/\j<=(x.length:Int)/\QR b x j o2,fun s_=>match s_ with|(j,o2)=>x.length-j.toNat,⟨(0,o),?_,?_⟩,?_⟩;rotate_left;(focus (cbv;done));intro s_ hj;obtain⟨j,o2⟩:=s_;replace hj:0<=j/\j<=(x.length:Int)/\QR b x j o2:=hj;obtain⟨j0,j1,j2⟩:=hj;cbv)|(refine ag (O.ar .add Za k 1,O.cat o1 (O.sub [[.i (O.gi (O.gs b i 0) k 1)]] 0 (O.ln [[.i (O.gi (O.gs b i 0) k 1)]]))) ?_ ?_ ?_;focus (cbv;done))|(refine ag (O.ar .add Za i 1,o1) ?_ ?_ ?_;focus (cbv;done))|(refine ag (O.ar .add Za j 1,O.cat o2 (O.gs x j 0)) ?_ ?_ ?_;focus (cbv;done))
 all_goals(subst hO hr hF;(try simp only[nc]at*);(try simp only[ah,SS,sa,az]at*);(try rw[db (by omega) (by omega)]))
 all_goals exact af9
theorem x5:ec 270 eN:=by
 intro _ _ _ h hp;dsimp only[eN,F0]at h;split at h<;>cases h
 rename_i b x;have hbw:=hp.bw;have hxw:=hp.xw;have hbl:=hp.bl;have hxl:=hp.xl;refine cb Lj1 Tryz.func270 ?_
 intro O r F hO hr hF;cbv
 repeat' first|apply Zb|(apply bF<;>intro hb<;>cbv)|(refine⟨[1,3,4],[1,3],Int×aa,fun s_=>match s_ with|(i,o)=>[.reg 4 (.j i),.reg 3 (.one (.vw 3 0 0 0 (O.ln o))),.leaf 3 0 ⟨0,0,none,.own (.s 1 o)⟩],fun s_=>match s_ with|(i,o)=>0<=i/\i<=(b.length:Int)/\QO b i o,fun s_=>match s_ with|(i,o)=>b.length-i.toNat,⟨(0,[]),?_,?_⟩,?_⟩;rotate_left;(focus (cbv;done));intro s_ hi;obtain⟨i,o⟩:=s_;replace hi:0<=i/\i<=(b.length:Int)/\QO b i o:=hi;obtain⟨i0,i1,i2⟩:=hi;cbv)|(refine⟨[1,3,4,5],[1,3],Int×aa,fun s_=>match s_ with|(k,o1)=>[.reg 5 (.j k),.reg 3 (.one (.vw 3 0 0 0 (O.ln o1))),.leaf 3 0 ⟨0,0,none,.own (.s 1 o1)⟩],fun s_=>match s_ with|(k,o1)=>0<=k/\k<=((aw b i 0).length:Int)/\QP b i k o1,fun s_=>match s_ with|(k,o1)=>(aw b i 0).length-k.toNat,⟨(0,o),?_,?_⟩,?_⟩;rotate_left;(focus (cbv;done));intro s_ hk;obtain⟨k,o1⟩:=s_;replace hk:0<=k/\k<=((aw b i 0).length:Int)/\QP b i k o1:=hk;obtain⟨k0,k1,k2⟩:=hk;cbv)|(refine⟨[1,3,6],[1,3],Int×aa,fun s_=>match s_ with|(j,o2)=>[.reg 6 (.j j),.reg 3 (.one (.vw 3 0 0 0 (O.ln o2))),.leaf 3 0 ⟨0,0,none,.own (.s 1 o2)⟩],fun s_=>match s_ with|(j,o2)=>0<=j/\j<=(x.length:Int)/\QR b x j o2,fun s_=>match s_ with|(j,o2)=>x.length-j.toNat,⟨(0,o),?_,?_⟩,?_⟩;rotate_left;(focus (cbv;done));intro s_ hj;obtain⟨j,o2⟩:=s_;replace hj:0<=j/\j<=(x.length:Int)/\QR b x j o2:=hj;obtain⟨j0,j1,j2⟩:=hj;cbv)|(refine ag (O.ar .add Za k 1,O.cat o1 (O.sub [[.i (O.gi (O.gs b i 0) k 1)]] 0 (O.ln [[.i (O.gi (O.gs b i 0) k 1)]]))) ?_ ?_ ?_;focus (cbv;done))|(refine ag (O.ar .add Za i 1,o1) ?_ ?_ ?_;focus (cbv;done))|(refine ag (O.ar .add Za j 1,O.cat o2 (O.gs x j 0)) ?_ ?_ ?_;focus (cbv;done))
 all_goals(subst hO hr hF;(try simp only[nc]at*);(try simp only[ah,SS,sa,az]at*);(try rw[db (by omega) (by omega)]);(try have z9:bO .add Za j 1=j+1:=bz (by omega));(try have z8:bO .add Za i 1=i+1:=bz (by omega));(try simp only[z9]at*);(try simp only[z8]at*))
 all_goals exact af9
end Go.V