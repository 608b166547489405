/- Contracts. -/
import Derived.Test.YtbedjnlfdopeeaaGreatYM3
set_option linter.all false
open Go
open And renaming intro->Zb
open IntKind renaming i64->Za
open List renaming length_set->ZO
open True renaming intro->Zf
namespace Go.V
open Go Go.Proofs
set_option maxRecDepth 1000000
set_option maxHeartbeats 8000000
abbrev Ka0:cZ:=eK (fun F f=>match f with|124=>dm F|164=>dm F|181=>cK F|_=>fun _=>none) (by
 intro f;dsimp only;split;exact pL;exact pU;exact oJ;exact db)
def iS:EC:=fun F=>fun
 |[.agg [.s 1 cs,.s 1 us,.s 2 es,.v (.int Za c),.s 1 rs]]=>some (fun _=>Rw [.sl [tI]] cs/\Rw [tB] us/\Rw [tI,tI] es/\Rw [tI] rs,[.k (F.ccB cs us es c rs)])
 |_=>none
theorem qE:ec 279 iS:=by
 intro _ _ _ h hp;dsimp only[iS,F0]at h;split at h<;>cases h
 rename_i cs us es c rs;refine cb Ka0 Tryz.func279 ?_
 intro O r F hO hr hF;cbv
 repeat' first|apply Zb|(apply bG<;>intro hb<;>cbv)
 all_goals(subst hO hr hF;(try simp only[nc]at*);(try simp only[ai,SS,sa,az]at*))
 all_goals first
  | (show(_:List DV)=_
     first
      |exact ak (abQ (by omega)).symm
      |exact ak (K5 (by omega)).symm
      |done)
  |exact hp
  |(show aP _ _=true;kernel_rfl)
  |done
def ji:EC:=fun F=>fun
 |[.ptr [.s 1 cs,.s 1 us,.s 2 es,.v (.int Za c),.s 1 rs],.one (.v (.int Za p))]=>some (fun _=>Rw [tI,tI] es,[.j (F.peM es p)])
 |_=>none
theorem qI:ec 336 ji:=by
 intro _ _ _ h hp;dsimp only[ji,F0]at h;split at h<;>cases h
 rename_i cs us es c rs p;refine cb Ka0 Tryz.func336 ?_
 intro O r F hO hr hF;cbv
 repeat' first|apply Zb|(apply bG<;>intro hb<;>cbv)
 all_goals(subst hO hr hF;(try simp only[nc]at*);(try simp only[ai,SS,sa,az]at*))
 all_goals first|(show(_:List DV)=_;exact rfl)|exact hp|(show aP _ _=true;kernel_rfl)|done
abbrev Ka1:cZ:=eK (fun F f=>match f with|315=>cO F|331=>cO F|_=>fun _=>none) (by
 intro f;dsimp only;split;exact lN;exact lU;exact db)
def fE:EP:=fun F=>fun
 |[.mp [.own (.s 1 cs),.own (.s 1 us),.own (.s 2 es),.own (.v (.int Za c)),.own (.s 1 rs)],.one (.v (.int Za f))]=>some (fun _=>Rw [.sl [tI]] cs/\Rw [tB] us/\Rw [tI,tI] es/\es.length<=1099511627776/\0<=f/\f<cs.length/\us.length=cs.length,[[.own (.s 1 (F.dfC cs es f)),.own (.s 1 (F.dfU us es f)),.own (.s 2 es),.own (.i c),.own (.s 1 rs)]],[])
 |_=>none
theorem yZ:ep 280 fE:=by
 intro _ _ _ _ h hp;dsimp only[fE,F0]at h;split at h<;>cases h
 rename_i cs us es c rs f;obtain⟨wc,wu,we,el,f0,f1,ul⟩:=hp;refine pb Ka1 Tryz.func280 ?_
 exact afp
theorem zO:ep 337 fE:=by
 intro _ _ _ _ h hp;dsimp only[fE,F0]at h;split at h<;>cases h
 rename_i cs us es c rs f;obtain⟨wc,wu,we,el,f0,f1,ul⟩:=hp;refine pb Ka1 Tryz.func337 ?_
 exact afp
abbrev Ka2:cZ:={
 Φ:=qp
 F0:=F0
 ct:=fun F f=>match f with|118=>cA F|279=>iS F|230=>ie F|_=>fun _=>none
 hc:=(by
  intro f;dsimp only;split;exact gy;exact qE;exact nA;exact db)
 pt:=fun F f=>match f with|280=>some (fE F)|_=>none
 hp:=(by
  intro f mk h;dsimp only at h;split at h<;>cases h
  exact yZ)}
def nH:EC:=fun F=>fun
 |[.agg [.s 1 cs,.s 1 us,.s 2 es,.v (.int Za c),.s 1 rs],.one (.v (.int Za p))]=>some (fun _=>Rw [.sl [tI]] cs/\Rw [tB] us/\Rw [tI,tI] es/\Rw [tI] rs/\am cs<=1099511627776/\am us<=1099511627776/\am es<=1099511627776/\am rs<=1099511627776,[.agg [.s 1 (F.ktC (F.ccB cs us es c rs) cs es p),.s 1 (F.ktU (F.ccB cs us es c rs) us es p),.s 2 (F.ktE (F.ccB cs us es c rs) es p),.i c,.s 1 rs],.k (F.ktB (F.ccB cs us es c rs) es p)])
 |_=>none
theorem Bo:ec 190 nH:=by
 intro _ _ _ h hp;dsimp only[nH,F0]at h;split at h<;>cases h
 rename_i cs us es c rs p;obtain⟨wc,wu,we,wr,c1,c2,c3,c4⟩:=hp;have l3:=aw (es:=es);refine cb Ka2 Tryz.func190 ?_
 intro O r F hO hr hF;cbv
 repeat' first|apply Zb|(apply bG<;>intro hb<;>cbv)
 all_goals(subst hO hr hF;(try simp only[nc]at*);(try simp only[ai,SS,sa,az]at*);(try have mp:mapB es p=true:=(by assumption));(try have at_:=DZ mp);(try have p0:=at_.1.1);(try have p1:=at_.1.2);(try simp only[iJ (l:=es) (sz:=2) (j:=1) (i:=p) p0]at*);(try have cc:=QC (cs:=cs) (us:=us) (es:=es) (c:=c) (rs:=rs) (by assumption));(try have km:=(kf cc.2).1);(try have fr:=I1 km mp);(try have ul:=km.u);(try have um:=RU we at_.1.1 at_.1.2);(try simp only[um]at*);(try have rm:=(show Rw [tI,tI] (CW es p)from PD (m:=0) (f:=0) we (by omega) (by omega)));(try have ll:(CW es p).length=es.length:=ZO))
 all_goals first
  | (show(_:List DV)=_
     first
      |(have q:=acZ (k:=ccB cs us es c rs) (cs:=cs) (us:=us) (es:=es) (p:=p) (by assumption);first|(rw[q.1,q.2.1,q.2.2.1,q.2.2.2];done)|(rw[q.1,q.2.1,q.2.2.1,q.2.2.2];exact rfl))
      |(have q:=agx (k:=ccB cs us es c rs) (cs:=cs) (us:=us) (es:=es) (p:=p) (by assumption);first|(rw[q.1,q.2.1,q.2.2.1,q.2.2.2];done)|(rw[q.1,q.2.1,q.2.2.1,q.2.2.2];exact rfl))
      |(have q:=ac0 (k:=ccB cs us es c rs) (cs:=cs) (us:=us) (es:=es) (p:=p) (by assumption);have z:=ac3 (cs:=cs) (us:=us) mp;first|(rw[q.1,q.2.1,q.2.2.1,q.2.2.2,z.1,z.2.1,z.2.2,mp,at_.2.2.1];done)|(rw[q.1,q.2.1,q.2.2.1,q.2.2.2,z.1,z.2.1,z.2.2,mp,at_.2.2.1];exact rfl))
      |done)
  |omega
  |exact⟨wc,wu,we,wr,c1,c2,c3,c4⟩
  |exact⟨wc,wu,we,wr⟩
  |exact we
  |exact⟨wc,wu,rm,by omega,fr.1,fr.2,ul⟩
  |exact aaX we at_.1.1 at_.1.2 (by decide)
  |exact L3 we at_.1.1 at_.1.2 (by decide)
  |exact RL we p0 p1
  |(show aP _ _=true;kernel_rfl)
  |exact fU
  |exact⟨Zf,Zf⟩
  |exact Zf
  |done
abbrev Ka3:cZ:={
 Φ:=qp
 F0:=F0
 ct:=fun F f=>match f with|336=>ji F|_=>fun _=>none
 hc:=(by
  intro f;dsimp only;split;exact qI;exact db)
 pt:=fun F f=>match f with|337=>some (fE F)|_=>none
 hp:=(by
  intro f mk h;dsimp only at h;split at h<;>cases h
  exact zO)}
def li:EP:=fun F=>fun
 |[.mp [.own (.s 1 cs),.own (.s 1 us),.own (.s 2 es),.own (.v (.int Za c)),.own (.s 1 rs)],.one (.v (.int Za p))]=>some (fun _=>Rw [.sl [tI]] cs/\Rw [tB] us/\Rw [tI,tI] es/\Rw [tI] rs/\oU cs us es,[[.own (.s 1 (F.kuC cs es p)),.own (.s 1 (F.kuU us es p)),.own (.s 2 (F.kuE es p)),.own (.i c),.own (.s 1 rs)]],[.k (F.mapB es p)])
 |_=>none
theorem xZ:ep 274 li:=by
 intro _ _ _ _ h hp;dsimp only[li,F0]at h;split at h<;>cases h
 rename_i cs us es c rs p;obtain⟨wc,wu,we,wr,km⟩:=hp;have e1:=km.e1;refine pb Ka3 Tryz.func274 ?_
 intro O r os F hO hr hos hF;cbv
 repeat' first|apply Zb|(apply bG<;>intro hb<;>cbv)
 all_goals((try subst hos);subst hO hr hF;(try simp only[nc]at*);(try simp only[ai,SS,sa,az]at*);(try have mp:mapB es p=true:=VO (by assumption));(try have at_:=DZ mp);(try have p0:=at_.1.1);(try have p1:=at_.1.2);(try simp only[iJ (l:=es) (sz:=2) (j:=1) (i:=p) p0]at*);(try have fr:=I1 km mp);(try have ul:=km.u);(try have um:=RU we at_.1.1 at_.1.2);(try simp only[um]at*);(try have rm:=(show Rw [tI,tI] (CW es p)from PD (m:=0) (f:=0) we (by omega) (by omega)));(try have ll:(CW es p).length=es.length:=ZO))
 all_goals first
  | (show(_:List DV)=_
     first
      |exact ak (show false=mapB es p from(VP (fun n=>n (by assumption))).symm)
      |exact ak mp.symm
      |done)
  | (show(_:List H)=_
     first
      |(have z:=ac1 (cs:=cs) (us:=us) (es:=es) (p:=p) (VP (fun n=>n (by assumption)));first|(rw[z.1,z.2.1,z.2.2];done)|(rw[z.1,z.2.1,z.2.2];exact rfl))
      |(have z:=ac3 (cs:=cs) (us:=us) mp;first|(rw[z.1,z.2.1,z.2.2,at_.2.2.1];done)|(rw[z.1,z.2.1,z.2.2,at_.2.2.1];exact rfl))
      |done)
  |omega
  |exact we
  |exact⟨wc,wu,rm,by omega,fr.1,fr.2,ul⟩
  |exact L3 we at_.1.1 at_.1.2 (by decide)
  |exact RL we p0 p1
  |(show aP _ _=true;kernel_rfl)
  |exact fU
  |exact⟨Zf,Zf⟩
  |exact Zf
  |done
abbrev Zg0:cZ:=eK (fun F f=>match f with|118=>cA F|349=>dy F|260=>fj F|_=>fun _=>none) (by
 intro f;dsimp only;split;exact gy;exact hH;exact ic;exact db)
def lX:EC:=fun F=>fun
 |[.agg [.s 1 cs,.s 1 us,.s 2 es,.v (.int Za c),.s 1 rs]]=>some (fun _=>Rw [.sl [tI]] cs/\Rw [tB] us/\Rw [tI,tI] es/\Rw [tI] rs/\am cs<=1099511627776/\am us<=1099511627776/\am es<=1099511627776/\am rs<=1099511627776/\0<=c/\c<=100000,[.agg [.s 1 cs,.s 1 us,.s 2 es,.i (F.c1N c),.s 1 rs],.k (F.nhR rs c)])
 |_=>none
theorem yU:ec 352 lX:=by
 intro _ _ _ h hp;dsimp only[lX,F0]at h;split at h<;>cases h
 rename_i cs us es c rs;obtain⟨wc,wu,we,wr,k1,k2,k3,k4,c0,c1⟩:=hp;have l4:=aw (es:=rs);have e1:bO .add Za c 1=c+1:=bF (by omega);refine cb Zg0 Tryz.func352 ?_
 intro O r F hO hr hF;cbv
 repeat' first|apply Zb|(apply bG<;>intro hb<;>cbv)
 all_goals(subst hO hr hF;(try simp only[nc]at*);(try simp only[ai,SS,sa,az]at*);(try simp only[e1]at*))
 all_goals first|(show(_:List DV)=_;exact rfl)|exact⟨wc,wu,we,wr,k1,k2,k3,k4⟩|exact⟨wr,by omega⟩|(show aP _ _=true;kernel_rfl)|exact⟨Zf,Zf⟩|exact Zf|done
def mC:EP:=fun F=>fun
 |[.mp [.own (.s 1 cs),.own (.s 1 us),.own (.s 2 es),.own (.v (.int Za c)),.own (.s 1 rs)]]=>some (fun _=>Rw [tI] rs/\0<=c/\c<=100000,[[.own (.s 1 cs),.own (.s 1 us),.own (.s 2 es),.own (.i (F.c1N c)),.own (.s 1 rs)]],[.k (F.nhR rs c)])
 |_=>none
theorem zM:ep 348 mC:=by
 intro _ _ _ _ h hp;dsimp only[mC,F0]at h;split at h<;>cases h
 rename_i cs us es c rs;obtain⟨wr,c0,c1⟩:=hp;have e1:bO .add Za c 1=c+1:=bF (by omega);have e2:bO .sub Za (c+1) 1=c:=(di (by omega)).trans (by omega);refine pb Zg0 Tryz.func348 ?_
 intro O r os F hO hr hos hF;cbv
 repeat' first|apply Zb|(apply bG<;>intro hb<;>cbv)
 all_goals((try subst hos);subst hO hr hF;(try simp only[nc]at*);(try simp only[ai,SS,sa,az]at*);(try simp only[e1]at*);(try simp only[e2]at*))
 all_goals first|(show(_:List DV)=_;exact rfl)|(show(_:List H)=_;exact rfl)|exact wr|(show aP _ _=true;kernel_rfl)|exact⟨Zf,Zf⟩|exact Zf|done
abbrev Oc0:cZ:=eK (fun F f=>match f with|227=>co F|259=>co F|84=>bD F|183=>bD F|242=>cF F|305=>cF F|_=>fun _=>none) (by
 intro f;dsimp only;split;exact j3;exact ia;exact dA;exact d8;exact iL;exact lT;exact db)
def lY:EC:=fun F=>fun
 |[.agg hl_]=>hL hl_ fun a0 a1 a2 a3 a4 a5 a6 a7 a8 a9 aA aB aC aD aE aF aG aH aI aJ aK aL aM aN=>(fun _=>a2.length<=1073741824,[.j (F.zlI a2)])
 |_=>none
theorem yW:ec 192 lY:=by
 intro _ _ _ h hp;dsimp only[lY,F0,hL]at h;split at h;rotate_left;cases h;split at h<;>cases h
 rename_i a0 a1 a2 a3 a4 a5 a6 a7 a8 a9 aA aB aC aD aE aF aG aH aI aJ aK aL aM aN;refine cb Oc0 Tryz.func192 ?_
 exact abq
end Go.V