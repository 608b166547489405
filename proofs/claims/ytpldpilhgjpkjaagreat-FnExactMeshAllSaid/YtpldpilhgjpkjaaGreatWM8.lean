/- Contracts. -/
import Derived.Test.YtpldpilhgjpkjaaGreatWM7
set_option linter.all false
open Go
open And renaming intro->Zb
open Bool renaming and_eq_true->Zc
open IntKind renaming i64->Za
open True renaming intro->Zd
namespace Go.V
open Go Go.Proofs
set_option maxRecDepth 1000000
set_option maxHeartbeats 8000000
def qz:ec 91 dD:=by
 intro _ _ _ h hp;dsimp only[dD,F0,hL]at h;split at h;rotate_left;cases h;split at h<;>cases h
 rename_i a0 a1 a2 a3 a4 a5 a6 a7 a8 a9 aA aB aC aD aE aF aG aH aI aJ aK aL aM aN;exact CO _ _ _ rfl hp.c.hp
def v5:ec 90 dB:=by
 intro _ _ _ h hp;dsimp only[dB,F0,hL]at h;split at h;rotate_left;cases h;split at h<;>cases h
 rename_i a0 a1 a2 a3 a4 a5 a6 a7 a8 a9 aA aB aC aD aE aF aG aH aI aJ aK aL aM aN;exact AR _ _ _ rfl hp.c
def jI:EP:=fun F=>fun
 |[.mp hl_]=>hM hl_ fun a0 a1 a2 a3 a4 a5 a6 a7 a8 a9 aA aB aC aD aE aF aG aH aI aJ aK aL aM aN=>(fun _=>HvG (HV.mk a0 a1 a2 a3 a4 a5 a6 a7 a8 a9 aA aB aC aD aE aF aG aH aI aJ aK aL aM aN),[hvO (F.hMq (HV.mk a0 a1 a2 a3 a4 a5 a6 a7 a8 a9 aA aB aC aD aE aF aG aH aI aJ aK aL aM aN))],[.k (F.hMQ (HV.mk a0 a1 a2 a3 a4 a5 a6 a7 a8 a9 aA aB aC aD aE aF aG aH aI aJ aK aL aM aN))])
 |_=>none
def v8:ep 309 jI:=by
 intro _ _ _ _ h hp;dsimp only[jI,F0,hM]at h;split at h;rotate_left;cases h;split at h<;>cases h
 rename_i a0 a1 a2 a3 a4 a5 a6 a7 a8 a9 aA aB aC aD aE aF aG aH aI aJ aK aL aM aN;exact AV _ _ _ _ rfl ⟨hp.c.c,hp.p,hp.n,hp.m⟩
def iY:EP:=fun F=>fun
 |[.mp hl_]=>hM hl_ fun a0 a1 a2 a3 a4 a5 a6 a7 a8 a9 aA aB aC aD aE aF aG aH aI aJ aK aL aM aN=>(fun _=>lI (HV.mk a0 a1 a2 a3 a4 a5 a6 a7 a8 a9 aA aB aC aD aE aF aG aH aI aJ aK aL aM aN),[hvO (F.hMu (HV.mk a0 a1 a2 a3 a4 a5 a6 a7 a8 a9 aA aB aC aD aE aF aG aH aI aJ aK aL aM aN))],[.k (F.hMU (HV.mk a0 a1 a2 a3 a4 a5 a6 a7 a8 a9 aA aB aC aD aE aF aG aH aI aJ aK aL aM aN))])
 |_=>none
def ut:ep 215 iY:=by
 intro _ _ _ _ h hp;dsimp only[iY,F0,hM]at h;split at h;rotate_left;cases h;split at h<;>cases h
 rename_i a0 a1 a2 a3 a4 a5 a6 a7 a8 a9 aA aB aC aD aE aF aG aH aI aJ aK aL aM aN;exact yN _ _ _ _ rfl hp.c
abbrev Fs0:cT:={
 Φ:=sF
 F0:=F0
 pt:=fun F f=>match f with|309=>some (jI F)|_=>none
 hp:=(by
  intro f mk h;dsimp only at h;split at h<;>cases h
  exact v8)}
attribute [local irreducible] HV.ms HV.ms1 HV.ms2 HV.mt HV.mt1 HV.mq HV.mq1 HV.mu HV.mu1 HV.hp HV.wf HV.ma HV.ma1 uD zf fjN HK J5 Fa
def jH:EP:=fun F=>fun
 |[.mp hl_]=>hM hl_ fun a0 a1 a2 a3 a4 a5 a6 a7 a8 a9 aA aB aC aD aE aF aG aH aI aJ aK aL aM aN=>(fun _=>HvF (HV.mk a0 a1 a2 a3 a4 a5 a6 a7 a8 a9 aA aB aC aD aE aF aG aH aI aJ aK aL aM aN),[hvO (F.fj1 (HV.mk a0 a1 a2 a3 a4 a5 a6 a7 a8 a9 aA aB aC aD aE aF aG aH aI aJ aK aL aM aN))],[.j (F.fjN (HV.mk a0 a1 a2 a3 a4 a5 a6 a7 a8 a9 aA aB aC aD aE aF aG aH aI aJ aK aL aM aN))])
 |_=>none
def v7:ep 214 jH:=by
 intro _ _ _ _ h hp;dsimp only[jH,F0,hM]at h;split at h;rotate_left;cases h;split at h<;>cases h
 rename_i a0 a1 a2 a3 a4 a5 a6 a7 a8 a9 aA aB aC aD aE aF aG aH aI aJ aK aL aM aN;have fi:=P1 hp;refine pb Fs0 Tryz.func214 ?_
 intro O r os F hO hr hos hF;cbv
 repeat' first|apply Zb|(apply bC<;>intro hb<;>cbv)|(refine⟨[0,3,4],[0],Int×Int×HV,fun s_=>match s_ with|(i,n,h)=>(.reg 4 (.j i):: .reg 3 (.j n)::hvV 0 h),fun s_=>match s_ with|(i,n,h)=>0<=i/\i<=100/\Jl (uD 100 (HV.mk a0 a1 a2 a3 a4 a5 a6 a7 a8 a9 aA aB aC aD aE aF aG aH aI aJ aK aL aM aN)) (zf 100 (HV.mk a0 a1 a2 a3 a4 a5 a6 a7 a8 a9 aA aB aC aD aE aF aG aH aI aJ aK aL aM aN)) h i n,fun s_=>match s_ with|(i,n,h)=>(100-i).toNat,⟨(0,0,(HV.mk a0 a1 a2 a3 a4 a5 a6 a7 a8 a9 aA aB aC aD aE aF aG aH aI aJ aK aL aM aN)),?_,?_⟩,?_⟩;rotate_left;(focus (cbv;done));intro s_ hi;obtain⟨i,n,h⟩:=s_;replace hi:0<=i/\i<=100/\Jl (uD 100 (HV.mk a0 a1 a2 a3 a4 a5 a6 a7 a8 a9 aA aB aC aD aE aF aG aH aI aJ aK aL aM aN)) (zf 100 (HV.mk a0 a1 a2 a3 a4 a5 a6 a7 a8 a9 aA aB aC aD aE aF aG aH aI aJ aK aL aM aN)) h i n:=hi;obtain⟨i0,i1,i2⟩:=hi;cbv)|(refine af (O.ar .add Za i 1,n,(F.hMq (K0 h))) ?_ ?_ ?_;focus (cbv;done))|(refine af (O.ar .add Za i 1,O.ar .add Za n 1,(F.hMq (K0 h))) ?_ ?_ ?_;focus (cbv;done))
 all_goals(try simp only[SD,K0]at*)
 all_goals((try subst hos);subst hO hr hF;(try simp only[nc]at*);(try simp only[ah,SS,sa,az]at*);(try simp only[wh]at*))
 all_goals first|omega|exact Zd|exact fi|exact⟨Zd,Zd⟩|(show ay _ _=true;kernel_rfl)|skip
 all_goals((try have P:Jl _ _ h i n:=Ud);(try have z1:bK .add Za i 1=i+1:=bD Uc);(try have t:=P.step Uc Ud);(try have w:=P.g Uc Ud))
 all_goals first|omega|exact w|(rw[z1];exact t.1 Ud)|(rw[z1];exact t.2 Ud)|(rw[z1];omega)|(have e:=P.fin (.inl Uc);rw[<-e.1]<;>rfl)|(have e:=P.fin (.inr Ud);rw[<-e.1]<;>rfl)|(have e:=P.fin (.inl Uc);rw[e.2,Se])|(have e:=P.fin (.inr Ud);rw[e.2,Se])|done
abbrev Fs1:cT:={
 Φ:=sF
 F0:=F0
 ct:=fun F f=>match f with|91=>dD F|_=>fun _=>none
 hc:=(by
  intro f;dsimp only;split;exact qz;exact cX)
 pt:=fun F f=>match f with|214=>some (jH F)|215=>some (iY F)|_=>none
 hp:=(by
  intro f mk h;dsimp only at h;split at h<;>cases h
  exact v7;exact ut)}
def oA:EP:=fun F=>fun
 |[.mp hl_,.one (.v (.int Za m))]=>hM hl_ fun a0 a1 a2 a3 a4 a5 a6 a7 a8 a9 aA aB aC aD aE aF aG aH aI aJ aK aL aM aN=>(fun _=>HvB (HV.mk a0 a1 a2 a3 a4 a5 a6 a7 a8 a9 aA aB aC aD aE aF aG aH aI aJ aK aL aM aN) m,[hvO (F.hMa (HV.mk a0 a1 a2 a3 a4 a5 a6 a7 a8 a9 aA aB aC aD aE aF aG aH aI aJ aK aL aM aN) m)],[.j (F.hMN (HV.mk a0 a1 a2 a3 a4 a5 a6 a7 a8 a9 aA aB aC aD aE aF aG aH aI aJ aK aL aM aN) m)])
 |_=>none
def CX:ep 93 oA:=by
 intro _ _ _ _ h hp;dsimp only[oA,F0,hM]at h;split at h;rotate_left;cases h;split at h<;>cases h
 rename_i m _ a0 a1 a2 a3 a4 a5 a6 a7 a8 a9 aA aB aC aD aE aF aG aH aI aJ aK aL aM aN;have fi:=Qm hp;have ff:HvF (HV.mk a0 a1 a2 a3 a4 a5 a6 a7 a8 a9 aA aB aC aD aE aF aG aH aI aJ aK aL aM aN):=by
  have g:=hp.g;simp only[Fa,Zc,VD]at g;exact⟨hp.c,fun _=>⟨g.1,(show(a3:Int)<=98000 by omega)⟩⟩
 have g:=hp.g;simp only[Fa,Zc,VD]at g;have r:=bz.1 g.2.2;refine pb Fs1 Tryz.func93 ?_
 intro O r os F hO hr hos hF;cbv
 repeat' first|apply Zb|(apply bC<;>intro hb<;>cbv)|(refine⟨[0,1,5,6],[0],Int×Int×HV,fun s_=>match s_ with|(i,n,h)=>(.reg 6 (.j i):: .reg 5 (.j n)::hvV 0 h),fun s_=>match s_ with|(i,n,h)=>0<=i/\i<=m/\En (HV.ma (HV.mk a0 a1 a2 a3 a4 a5 a6 a7 a8 a9 aA aB aC aD aE aF aG aH aI aJ aK aL aM aN) m) (HV.ma1 (HV.mk a0 a1 a2 a3 a4 a5 a6 a7 a8 a9 aA aB aC aD aE aF aG aH aI aJ aK aL aM aN) m) h m i n,fun s_=>match s_ with|(i,n,h)=>(m-i).toNat,⟨(0,F.fjN (HV.mk a0 a1 a2 a3 a4 a5 a6 a7 a8 a9 aA aB aC aD aE aF aG aH aI aJ aK aL aM aN),F.fj1 (HV.mk a0 a1 a2 a3 a4 a5 a6 a7 a8 a9 aA aB aC aD aE aF aG aH aI aJ aK aL aM aN)),?_,?_⟩,?_⟩;rotate_left;(focus (cbv;done));intro s_ hi;obtain⟨i,n,h⟩:=s_;replace hi:0<=i/\i<=m/\En (HV.ma (HV.mk a0 a1 a2 a3 a4 a5 a6 a7 a8 a9 aA aB aC aD aE aF aG aH aI aJ aK aL aM aN) m) (HV.ma1 (HV.mk a0 a1 a2 a3 a4 a5 a6 a7 a8 a9 aA aB aC aD aE aF aG aH aI aJ aK aL aM aN) m) h m i n:=hi;obtain⟨i0,i1,i2⟩:=hi;cbv)|(refine af (O.ar .add Za i 1,n,h) ?_ ?_ ?_;focus (cbv;done))|(refine af (O.ar .add Za i 1,n,(F.hMu (K0 h))) ?_ ?_ ?_;focus (cbv;done))|(refine af (O.ar .add Za i 1,O.ar .add Za n (F.fjN (K0 (F.hMu (K0 h)))),(F.fj1 (K0 (F.hMu (K0 h))))) ?_ ?_ ?_;focus (cbv;done))
 all_goals(try simp only[SD,K0]at*)
 all_goals((try subst hos);subst hO hr hF;(try simp only[nc]at*);(try simp only[ah,SS,sa,az]at*);(try simp only[wh]at*))
 all_goals first|omega|exact Zd|exact fi|exact ff|exact⟨Zd,Zd⟩|(show ay _ _=true;kernel_rfl)|skip
 all_goals((try have P:En _ _ h m i n:=Ud);(try have w:=P.c);(try have z1:bK .add Za i 1=i+1:=bD Uc))
 all_goals first|omega|exact w|exact P.hf Uc Ud Ud Ud|(rw[z1];exact P.no Uc Ud)|(rw[z1];exact P.f0 Uc Ud Ud Ud)|(rw[z1];exact P.f1 Uc Ud Ud Ud)|(rw[z1];omega)|(have e:=P.fin (.inl Uc);rw[<-e.1]<;>rfl)|(have e:=P.fin (.inr Ud);rw[<-e.1]<;>rfl)|(have e:=P.fin (.inl Uc);rw[e.2]<;>rfl)|(have e:=P.fin (.inr Ud);rw[e.2]<;>rfl)|done
abbrev Fs2:cT:={
 Φ:=sF
 F0:=F0
 ct:=fun F f=>match f with|90=>dB F|91=>dD F|92=>ai F|_=>fun _=>none
 hc:=(by
  intro f;dsimp only;split;exact v5;exact qz;exact bi;exact cX)
 pt:=fun F f=>match f with|93=>some (oA F)|_=>none
 hp:=(by
  intro f mk h;dsimp only at h;split at h<;>cases h
  exact CX)}
def AC:ec 24 fk:=by
 intro _ _ _ h hp;dsimp only[fk,F0,hL]at h;split at h;rotate_left;cases h;split at h<;>cases h
 rename_i m _ a0 a1 a2 a3 a4 a5 a6 a7 a8 a9 aA aB aC aD aE aF aG aH aI aJ aK aL aM aN;have ma0:=S5 (h:=(HV.mk a0 a1 a2 a3 a4 a5 a6 a7 a8 a9 aA aB aC aD aE aF aG aH aI aJ aK aL aM aN)) (m:=m);refine cb Fs2 Tryz.func24 ?_
 intro O r F hO hr hF;cbv
 repeat' first|apply Zb|(apply bC<;>intro hb<;>cbv)
 all_goals(subst hO hr hF;(try simp only[nc]at*);(try simp only[ah,SS,sa,az]at*);(try simp only[wh,HV.cp]at*))
 all_goals first|omega|exact Zd|exact⟨Zd,Zd⟩|exact hp.1|exact hp.1.ma|(show ay _ _=true;kernel_rfl)|skip
 all_goals(try have g:=aem (h:=(HV.mk a0 a1 a2 a3 a4 a5 a6 a7 a8 a9 aA aB aC aD aE aF aG aH aI aJ aK aL aM aN)) (m:=m) Ud (show¬ (a3:Int)>90000 by omega) Ud)
 all_goals first|exact⟨hp.1,g⟩|rfl|(have e:=ma0 (aej Ud);rw[e.1,e.2]<;>rfl)|(have e:=ma0 (aek (h:=(HV.mk a0 a1 a2 a3 a4 a5 a6 a7 a8 a9 aA aB aC aD aE aF aG aH aI aJ aK aL aM aN)) (show(a3:Int)>90000 by omega));rw[e.1,e.2]<;>rfl)|(have e:=ma0 (ael Ud);rw[e.1,e.2]<;>rfl)|done
end Go.V