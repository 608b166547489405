/- Contracts. -/
import Derived.Test.YtpldpilhgjpkjaaGreatZW4
import Derived.Test.YtpldpilhgjpkjaaGreatZW7
import Derived.Test.YtpldpilhgjpkjaaGreatZM12
import Derived.Test.YtpldpilhgjpkjaaGreatZM8
set_option linter.all false
open Go
open And renaming intro->Zc
open IntKind renaming i64->Za
open True renaming intro->Zd
noncomputable section
namespace Go.V
open Go Go.Proofs
set_option maxRecDepth 1000000
set_option maxHeartbeats 8000000
def fU:EC:=fun F=>fun
 |[.agg hl_]=>hL hl_ fun a0 a1 a2 a3 a4 a5 a6 a7 a8 a9 aA aB aC aD aE aF aG aH aI aJ aK aL aM aN=>(fun _=>oX (HV.mk a0 a1 a2 a3 a4 a5 a6 a7 a8 a9 aA aB aC aD aE aF aG aH aI aJ aK aL aM aN),[.j (F.hSf (HV.mk a0 a1 a2 a3 a4 a5 a6 a7 a8 a9 aA aB aC aD aE aF aG aH aI aJ aK aL aM aN))])
 |_=>none
def pa:ec 22 fU:=by
 intro _ _ _ h hp;dsimp only[fU,F0,hL]at h;split at h;rotate_left;cases h;split at h<;>cases h
 rename_i a0 a1 a2 a3 a4 a5 a6 a7 a8 a9 aA aB aC aD aE aF aG aH aI aJ aK aL aM aN;exact ri _ _ _ rfl hp.c.hp
abbrev Fj0:di:=dH (fun F f=>match f with|183=>iS F|_=>fun _=>none) (by
 intro f;dsimp only;split;exact sB;exact dp)
attribute [local irreducible] HV.ms HV.ms1 HV.ms2 HV.mt HV.mt1 HV.hp HV.wf HV.ma HV.ma1 Bi EY Qn maN Hf
def jB:EO:=fun F=>fun
 |[.agg hl_]=>hL hl_ fun a0 a1 a2 a3 a4 a5 a6 a7 a8 a9 aA aB aC aD aE aF aG aH aI aJ aK aL aM aN=>(fun _=>oX (HV.mk a0 a1 a2 a3 a4 a5 a6 a7 a8 a9 aA aB aC aD aE aF aG aH aI aJ aK aL aM aN),[NA (F.fj1 (HV.mk a0 a1 a2 a3 a4 a5 a6 a7 a8 a9 aA aB aC aD aE aF aG aH aI aJ aK aL aM aN)),.k (F.fj2 (HV.mk a0 a1 a2 a3 a4 a5 a6 a7 a8 a9 aA aB aC aD aE aF aG aH aI aJ aK aL aM aN))])
 |_=>none
def t9:eo 77 jB:=by
 intro _ _ _ h hp;dsimp only[jB,F0,hL]at h;split at h;rotate_left;cases h;split at h<;>cases h
 rename_i a0 a1 a2 a3 a4 a5 a6 a7 a8 a9 aA aB aC aD aE aF aG aH aI aJ aK aL aM aN;have fi:=Nn hp;refine aaM Fj0 qU mixed 29 _ [53,4] [.cell 2 53,.tmp 3] Tryz.func77 rfl rfl rfl rfl rfl ?_;intro O r F hO hr hF;cbv
 repeat' first|apply Zc|(apply cN<;>intro hb<;>cbv)|(refine⟨[1,2,4],[1,2],Int×HV,fun s_=>match s_ with|(i,h)=>(.reg 4 (.j i)::hvV 1 h),fun s_=>match s_ with|(i,h)=>0<=i/\i<=100/\Jb (Bi 100 (HV.mk a0 a1 a2 a3 a4 a5 a6 a7 a8 a9 aA aB aC aD aE aF aG aH aI aJ aK aL aM aN)) (EY 100 (HV.mk a0 a1 a2 a3 a4 a5 a6 a7 a8 a9 aA aB aC aD aE aF aG aH aI aJ aK aL aM aN)) h i,fun s_=>match s_ with|(i,h)=>(100-i).toNat,⟨(0,(HV.mk a0 a1 a2 a3 a4 a5 a6 a7 a8 a9 aA aB aC aD aE aF aG aH aI aJ aK aL aM aN)),?_,?_⟩,?_⟩;rotate_left;(focus (cbv;done));intro s_ hi;obtain⟨i,h⟩:=s_;replace hi:0<=i/\i<=100/\Jb (Bi 100 (HV.mk a0 a1 a2 a3 a4 a5 a6 a7 a8 a9 aA aB aC aD aE aF aG aH aI aJ aK aL aM aN)) (EY 100 (HV.mk a0 a1 a2 a3 a4 a5 a6 a7 a8 a9 aA aB aC aD aE aF aG aH aI aJ aK aL aM aN)) h i:=hi;obtain⟨i0,i1,i2⟩:=hi;cbv)|(refine ah (O.ar .add Za i 1,(F.hMs (P8 O h))) ?_ ?_ ?_;focus (cbv;done))
 all_goals(try simp only[P8,hvE]at*)
 all_goals(subst hO hr hF;(try simp only[nc]at*);(try simp only[aj,SS,sa,az]at*);(try simp only[xW]at*))
 all_goals first|omega|exact⟨Zd,Zd⟩|skip
 all_goals((try have P:Jb _ _ h i:=Ud);(try have w:=P.c);(try have z1:bQ .add Za i 1=i+1:=b8 Uc);(try have t:=P.step Uc Ud))
 all_goals first|omega|(rw[z1];exact t.2.2 Ud Ud)|(have e:=P.end1 Uc;rw[<-e.1, <-e.2]<;>rfl)|(have e:=P.end2 Ud;rw[<-e.1, <-e.2]<;>rfl)|(have e:=t.1 Ud;rw[<-e.1, <-e.2]<;>rfl)|(have e:=t.2.1 Ud Ud;rw[<-e.1, <-e.2]<;>rfl)|done
abbrev Fj1:di:={
 Φ:=tH
 F0:=F0
 ct:=fun F f=>match f with|36=>iM F|17=>gO F|33=>ap F|78=>gZ F|_=>fun _=>none
 hc:=(by
  intro f;dsimp only;split;exact sv;exact oH;exact aw;exact rh;exact dp)
 ot:=fun F f=>match f with|77=>some (jB F)|_=>none
 ho:=(by
  intro f mk h;dsimp only at h;split at h<;>cases h
  exact t9)}
def lB:EC:=fun F=>fun
 |[.agg hl_,.one (.v (.int Za m))]=>hL hl_ fun a0 a1 a2 a3 a4 a5 a6 a7 a8 a9 aA aB aC aD aE aF aG aH aI aJ aK aL aM aN=>(fun _=>oX (HV.mk a0 a1 a2 a3 a4 a5 a6 a7 a8 a9 aA aB aC aD aE aF aG aH aI aJ aK aL aM aN)/\zk m,[NA (F.hMa (HV.mk a0 a1 a2 a3 a4 a5 a6 a7 a8 a9 aA aB aC aD aE aF aG aH aI aJ aK aL aM aN) m),.j (F.hMN (HV.mk a0 a1 a2 a3 a4 a5 a6 a7 a8 a9 aA aB aC aD aE aF aG aH aI aJ aK aL aM aN) m)])
 |_=>none
def xj:ec 21 lB:=by
 intro _ _ _ h hp;dsimp only[lB,F0,hL]at h;split at h;rotate_left;cases h;split at h<;>cases h
 rename_i m _ a0 a1 a2 a3 a4 a5 a6 a7 a8 a9 aA aB aC aD aE aF aG aH aI aJ aK aL aM aN;have ma1:=NY (m:=m) hp.1;have ma0:=aea (h:=(HV.mk a0 a1 a2 a3 a4 a5 a6 a7 a8 a9 aA aB aC aD aE aF aG aH aI aJ aK aL aM aN)) (m:=m);refine JI Fj1 qU mixed 58 [false,false,true,false,true,true,false,false] _ [53,3] [.cell 4 53,.tmp 5] Tryz.func21 rfl rfl rfl rfl rfl ?_;intro O r F hO hr hF;cbv;have hsb:∀ x:af,O.sub x 0 (O.ln x)=x:=by intro x;rw[hO];exact sa
 repeat' first|apply Zc|(apply cN<;>intro hb<;>cbv)|(refine⟨[1,4,6,7],[4,6],Int×Int×HV,fun s_=>match s_ with|(q,n,h)=>(.reg 1 (.j q):: .reg 7 (.j n)::hvV 6 h),fun s_=>match s_ with|(q,n,h)=>0<=q/\q<=20/\Gx (HV.ma (HV.mk a0 a1 a2 a3 a4 a5 a6 a7 a8 a9 aA aB aC aD aE aF aG aH aI aJ aK aL aM aN) m) (HV.ma1 (HV.mk a0 a1 a2 a3 a4 a5 a6 a7 a8 a9 aA aB aC aD aE aF aG aH aI aJ aK aL aM aN) m) h q n,fun s_=>match s_ with|(q,n,h)=>q.toNat,⟨(m,0,F.fj1 (F.hCp (HV.mk a0 a1 a2 a3 a4 a5 a6 a7 a8 a9 aA aB aC aD aE aF aG aH aI aJ aK aL aM aN))),?_,?_⟩,?_⟩;rotate_left;(focus (cbv;done));intro s_ hq;obtain⟨q,n,h⟩:=s_;replace hq:0<=q/\q<=20/\Gx (HV.ma (HV.mk a0 a1 a2 a3 a4 a5 a6 a7 a8 a9 aA aB aC aD aE aF aG aH aI aJ aK aL aM aN) m) (HV.ma1 (HV.mk a0 a1 a2 a3 a4 a5 a6 a7 a8 a9 aA aB aC aD aE aF aG aH aI aJ aK aL aM aN) m) h q n:=hq;obtain⟨q0,q1,q2⟩:=hq;cbv)|(refine⟨[1,4,6,7],[4,6],Int×Int×HV,fun s_=>match s_ with|(q,n,h)=>(.reg 1 (.j q):: .reg 7 (.j n)::hvV 6 h),fun s_=>match s_ with|(q,n,h)=>0<=q/\q<=20/\Gx (HV.ma (HV.mk a0 a1 a2 a3 a4 a5 a6 a7 a8 a9 aA aB aC aD aE aF aG aH aI aJ aK aL aM aN) m) (HV.ma1 (HV.mk a0 a1 a2 a3 a4 a5 a6 a7 a8 a9 aA aB aC aD aE aF aG aH aI aJ aK aL aM aN) m) h q n,fun s_=>match s_ with|(q,n,h)=>q.toNat,⟨(m,O.ar .add Za 0 1,F.fj1 (F.hCp (HV.mk a0 a1 a2 a3 a4 a5 a6 a7 a8 a9 aA aB aC aD aE aF aG aH aI aJ aK aL aM aN))),?_,?_⟩,?_⟩;rotate_left;(focus (cbv;done));intro s_ hq;obtain⟨q,n,h⟩:=s_;replace hq:0<=q/\q<=20/\Gx (HV.ma (HV.mk a0 a1 a2 a3 a4 a5 a6 a7 a8 a9 aA aB aC aD aE aF aG aH aI aJ aK aL aM aN) m) (HV.ma1 (HV.mk a0 a1 a2 a3 a4 a5 a6 a7 a8 a9 aA aB aC aD aE aF aG aH aI aJ aK aL aM aN) m) h q n:=hq;obtain⟨q0,q1,q2⟩:=hq;cbv)|(refine ah (O.ar .sub Za q 1,n,(F.hMt (P8 O h))) ?_ ?_ ?_;focus (cbv;done))|(refine ah (O.ar .sub Za q 1,O.ar .add Za n 1,(F.fj1 (hvE (F.hMt (P8 O h))))) ?_ ?_ ?_;focus (cbv;done))|(refine ah (O.ar .sub Za q 1,n,(F.fj1 (hvE (F.hMt (P8 O h))))) ?_ ?_ ?_;focus (cbv;done))|((try simp only[hsb,xW]);refine⟨[0,1,2,3,4,5,6,7,8,9,10],[0,1,2,3,4,5,6,7,8,9,10],?_,?_⟩;(focus (cbv;done));cbv)
 all_goals(try simp only[P8,hvE]at*)
 all_goals(subst hO hr hF;(try simp only[nc]at*);(try simp only[aj,SS,sa,az]at*);(try simp only[xW,HV.cp]at*))
 all_goals first|exact⟨Zd,Zd⟩|exact hp.1|skip
 all_goals((try have P:Gx _ _ h q n:=Ud);(try have w:=P.c);(try have z1:bQ .sub Za q 1=q-1:=eR Uc);(try have t:=P.step Uc);(try have g:=ajk (h:=(HV.mk a0 a1 a2 a3 a4 a5 a6 a7 a8 a9 aA aB aC aD aE aF aG aH aI aJ aK aL aM aN)) (m:=m) Ud (show¬ (a3:Int)>90000 by omega) Ud);(try have r:=ay.1 (show inR m 0 20=true from Ud)))
 all_goals first|omega|exact w.mt|exact(ma1 g).1 Ud|exact(ma1 g).2 Ud|(rw[z1];exact t.1 Ud)|(rw[z1];exact t.2.1 Ud Ud)|(rw[z1];exact t.2.2 Ud Ud)|(have e:=P.fin Uc;rw[<-e.1, <-e.2]<;>rfl)|(have e:=ma0 (ajh Ud);rw[e.1,e.2]<;>rfl)|(have e:=ma0 (aji (h:=(HV.mk a0 a1 a2 a3 a4 a5 a6 a7 a8 a9 aA aB aC aD aE aF aG aH aI aJ aK aL aM aN)) (show(a3:Int)>90000 by omega));rw[e.1,e.2]<;>rfl)|(have e:=ma0 (ajj Ud);rw[e.1,e.2]<;>rfl)|done
end Go.V