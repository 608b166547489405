/- Contracts. -/
import Derived.Test.YtcbcfelbafccpaaGreatXW4
import Derived.Test.YtcbcfelbafccpaaGreatXDrBw
import Derived.Test.YtcbcfelbafccpaaGreatXM8
import Derived.Test.YtcbcfelbafccpaaGreatXM9
set_option linter.all false
open Go
open And renaming intro->Zc
open Int renaming toNat->YS,zero_add->Wy
open IntKind renaming i64->Za
open True renaming intro->Zd
namespace Go.V
open Go Go.Proofs
set_option maxRecDepth 1000000
set_option maxHeartbeats 8000000
def pu:EC:=fun F=>fun
 |[.one (.s 1 cs)]=>some (fun _=>cs.length<=maxLen,[.k (F.bgB cs)])
 |_=>none
def BQ:ec 4 pu:=by
 intro _ _ _ h hp;dsimp only[pu,F0]at h;split at h<;>cases h
 rename_i cs;refine cb nB Tryz.func4 ?_
 intro O r F hO hr hF;cbv
 repeat' first|apply Zc|(apply cN<;>intro hb<;>cbv)
 all_goals(subst hO hr hF;(try simp only[nc]at*);(try simp only[am,SS,sa,az]at*))
 all_goals first
  | (show(_:List DV)=_
     first
      |exact au (k8 (by unfold bgB;simp only[SS,VI]))
      |done)
  |exact hp
  |exact Zd
  |done
abbrev Lt1:dq:=dP (fun F f=>match f with|4=>pu F|5=>gS F|6=>ij F|7=>fW F|8=>fX F|9=>gD F|10=>gA F|11=>gB F|12=>jn F|13=>gH F|14=>cF F|_=>fun _=>none) (by
 intro f;dsimp only;split;exact BQ;exact qa;exact rA;exact pk;exact pm;exact pT;exact pQ;exact pR;exact tE;exact pX;exact ji;exact dy)
attribute [local irreducible] HV.al HV.aQ HV.aR HV.st HV.st1 HV.tr HV.tr1 HV.cL HV.cB HV.lv HV.lk HV.hp HV.wf hvN hnB rgS pfN
def oR (cs:af)(hp:Rw [tU] cs):I1 3 [.one (.s 1 cs)] [.k true]:=by
 have hw:=hp;have hml:=hw.1;have hd:=yg (cs:=cs);have hr:=Nr (cs:=cs);have d0:=BX (cs:=cs) (j:=0) Uc Uc;have d1:=BX (cs:=cs) (j:=1) Uc Uc;have ra:=oG (a:=ag (dpl cs) 0 0) (n:=60) d0.1 Uc;have e0:yM (L.s 1 (dpl cs)) [(YS 0,0)]=ag (dpl cs) 0 0:=HJ Uc;have e1:yM (L.s 1 (dpl cs)) [(YS 1,0)]=ag (dpl cs) 1 0:=HJ Uc;have zb:=z35 ra.1 ra.2;refine Nj Lt1 tw mixed 120 [false,true,true,true,false,true,true,true,false,true,true,true,true] _ [4] [.tmp 2] Tryz.func3 rfl rfl rfl rfl rfl ?_;intro O r F hO hr hF;cbv
 repeat' first|apply Zc|(apply cN<;>intro hb<;>cbv)|((try simp only[Cb]);refine⟨[0,1,2,3,4,5,6,7,8,9,10,11,12,13,14,15],[0,1,2,3,4,5,6,7,8,9,10,11,12,13,14,15],?_,?_⟩;(focus (cbv;done));cbv)|((try simp only[Cb]);refine⟨[0,1,2,3,4,5,6,7,8,9,10,11,12,13,14,15],[0,1,2,3,4,5,6,7,8,9,10,11,12,13,14,15,69],?_,?_⟩;(focus (cbv;done));cbv)
 all_goals(subst hO hr hF;(try simp only[nc]at*);(try simp only[am,SS,sa,az]at*);(try simp only[Cb]at*);(try simp only[e0,e1]at*))
 all_goals(generalize bK .add Za 17 (bK .rem Za (ag (dpl cs) 0 0) 60)=z at*)
 all_goals(have yb:=y35 zb.1 zb.2)
 all_goals(have rb:=oG (a:=ag (dpl cs) 1 0) (n:=bK .sub Za z 9) d1.1 Uc)
 all_goals(have rc:bK .rem Za (ag (dpl cs) 1 0) (bK .sub Za z 9)<z-9:=by omega)
 all_goals(have lb:=l35 zb.2 rb.1 rc)
 all_goals first|exact hml|exact⟨hw,QT Ud⟩|exact⟨Zd,Zd⟩|exact Zd|(show ay _ _=true;kernel_rfl)|exact DJ hr Uc Uc|exact⟨⟨Nat.zero_le _,fun e he=>by cases he⟩,by decide⟩|exact rb|exact ra|omega|skip
 all_goals(generalize bK .add Za 9 (bK .rem Za (ag (dpl cs) 1 0) (bK .sub Za z 9))=l at*)
 all_goals(obtain⟨f1,f2,f3,f4,f5,f6,f7,f8,f9,f10,f11,f12,f13,f14⟩:=f35 zb.1 zb.2 lb.1 lb.2)
 all_goals(have f0:=ab3)
 all_goals(have fc:=c35 f8 f9)
 all_goals(have b1:bK .add Za 0 3=3:=by decide+kernel)
 all_goals(have b2:bK .add Za 0 z=z:=(cu Uc).trans (Wy z))
 all_goals(have b3:bK .sub Za z 1=z-1:=fC Uc)
 all_goals(have b4:bK .add Za 0 l=l:=(cu Uc).trans (Wy l))
 all_goals(simp only[H2,m35,IY,adm]at f1 f2 f3 f4 f5 f6 f7 f8 f9 f10 f11 f12 f13 f14 fc;(try simp only[f3]at*))
 all_goals first|omega|exact⟨⟨f1⟩,Uc,Uc⟩|exact⟨⟨f4⟩,Uc,Uc⟩|exact⟨⟨f5⟩,by rw[b2,b3];omega,by rw[b2,b3];omega⟩|exact⟨f6⟩|exact⟨f8⟩|exact⟨⟨f8⟩,by rw[b4];omega,by rw[b4];omega⟩|exact(HV.wf_hc f8).1.r5|exact DJ fc Uc Uc|exact fc|exact(no0 f2 Ud).elim|exact(tf0 f7 Ud).elim|exact(tf0 f9 Ud).elim|exact(tf0 f10 Ud).elim|exact(no0 f11 Ud).elim|exact absurd f11 Ud|exact absurd f12 Ud|exact absurd ((HJ (w:=1) (j:=0) (i:=3) Uc).trans f12) Ud|exact dbt f14|exact absurd f13 Ud|exact absurd f14 Ud|exact(tf0 f0 Ud).elim|exact dbt (cm0 f14)|done
def vP (recs:af)(h:Al [(false,[.sl [tU]])] recs):I1 3 (xX [(false,[.sl [tU]])] recs) [.k true]:=by
 match recs,h with
 | [[.s _ a0]],h=>
   simp only[Al,bU,dm]at h;obtain⟨⟨⟨rfl,ha0,ka0⟩,_⟩,_⟩:=h;exact oR a0 ⟨ha0,ka0⟩
end Go.V