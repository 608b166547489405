/- Contracts. -/
import Derived.Test.YtpldpilhgjpkjaaGreatXW4
import Derived.Test.YtpldpilhgjpkjaaGreatXDrBv
import Derived.Test.YtpldpilhgjpkjaaGreatXM8
import Derived.Test.YtpldpilhgjpkjaaGreatXM10
set_option linter.all false
open Go
open And renaming intro->Zd
open Int renaming toNat->Ye
open IntKind renaming i64->Za
open True renaming intro->Zb
namespace Go.V
open Go Go.Proofs
set_option maxRecDepth 1000000
set_option maxHeartbeats 8000000
def pS:EC:=fun F=>fun
 |[.one (.s 1 cs)]=>some (fun _=>cs.length<=maxLen,[.k (F.bgB cs)])
 |_=>none
theorem CP:ec 8 pS:=by
 intro _ _ _ h hp;dsimp only[pS,F0]at h;split at h<;>cases h
 rename_i cs;refine cb nB Tryz.func8 ?_
 intro O r F hO hr hF;cbv
 repeat' first|apply Zd|(apply cP<;>intro hb<;>cbv)
 all_goals(subst hO hr hF;(try simp only[nc]at*);(try simp only[aj,SS,sa,az]at*))
 all_goals first
  | (show(_:List DV)=_
     first
      |exact av (lB (by unfold bgB;simp only[SS,VR]))
      |done)
  |exact hp
  |exact Zb
  |done
abbrev Lr1:dp:=d4 (fun F f=>match f with|8=>pS F|9=>iy F|10=>iP F|11=>gK F|15=>hE F|18=>fy F|19=>fw F|17=>jM F|_=>fun _=>none) (by
 intro f;dsimp only;split;exact CP;exact qE;exact rV;exact pJ;exact qp;exact nZ;exact nY;exact t7;exact dB)
attribute [local irreducible] HV.al HV.fr HV.de HV.co HV.aQ HV.aR HV.fr1 HV.de1 HV.co1 HV.hp HV.wf hvN hnB
theorem uq (cs:af)(hp:Rw [tU] cs):Kj 5 [.one (.s 1 cs)] [.k true]:=by
 have hw:=hp;have hml:=hw.1;have hd:=zd (cs:=cs);have hr:=Px (cs:=cs);have d0:=HL (cs:=cs) (j:=0) (by omega) (by omega);have rb:=sI (a:=ag (dpl cs) 0 0) (n:=8) d0.1 (by omega);have hS:=Ma rb.1 rb.2;refine Pm Lr1 tQ mixed 92 [false,true,true,true,false,true,true,true,true,true,true] _ [4] [.tmp 2] Tryz.func5 rfl rfl rfl rfl rfl ?_;intro O r F hO hr hF;cbv
 repeat' first|apply Zd|(apply cP<;>intro hb<;>cbv)|((try simp only[Ic]);refine⟨[0,1,2,3,4,5,6,7,8,9,10,11,12,13,14],[0,1,2,3,4,5,6,7,8,9,10,11,12,13,14],?_,?_⟩;(focus (cbv;done));cbv)
 all_goals(subst hO hr hF;(try simp only[nc]at*);(try simp only[aj,SS,sa,az]at*);(try simp only[Ic]at*);(try simp only[show zI (L.s 1 (dpl cs)) [(Ye 0,0)]=ag (dpl cs) 0 0 from NG (by omega)]);(try simp only[show zI (L.s 1 (dpl cs)) [(Ye 0,0)]=ag (dpl cs) 0 0 from NG (by omega)]at*))
 all_goals first|exact hml|exact⟨hw,S9 (by assumption)⟩|exact⟨Zb,Zb⟩|exact Zb|(show ax _ _=true;kernel_rfl)|exact K6 hr (by omega) (by omega)|exact⟨⟨Nat.zero_le _,fun e he=>by cases he⟩,by decide⟩|exact rb|omega|skip
 all_goals(generalize bO .add Za 1 (bO .rem Za (ag (dpl cs) 0 0) 8)=s at*)
 all_goals(have sb:=Rs hS)
 all_goals(obtain⟨f1,f2,f3,f4,f5,f6,f7,f8,f9,f10,f11,f12,f13,f14,f15⟩:=f37 hS)
 all_goals(have f0:=aeA)
 all_goals(simp only[Eh,u37,t37,OZ]at f1 f2 f3 f4 f5 f6 f7 f8 f9 f10 f11 f12 f13 f14 f15)
 all_goals first|omega|exact⟨⟨f1⟩,by omega,by omega⟩|exact⟨⟨f10⟩,by omega,by omega⟩|exact⟨⟨f4⟩,f3⟩|exact⟨f6⟩|exact⟨f8⟩|exact⟨f10⟩|exact⟨f14⟩|exact dbt f15|exact dbt f11|exact(no0 f2 (by assumption)).elim|exact(no0 f5 (by assumption)).elim|exact(tf0 f7 (by assumption)).elim|exact(no0 f9 (by assumption)).elim|exact(tf0 f11 (by assumption)).elim|exact(no0 f12 (by assumption)).elim|exact(no0 f13 (by assumption)).elim|exact(tf0 f15 (by assumption)).elim|exact(tf0 f0 (by assumption)).elim|done
theorem D2 (recs:af)(h:A1 [(false,[.sl [tU]])] recs):Kj 5 (yQ [(false,[.sl [tU]])] recs) [.k true]:=by
 match recs,h with
 | [[.s _ a0]],h=>
   simp only[A1,bR,dq]at h;obtain⟨⟨⟨rfl,ha0,ka0⟩,_⟩,_⟩:=h;exact uq a0 ⟨ha0,ka0⟩
end Go.V