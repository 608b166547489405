/- Contracts. -/
import Derived.Test.YtpldpilhgjpkjaaGreatDrBv
import Derived.Test.YtpldpilhgjpkjaaGreatM8
import Derived.Test.YtpldpilhgjpkjaaGreatHoBv
set_option linter.all false
open Go
open And renaming intro->Zb
open Int renaming toNat->YB
open IntKind renaming i64->Za
open True renaming intro->Zd
namespace Go.V
open Go Go.Proofs
set_option maxRecDepth 1000000
set_option maxHeartbeats 8000000
def pA:EC:=fun F=>fun
 |[.one (.s 1 cs)]=>some (fun _=>cs.length<=maxLen,[.k (F.bgB cs)])
 |_=>none
theorem Cd:ec 8 pA:=by
 intro _ _ _ h hp;dsimp only[pA,F0]at h;split at h<;>cases h
 rename_i cs;refine cb nB Tryz.func8 ?_
 intro O r F hO hr hF;cbv
 repeat' first|apply Zb|(apply b8<;>intro hb<;>cbv)
 all_goals(subst hO hr hF;(try simp only[nc]at*);(try simp only[am,SS,sa,az]at*))
 all_goals first
  | (show(_:List DV)=_
     first
      |exact aj (fU (by unfold bgB;simp only[SS,VM]))
      |done)
  |exact hp
  |exact Zd
  |done
abbrev Lp1:dB:=eg (fun F f=>match f with|8=>pA F|9=>gV F|10=>jL F|11=>iw F|12=>ju F|13=>jh F|14=>iy F|_=>fun _=>none) (by
 intro f;dsimp only;split;exact Cd;exact qa;exact uD;exact ra;exact qb;exact tg;exact rh;exact dI)
attribute [local irreducible] xaC xaU xaE xaK xaF xaS xaL xaX xaD xaA xaP xaN xaR xaG xaO hpI hnC hnU hnE hnR hnF hnK hnM hnI hnQ hnL hnN hnB hlV hlK ldV hsK hsC waI
theorem rB (cs:af)(hp:Rw [tU] cs):Nm 3 [.one (.s 1 cs)] [.k true]:=by
 have hw:=hp;have hml:=hw.1;have hd:=yI (cs:=cs);have hr:=NP (cs:=cs);have d0:=Cg (cs:=cs) (j:=0) (by omega) (by omega);have d1:=Cg (cs:=cs) (j:=1) (by omega) (by omega);have rb:=oL (a:=ag (dpl cs) 0 0) (n:=4) d0.1 (by omega);have hS:uk (L.s 1 [[L.i 3],[L.i 5],[L.i 6],[L.i 7]]) [((bK .rem Za (ag (dpl cs) 0 0) 4).toNat,0)]∈[(3:Int),5,6,7]:=aeB rb.1 rb.2;refine cb Lp1 Tryz.func3 ?_
 intro O r F hO hr hF;cbv
 repeat' first|apply Zb|(apply b8<;>intro hb<;>cbv)
 all_goals(subst hO hr hF;(try simp only[nc]at*);(try simp only[am,SS,sa,az]at*);(try simp only[show uk (L.s 1 (dpl cs)) [(YB 0,0)]=ag (dpl cs) 0 0 from EA (by omega),show uk (L.s 1 (dpl cs)) [(YB 1,0)]=ag (dpl cs) 1 0 from EA (by omega)]);(try simp only[show uk (L.s 1 (dpl cs)) [(YB 0,0)]=ag (dpl cs) 0 0 from EA (by omega),show uk (L.s 1 (dpl cs)) [(YB 1,0)]=ag (dpl cs) 1 0 from EA (by omega)]at*))
 all_goals first|exact hml|exact⟨hw,Q0 (by assumption)⟩|exact⟨Zd,Zd⟩|exact Zd|(show aw _ _=true;kernel_rfl)|exact DR hr (by omega) (by omega)|exact DR La rb.1 rb.2|exact⟨⟨Nat.zero_le _,fun e he=>by cases he⟩,by decide⟩|exact rb|omega|skip
 all_goals(generalize uk (L.s 1 [[L.i 3],[L.i 5],[L.i 6],[L.i 7]]) [((bK .rem Za (ag (dpl cs) 0 0) 4).toNat,0)]=s at*)
 all_goals(have sb:=w34 hS)
 all_goals(have wb:=oL (a:=ag (dpl cs) 1 0) (n:=waI s) d1.1 sb.1)
 all_goals(generalize bK .rem Za (ag (dpl cs) 1 0) (waI s)=w at*)
 all_goals(obtain⟨f1,f2,f3,f4,f5,f6,f7,f8,f9,f10⟩:=f34 hS wb.1 wb.2)
 all_goals(have f11:=acF)
 all_goals(have f12:=(HV.wf_hc f1);have f13:=(HV.wf_hc f2).1)
 all_goals(simp only[HV.lv,HV.lk,HV.sk,HV.al,HV.aQ,HV.aR,HV.ao,HV.hp,E2,hvN,Gr,JR]at f3 f4 f5 f6 f7 f8 f9 f10 f12 f13)
 all_goals first|omega|exact⟨f12.1,by decide,by decide,by decide,f12.2.2.2.2.1,by omega,by omega,by omega⟩|exact⟨f13.hp,f4⟩|exact⟨f13.hp,f5⟩|exact⟨f13,f4⟩|exact dbt (cm0 f10)|exact(TN f3 (by assumption)).elim|exact(TN f6 (by assumption)).elim|exact(TN f7 (by assumption)).elim|exact(TN f8 (by assumption)).elim|exact(TN f9 (by assumption)).elim|exact(tf0 f11 (by assumption)).elim|done
theorem Bd (recs:af)(h:AG [(false,[.sl [tU]])] recs):Nm 3 (yv [(false,[.sl [tU]])] recs) [.k true]:=by
 match recs,h with
 | [[.s _ a0]],h=>
   simp only[AG,cy,dz]at h;obtain⟨⟨⟨rfl,ha0,ka0⟩,_⟩,_⟩:=h;exact rB a0 ⟨ha0,ka0⟩
end Go.V