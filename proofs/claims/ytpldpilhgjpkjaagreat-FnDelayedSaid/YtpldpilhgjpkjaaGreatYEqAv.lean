/- Contracts. -/
import Derived.Test.YtpldpilhgjpkjaaGreatYW4
import Derived.Test.YtpldpilhgjpkjaaGreatYDrBv
import Derived.Test.YtpldpilhgjpkjaaGreatYM8
import Derived.Test.YtpldpilhgjpkjaaGreatYM10
set_option linter.all false
open Go
open And renaming intro->Zd
open IntKind renaming i64->Za
open Nat renaming le_trans->ZI
open True renaming intro->Zb
namespace Go.V
open Go Go.Proofs
set_option maxRecDepth 1000000
set_option maxHeartbeats 8000000
def pA:EC:=fun F=>fun
 |[.one (.s 1 cs)]=>some (fun _=>cs.length<=maxLen,[.k (F.bgB cs)])
 |_=>none
theorem Cj:ec 8 pA:=by
 intro _ _ _ h hp;dsimp only[pA,F0]at h;split at h<;>cases h
 rename_i cs;refine cb nB Tryz.func8 ?_
 intro O r F hO hr hF;cbv
 repeat' first|apply Zd|(apply cS<;>intro hb<;>cbv)
 all_goals(subst hO hr hF;(try simp only[nc]at*);(try simp only[am,SS,sa,az]at*))
 all_goals first
  | (show(_:List DV)=_
     first
      |exact au (m8 (by unfold bgB;simp only[SS,VK]))
      |done)
  |exact hp
  |exact Zb
  |done
abbrev Dl1:dr:=dW (fun F f=>match f with|8=>pA F|9=>hP F|10=>iC F|11=>gy F|15=>gP F|16=>fk F|17=>jx F|_=>fun _=>none) (by
 intro f;dsimp only;split;exact Cj;exact qe;exact rz;exact pp;exact pX;exact j8;exact tD;exact dD)
attribute [local irreducible] HV.al HV.fr HV.aQ HV.aR HV.fr1 HV.hp HV.wf hvN hnB qtB
theorem rK (cs:af)(hp:Rw [tU] cs):Ju 4 [.one (.s 1 cs)] [.k true]:=by
 have hw:=hp;have hml:=hw.1;have hd:=yD (cs:=cs);have hr:=Oj (cs:=cs);have d0:=GV (cs:=cs) (j:=0) (by omega) (by omega);have rb:=sf (a:=ag (dpl cs) 0 0) (n:=8) d0.1 (by omega);have hS:=Lg rb.1 rb.2;have eS:Ad (L.s 1 (dpl cs)) [(Int.toNat 0,0)]=ag (dpl cs) 0 0:=aaU (by omega);refine Oa Dl1 tq mixed 79 [false,true,true,true,false,true,true,false,false,true] _ [4] [.tmp 2] Tryz.func4 rfl rfl rfl rfl rfl ?_;intro O r F hO hr hF;cbv;have hsb:∀ x:af,O.sub x 0 (O.ln x)=x:=by intro x;rw[hO];exact sa
 repeat' first|apply Zd|(apply cS<;>intro hb<;>cbv)|(refine⟨[4,5,6,7,8,9,10],[4],Int×HV,fun s_=>match s_ with|(i,h)=>(.reg 10 (.j i)::hvV 4 h),fun s_=>match s_ with|(i,h)=>0<=i/\i<=6/\Gg (O.ar .add Za 1 (O.ar .rem Za (O.pi (.s 1 (F.dpl cs)) [(O.ad 0 0,0)]) 8)) (F.hAA (F.hNw 12 12 1 300 []) 0 (O.ar .add Za 1 (O.ar .rem Za (O.pi (.s 1 (F.dpl cs)) [(O.ad 0 0,0)]) 8))) h i,fun s_=>match s_ with|(i,h)=>(6-i).toNat,⟨(0,F.hFr (F.hAl (F.hNw 12 12 1 300 []) 0 (O.ar .add Za 1 (O.ar .rem Za (O.pi (.s 1 (F.dpl cs)) [(O.ad 0 0,0)]) 8))) 0 (F.hAA (F.hNw 12 12 1 300 []) 0 (O.ar .add Za 1 (O.ar .rem Za (O.pi (.s 1 (F.dpl cs)) [(O.ad 0 0,0)]) 8)))),?_,?_⟩,?_⟩;rotate_left;(focus (cbv;done));intro s_ hi;obtain⟨i,h⟩:=s_;replace hi:0<=i/\i<=6/\Gg (O.ar .add Za 1 (O.ar .rem Za (O.pi (.s 1 (F.dpl cs)) [(O.ad 0 0,0)]) 8)) (F.hAA (F.hNw 12 12 1 300 []) 0 (O.ar .add Za 1 (O.ar .rem Za (O.pi (.s 1 (F.dpl cs)) [(O.ad 0 0,0)]) 8))) h i:=hi;obtain⟨i0,i1,i2⟩:=hi;cbv)|(refine ah (O.ar .add Za i 1,F.hAl (hvS O h) 0 (O.ar .add Za 1 (O.ar .rem Za (O.pi (.s 1 (F.dpl cs)) [(O.ad 0 0,0)]) 8))) ?_ ?_ ?_;focus (cbv;done))|((try simp only[hsb,Ho]);refine⟨[0,1,2,3,4,5,6,7,8,9,10,11,12,13],[0,1,2,3,4,5,6,7,8,9,10,11,12,13],?_,?_⟩;(focus (cbv;done));cbv)
 all_goals(try simp only[hvS,hvE]at*)
 all_goals(subst hO hr hF;(try simp only[nc]at*);(try simp only[am,SS,sa,az]at*);(try simp only[Ho]at*);(try simp only[eS]at*))
 all_goals first|exact hml|exact⟨hw,Ry (by assumption)⟩|exact⟨Zb,Zb⟩|exact Zb|(show aw _ _=true;kernel_rfl)|exact Ki hr (by omega) (by omega)|exact⟨⟨Nat.zero_le _,fun e he=>by cases he⟩,by decide⟩|exact rb|omega|skip
 all_goals(generalize bO .add Za 1 (bO .rem Za (ag (dpl cs) 0 0) 8)=s at*)
 all_goals(have sb:=Ql hS)
 all_goals(obtain⟨f1,f2,f3,f4,f5,f6⟩:=f36 hS)
 all_goals(have f0:=adg)
 all_goals(have f7:=J2 hS)
 all_goals(simp only[Ah,d36]at f1 f2 f3 f4 f5 f6 f7;(try have P:Gg _ _ h i:=(by assumption));(try have w:=P.wf);(try have t:=P.step (by omega));(try have e:=P.fin (by omega));(try have z1:bO .add Za i 1=i+1:=cE (by omega)))
 all_goals first|omega|exact⟨⟨f1⟩,by omega,by omega⟩|exact⟨⟨f4⟩,f3⟩|exact⟨by omega,by omega,f7⟩|exact⟨⟨w⟩,by omega,by omega⟩|(rw[z1];exact t.2.2)|exact f7|(rw[z1];omega)|exact⟨w⟩|exact⟨(HV.wf_hc w).1.r13,ZI aS (ZI (HV.wf_hc w).1.c13 (by decide))⟩|exact dbt e.1|exact(tf0 e.2 (by assumption)).elim|exact(tf0 e.1 (by assumption)).elim|exact(no0 f2 (by assumption)).elim|exact(no0 f5 (by assumption)).elim|exact(tf0 f0 (by assumption)).elim|exact(cmn t.2.1 (by assumption)).elim|exact(cmz t.1 (by assumption)).elim|done
theorem Bc (recs:af)(h:Az [(false,[.sl [tU]])] recs):Ju 4 (yo [(false,[.sl [tU]])] recs) [.k true]:=by
 match recs,h with
 | [[.s _ a0]],h=>
   simp only[Az,bR,dj]at h;obtain⟨⟨⟨rfl,ha0,ka0⟩,_⟩,_⟩:=h;exact rK a0 ⟨ha0,ka0⟩
end Go.V