/-
  Contracts, by evaluation.
-/
import Derived.Test.YtniaaknbbceigaaGreatS10
import Derived.Test.YtniaaknbbceigaaGreatVE
set_option linter.all false
namespace Go.V
open Go Go.Proofs
set_option maxRecDepth 1000000
set_option maxHeartbeats 8000000
namespace LObj
structure Fns where
 no:Unit
def F0 :Fns:=⟨()⟩
def B :TB Tryz.prog:={Φ:=Fns,F0:=F0}
end LObj
theorem vS (a0 a1 a2 a3:Int)(hp:True):aP Tryz.prog 136 [.agg [.v (.int .i64 a0),.v (.int .i64 a1),.v (.int .i64 a2),.v (.int .i64 a3)]] [.agg [.v (.int .i64 a0),.v (.int .i64 a1),.v (.int .i64 a2),.v (.int .i64 a3)]]:=by
 refine ai LObj.B ag mixed 17 _ [151] [.cell 2 151] Tryz.func136 rfl rfl rfl rfl rfl ?_;intro O r (F:LObj.Fns) hO hr (hF:F=LObj.F0);cbv
 repeat' first|refine And.intro ?_ ?_|(refine aG (fun hb=>?_) (fun hb=>?_)<;>cbv)
 all_goals(subst hO hr hF;(try simp only[af,SS,sa,az]at*);(try simp only[nc]at*);(try simp only[aF]at*))
 all_goals(try simp only[LObj.F0]at*)
 all_goals first|trivial|trace_state
theorem vP (a0 a1 a2 a3:Int)(d:DV)(hp:d=.agg [.v (.int .i64 a0),.v (.int .i64 a1),.v (.int .i64 a2),.v (.int .i64 a3)]):aP Tryz.prog 160 [.agg [.v (.int .i64 a0),.v (.int .i64 a1),.v (.int .i64 a2),.v (.int .i64 a3)],d] [.one (.v (.bool true))]:=by
 subst hp;refine ai LObj.B ag mixed 25 _ [4] [.tmp 4] Tryz.func160 rfl rfl rfl rfl rfl ?_;intro O r (F:LObj.Fns) hO hr (hF:F=LObj.F0);cbv
 repeat' first|refine And.intro ?_ ?_|(refine aG (fun hb=>?_) (fun hb=>?_)<;>cbv)
 all_goals(subst hO hr hF;(try simp only[af,SS,sa,az]at*);(try simp only[nc]at*);(try simp only[aF]at*))
 all_goals(try simp only[LObj.F0]at*)
 all_goals first|trivial|trace_state
namespace LObjS
structure Fns where
 no:Unit
def F0 :Fns:=⟨()⟩
def ct (F:Fns):CT:=fun f ds=>match f,ds with
 |136,[.agg [.v (.int .i64 a0),.v (.int .i64 a1),.v (.int .i64 a2),.v (.int .i64 a3)]]=>some (fun _=>True,[.agg [.v (.int .i64 a0),.v (.int .i64 a1),.v (.int .i64 a2),.v (.int .i64 a3)]])
 |160,[.agg [.v (.int .i64 a0),.v (.int .i64 a1),.v (.int .i64 a2),.v (.int .i64 a3)],d]=>some (fun _=>d=.agg [.v (.int .i64 a0),.v (.int .i64 a1),.v (.int .i64 a2),.v (.int .i64 a3)],[.one (.v (.bool true))])
 |_,_=>none
theorem ak :aW Tryz.prog (ct F0):=by
 intro f ds pre res h hp;unfold ct at h;split at h<;>(try split at h)<;>cases h
 exact vS _ _ _ _ hp;exact vP _ _ _ _ _ hp
def B :TB Tryz.prog:=tb ak
end LObjS
namespace MObjS
structure Fns where
 no:Unit
def F0 :Fns:=⟨()⟩
def B :TB Tryz.prog:={Φ:=Fns,F0:=F0}
end MObjS
theorem uq (es:List (List L))(left:Int)(hp:Rw [tI,tI,tI,tI] es/\0<=left/\left<=1048576):aP Tryz.prog 39 [.one (.s 4 es),.one (.v (.int .i64 left))] [.one (.v (.int .i64 (aZ [es] left)))]:=by
 obtain⟨hw,h0,h1⟩:=hp;have hc:aj es=es.length:=hw.cnt rfl;have hm:=hw.1;unfold maxLen at hm;have hs:aV .sub .i64 left es.length=left-es.length:=cH (by omega);have hn:aZ [es] left=if left<es.length then-1 else left-es.length:=by unfold aZ;rw[cz,hc]
 refine ai LObjS.B ag mixed 12 _ [3] [.tmp 4] Tryz.func39 rfl rfl rfl rfl rfl ?_;intro O r (F:LObjS.Fns) hO hr (hF:F=LObjS.F0);cbv
 repeat' first|refine And.intro ?_ ?_|(refine aG (fun hb=>?_) (fun hb=>?_)<;>cbv)
 all_goals(subst hO hr hF;(try simp only[af,SS,sa,az]at*);(try simp only[nc]at*);(try simp only[aF]at*))
 all_goals(try simp only[hs,LObjS.F0]at*)
 all_goals first|trivial|(rw[hn,if_pos (by omega)])|(rw[hn,if_neg (by omega)])
theorem uw (es:List (List L))(hp:Rw [tI,tI,tI,tI] es/\aj es<=1048576):aP Tryz.prog 50 [.one (.s 4 es)] [.one (.s 4 es)]:=by
 obtain⟨hw,hlim⟩:=hp;have hwf:Wf [.v (.int .i64 0),.v (.int .i64 0),.v (.int .i64 0),.v (.int .i64 0)] es:=hw.wf;have hlen:es.length<=1048576:=Nat.le_trans (Nat.le_add_right _ _) hlim;refine ai LObjS.B ag mixed 23 _ [64] [.tmp 2] Tryz.func50 rfl rfl rfl rfl rfl ?_;intro O r (F:LObjS.Fns) hO hr (hF:F=LObjS.F0);cbv;have h0z:bH es [.v (.int .i64 0),.v (.int .i64 0),.v (.int .i64 0),.v (.int .i64 0)] 0=O.rep (O.zi (O.ln es)) [.v (.int .i64 0),.v (.int .i64 0),.v (.int .i64 0),.v (.int .i64 0)]:=by
  subst hO;rw[cf];rfl
 refine⟨?_,?_,[0,3,4],[3],Int×List (List L),fun s=>[.reg 4 (.one (.v (.int .i64 s.1))),.leaf 3 0 ⟨0,0,none,.own (.s 4 s.2)⟩],fun s=>0<=s.1/\s.1.toNat<=es.length/\s.2=bH es [.v (.int .i64 0),.v (.int .i64 0),.v (.int .i64 0),.v (.int .i64 0)] s.1.toNat,fun s=>es.length-s.1.toNat,⟨(0,O.rep (O.zi (O.ln es)) [.v (.int .i64 0),.v (.int .i64 0),.v (.int .i64 0),.v (.int .i64 0)]),?_,?_⟩,?_⟩
 ·subst hO;exact iq (b:=32) (show es.length*_<=_ by omega) (show es.length<=_ by omega)
 ·subst hO;exact⟨rfl,rfl⟩
 ·exact⟨by omega,Nat.zero_le _,h0z.symm⟩
 ·cbv
 ·rintro⟨i,m⟩ hi;replace hi:0<=i/\i.toNat<=es.length/\m=bH es [.v (.int .i64 0),.v (.int .i64 0),.v (.int .i64 0),.v (.int .i64 0)] i.toNat:=hi;obtain⟨g0,g1,hm⟩:=hi;cbv
  repeat' first|refine And.intro ?_ ?_|(refine aG (fun hb=>?_) (fun hb=>?_)<;>cbv)|(refine aa (O.ar .add .i64 i 1,O.up (.s 4 m) [(O.ad 0 i,0)] [.v (.int .i64 (O.gi es i 0)),.v (.int .i64 (O.gi es i 1)),.v (.int .i64 (O.gi es i 2)),.v (.int .i64 (O.gi es i 3))]) ?_ ?_ ?_;rotate_left 2;focus (cbv;done))
  all_goals(subst hO hr hF;(try simp only[af,SS,sa,az]at*);(try simp only[nc]at*);(try simp only[aF]at*))
  all_goals(try simp only[LObjS.F0,lL,List.length_replicate,Int.toNat_natCast]at*)
  all_goals try have hlt:i<es.length:=by assumption
  all_goals try rw[bP (n:=es.length) g0 hlt (by omega)]
  all_goals try have he:es.getD i.toNat []=[.v (.int .i64 (ab es i 0)),.v (.int .i64 (ab es i 1)),.v (.int .i64 (ab es i 2)),.v (.int .i64 (ab es i 3))]:=(aw hwf g0 hlt).symm
  all_goals try have hct:=aX (es:=es) (n:=i.toNat) (by omega);rw[he]at hct;simp only[bR,cv,Nat.add_zero,Nat.zero_add]at hct
  all_goals have hle1:=ap (es:=es) (n:=i.toNat+1)
  all_goals have hcE:aj es=es.length+aH es:=rfl
  all_goals first|exact bQ hwf g0 hlt|exact⟨g0,hlt⟩|(rw[hm];exact cA (by rw[aI g1];omega) (by rw[aY (by omega)];exact Nat.le_refl _))|omega|(rw[show(i+1).toNat=i.toNat+1 from by omega, <-cJ (by omega), <-hm,dI (by rw[hm,aY (by omega)];rfl),he])|(rw[hm,aI g1];exact⟨trivial,rfl⟩)|(rw[hm,show i.toNat=es.length from by omega,cI])|trace_state
theorem ui (es:List (List L))(d:DV)(hp:d=.one (.s 4 es)/\Rw [tI,tI,tI,tI] es/\aj es<=1099511627776):aP Tryz.prog 61 [.one (.s 4 es),d] [.one (.v (.bool true))]:=by
 obtain⟨rfl,hw,hlim⟩:=hp;have hwf:Wf [.v (.int .i64 0),.v (.int .i64 0),.v (.int .i64 0),.v (.int .i64 0)] es:=hw.wf;have hlen:es.length<=1099511627776:=Nat.le_trans (Nat.le_add_right _ _) hlim;refine ai LObjS.B ag mixed 27 _ [4] [.tmp 4] Tryz.func61 rfl rfl rfl rfl rfl ?_;intro O r (F:LObjS.Fns) hO hr (hF:F=LObjS.F0);cbv;refine aG (fun hb=>?_) (fun hb=>?_)<;>cbv
 ·(subst hO hr hF;(try simp only[af,SS,sa,az]at*);(try simp only[nc]at*);(try simp only[aF]at*));exact absurd rfl hb
 ·clear hb;refine⟨[0,1,5],[],Int,fun i=>[.reg 5 (.one (.v (.int .i64 i)))],fun i=>0<=i/\i.toNat<=es.length,fun i=>es.length-i.toNat,⟨0,?_,?_⟩,?_⟩
  ·exact⟨by omega,Nat.zero_le _⟩
  ·cbv
  ·rintro i hi;replace hi:0<=i/\i.toNat<=es.length:=hi;obtain⟨g0,g1⟩:=hi;cbv
   repeat' first|refine And.intro ?_ ?_|(refine aG (fun hb=>?_) (fun hb=>?_)<;>cbv)|(refine aa (O.ar .add .i64 i 1) ?_ ?_ ?_;rotate_left 2;focus (cbv;done))
   all_goals(subst hO hr hF;(try simp only[af,SS,sa,az]at*);(try simp only[nc]at*);(try simp only[aF]at*))
   all_goals(try simp only[LObjS.F0]at*)
   all_goals try have hlt:i<es.length:=by assumption
   all_goals try rw[bP (n:=es.length) g0 hlt (by omega)]
   all_goals try have he:es.getD i.toNat []=[.v (.int .i64 (ab es i 0)),.v (.int .i64 (ab es i 1)),.v (.int .i64 (ab es i 2)),.v (.int .i64 (ab es i 3))]:=(aw hwf g0 hlt).symm
   all_goals try have hct:=aX (es:=es) (n:=i.toNat) (by omega);rw[he]at hct;simp only[bR,cv,Nat.add_zero,Nat.zero_add]at hct
   all_goals have hle1:=ap (es:=es) (n:=i.toNat+1)
   all_goals have hcE:aj es=es.length+aH es:=rfl
   all_goals first|omega|exact bQ hwf g0 hlt|trivial|trace_state
theorem pQ (es:List (List L))(k:Int)(hp:Rw [tI,tI,tI,tI] es/\aj es<=1099511627776/\0<=k/\aS [es] k<=1152921504606846976):eF Tryz.prog 106 [.one (.s 4 es),.one (.v (.int .i64 k))] [.s 4 (bN es k)] [.one (.v (.int .i64 (aS [es] k)))]:=by
 obtain⟨hw,hlim,hk0,hkb⟩:=hp;have hwf:Wf [.v (.int .i64 0),.v (.int .i64 0),.v (.int .i64 0),.v (.int .i64 0)] es:=hw.wf;have hlen:es.length<=1099511627776:=Nat.le_trans (Nat.le_add_right _ _) hlim;refine dd MObjS.B ag mixed 41 _ [3] [.tmp 4] [(0,0)] Tryz.func106 rfl rfl rfl rfl rfl rfl rfl ?_;intro O r os (F:MObjS.Fns) hO hr hos (hF:F=MObjS.F0);cbv;refine⟨[0,1,5],[0],Int×Int×List (List L),fun s=>match s with|(i,k',cur)=>[.reg 5 (.one (.v (.int .i64 i))),.reg 1 (.one (.v (.int .i64 k'))),.leaf 0 0 ⟨0,0,some 0,.own (.s 4 cur)⟩],fun s=>0<=s.1/\s.1.toNat<=es.length/\s.2.1=gP es k s.1.toNat/\s.2.2=dQ es k s.1.toNat,fun s=>es.length-s.1.toNat,⟨(0,k,es),?_,?_⟩,?_⟩
 ·exact⟨by omega,Nat.zero_le _,bB.symm,cU.symm⟩
 ·cbv
 ·rintro⟨i,k',cur⟩ hi;replace hi:0<=i/\i.toNat<=es.length/\k'=gP es k i.toNat/\cur=dQ es k i.toNat:=hi;obtain⟨g0,g1,hk',hc⟩:=hi;cbv
  repeat' first|refine And.intro ?_ ?_|(refine aG (fun hb=>?_) (fun hb=>?_)<;>cbv)|(refine aa (O.ar .add .i64 i 1,O.ar .add .i64 (O.ar .add .i64 (O.ar .add .i64 (O.ar .add .i64 (k') 1) 1) 1) 1,O.up (.s 4 (O.up (.s 4 (O.up (.s 4 (O.up (.s 4 (cur)) [(O.ad 0 i,0)] [.v (.int .i64 (k'))])) [(O.ad 0 i,1)] [.v (.int .i64 (O.ar .add .i64 (k') 1))])) [(O.ad 0 i,2)] [.v (.int .i64 (O.ar .add .i64 (O.ar .add .i64 (k') 1) 1))])) [(O.ad 0 i,3)] [.v (.int .i64 (O.ar .add .i64 (O.ar .add .i64 (O.ar .add .i64 (k') 1) 1) 1))]) ?_ ?_ ?_;rotate_left 2;focus (cbv;done))
  all_goals((try subst hos);subst hO hr hF;(try simp only[af,SS,sa,az]at*);(try simp only[nc]at*);(try simp only[aF]at*))
  all_goals(try simp only[MObjS.F0]at*)
  all_goals try have hlt:i<es.length:=by assumption
  all_goals try rw[bP (n:=es.length) g0 hlt (by omega)]
  all_goals try have hlt':i.toNat<es.length:=by omega
  all_goals try have he:es.getD i.toNat []=[.v (.int .i64 (ab es i 0)),.v (.int .i64 (ab es i 1)),.v (.int .i64 (ab es i 2)),.v (.int .i64 (ab es i 3))]:=(aw hwf g0 hlt).symm
  all_goals try have hct:=aX (es:=es) (n:=i.toNat) (by omega);rw[he]at hct;simp only[bR,cv,Nat.add_zero,Nat.zero_add]at hct
  all_goals try have hks:=cX (es:=es) (k:=k) hlt';rw[he]at hks;simp only[fJ,eT]at hks
  all_goals try have hms:=dA (es:=es) (k:=k) hlt';rw[he]at hms;simp only[fJ,eT]at hms
  all_goals have hle1:=ap (es:=es) (n:=i.toNat+1)
  all_goals have hcE:aj es=es.length+aH es:=rfl
  all_goals have hk1:=bZ (es:=es) (k:=k) (n:=i.toNat)
  all_goals have hk2:=bZ (es:=es) (k:=k) (n:=i.toNat+1)
  all_goals have hk3:=dY (es:=es) (k:=k)
  all_goals have hk4:=bZ (es:=es) (k:=k) (n:=es.length)
  all_goals have hk5:=bu (es:=es) (m:=0) (n:=i.toNat) g1 (Nat.zero_le _)
  all_goals have hk6:=bu (es:=es) (m:=i.toNat) (n:=es.length) (Nat.le_refl _) g1
  all_goals try have hk7:=bu (es:=es) (m:=i.toNat+1) (n:=es.length) (Nat.le_refl _) hlt'
  all_goals rw[bB]at hk5
  all_goals try have hk8:=cW (es:=es) (n:=i.toNat) hlt'
  all_goals try have hcl:i.toNat<cur.length:=by rw[hc,b9 g1];exact hlt'
  all_goals try have hcg:cur.getD i.toNat []=[.v (.int .i64 (ab es i 0)),.v (.int .i64 (ab es i 1)),.v (.int .i64 (ab es i 2)),.v (.int .i64 (ab es i 3))]:=by rw[hc,cT g1];exact he
  all_goals have ha1:aV .add .i64 k' 1=k'+1:=aB (by omega)
  all_goals have ha2:aV .add .i64 (k'+1) 1=k'+1+1:=aB (by omega)
  all_goals have ha3:aV .add .i64 (k'+1+1) 1=k'+1+1+1:=aB (by omega)
  all_goals have ha4:aV .add .i64 (k'+1+1+1) 1=k'+1+1+1+1:=aB (by omega)
  all_goals try simp only[ha1,ha2,ha3,ha4]
  all_goals try simp only[az]
  all_goals try simp only[dE,hcg,List.take,List.drop,List.length_cons,List.length_nil,List.nil_append,List.cons_append,List.append_nil,Nat.zero_add,Nat.reduceAdd,aE hcl,List.set_set,List.append_assoc]
  all_goals try simp only[dw,hcg,aE hcl,List.getD_cons_zero,List.getD_cons_succ,tV]
  all_goals try simp only[dX hcl,dp hcl,ef hcl,dy hcl,hcg,List.getElem?_cons_zero,List.getElem?_cons_succ]
  all_goals first|exact⟨g0,hlt⟩|(refine⟨_,_,rfl,?_⟩;simp;done)|omega|(rw[hk',show i.toNat=es.length from by omega,hk3];done)|(rw[hc,show i.toNat=es.length from by omega,dz];rfl)|(rw[show(i+1).toNat=i.toNat+1 from by omega,hks,hk'];done)|(rw[show(i+1).toNat=i.toNat+1 from by omega, <-hms,hc,hk'];done)|trace_state
namespace LStale
structure Fns where
 no:Unit
def F0 :Fns:=⟨()⟩
def B :TB Tryz.prog:={Φ:=Fns,F0:=F0}
end LStale
theorem rY (a0 a1 a2:Int)(hp:True):aP Tryz.prog 213 [.agg [.v (.int .i64 a0),.v (.int .i64 a1),.v (.int .i64 a2)]] [.agg [.v (.int .i64 a0),.v (.int .i64 a1),.v (.int .i64 a2)]]:=by
 refine ai LStale.B ag mixed 14 _ [188] [.cell 2 188] Tryz.func213 rfl rfl rfl rfl rfl ?_;intro O r (F:LStale.Fns) hO hr (hF:F=LStale.F0);cbv
 repeat' first|refine And.intro ?_ ?_|(refine aG (fun hb=>?_) (fun hb=>?_)<;>cbv)
 all_goals(subst hO hr hF;(try simp only[af,SS,sa,az]at*);(try simp only[nc]at*);(try simp only[aF]at*))
 all_goals(try simp only[LStale.F0]at*)
 all_goals first|trivial|trace_state
theorem rJ (a0 a1 a2:Int)(d:DV)(hp:d=.agg [.v (.int .i64 a0),.v (.int .i64 a1),.v (.int .i64 a2)]):aP Tryz.prog 232 [.agg [.v (.int .i64 a0),.v (.int .i64 a1),.v (.int .i64 a2)],d] [.one (.v (.bool true))]:=by
 subst hp;refine ai LStale.B ag mixed 20 _ [4] [.tmp 4] Tryz.func232 rfl rfl rfl rfl rfl ?_;intro O r (F:LStale.Fns) hO hr (hF:F=LStale.F0);cbv
 repeat' first|refine And.intro ?_ ?_|(refine aG (fun hb=>?_) (fun hb=>?_)<;>cbv)
 all_goals(subst hO hr hF;(try simp only[af,SS,sa,az]at*);(try simp only[nc]at*);(try simp only[aF]at*))
 all_goals(try simp only[LStale.F0]at*)
 all_goals first|trivial|trace_state
namespace LStaleS
structure Fns where
 no:Unit
def F0 :Fns:=⟨()⟩
def ct (F:Fns):CT:=fun f ds=>match f,ds with
 |213,[.agg [.v (.int .i64 a0),.v (.int .i64 a1),.v (.int .i64 a2)]]=>some (fun _=>True,[.agg [.v (.int .i64 a0),.v (.int .i64 a1),.v (.int .i64 a2)]])
 |232,[.agg [.v (.int .i64 a0),.v (.int .i64 a1),.v (.int .i64 a2)],d]=>some (fun _=>d=.agg [.v (.int .i64 a0),.v (.int .i64 a1),.v (.int .i64 a2)],[.one (.v (.bool true))])
 |_,_=>none
theorem ak :aW Tryz.prog (ct F0):=by
 intro f ds pre res h hp;unfold ct at h;split at h<;>(try split at h)<;>cases h
 exact rY _ _ _ hp;exact rJ _ _ _ _ hp
def B :TB Tryz.prog:=tb ak
end LStaleS
namespace MStaleS
structure Fns where
 no:Unit
def F0 :Fns:=⟨()⟩
def B :TB Tryz.prog:={Φ:=Fns,F0:=F0}
end MStaleS
theorem qb (es:List (List L))(left:Int)(hp:Rw [tI,tI,tI] es/\0<=left/\left<=1048576):aP Tryz.prog 116 [.one (.s 3 es),.one (.v (.int .i64 left))] [.one (.v (.int .i64 (aZ [es] left)))]:=by
 obtain⟨hw,h0,h1⟩:=hp;have hc:aj es=es.length:=hw.cnt rfl;have hm:=hw.1;unfold maxLen at hm;have hs:aV .sub .i64 left es.length=left-es.length:=cH (by omega);have hn:aZ [es] left=if left<es.length then-1 else left-es.length:=by unfold aZ;rw[cz,hc]
 refine ai LStaleS.B ag mixed 12 _ [3] [.tmp 4] Tryz.func116 rfl rfl rfl rfl rfl ?_;intro O r (F:LStaleS.Fns) hO hr (hF:F=LStaleS.F0);cbv
 repeat' first|refine And.intro ?_ ?_|(refine aG (fun hb=>?_) (fun hb=>?_)<;>cbv)
 all_goals(subst hO hr hF;(try simp only[af,SS,sa,az]at*);(try simp only[nc]at*);(try simp only[aF]at*))
 all_goals(try simp only[hs,LStaleS.F0]at*)
 all_goals first|trivial|(rw[hn,if_pos (by omega)])|(rw[hn,if_neg (by omega)])
theorem qm (es:List (List L))(hp:Rw [tI,tI,tI] es/\aj es<=1048576):aP Tryz.prog 140 [.one (.s 3 es)] [.one (.s 3 es)]:=by
 obtain⟨hw,hlim⟩:=hp;have hwf:Wf [.v (.int .i64 0),.v (.int .i64 0),.v (.int .i64 0)] es:=hw.wf;have hlen:es.length<=1048576:=Nat.le_trans (Nat.le_add_right _ _) hlim;refine ai LStaleS.B ag mixed 23 _ [69] [.tmp 2] Tryz.func140 rfl rfl rfl rfl rfl ?_;intro O r (F:LStaleS.Fns) hO hr (hF:F=LStaleS.F0);cbv;have h0z:bH es [.v (.int .i64 0),.v (.int .i64 0),.v (.int .i64 0)] 0=O.rep (O.zi (O.ln es)) [.v (.int .i64 0),.v (.int .i64 0),.v (.int .i64 0)]:=by
  subst hO;rw[cf];rfl
 refine⟨?_,?_,[0,3,4],[3],Int×List (List L),fun s=>[.reg 4 (.one (.v (.int .i64 s.1))),.leaf 3 0 ⟨0,0,none,.own (.s 3 s.2)⟩],fun s=>0<=s.1/\s.1.toNat<=es.length/\s.2=bH es [.v (.int .i64 0),.v (.int .i64 0),.v (.int .i64 0)] s.1.toNat,fun s=>es.length-s.1.toNat,⟨(0,O.rep (O.zi (O.ln es)) [.v (.int .i64 0),.v (.int .i64 0),.v (.int .i64 0)]),?_,?_⟩,?_⟩
 ·subst hO;exact iq (b:=24) (show es.length*_<=_ by omega) (show es.length<=_ by omega)
 ·subst hO;exact⟨rfl,rfl⟩
 ·exact⟨by omega,Nat.zero_le _,h0z.symm⟩
 ·cbv
 ·rintro⟨i,m⟩ hi;replace hi:0<=i/\i.toNat<=es.length/\m=bH es [.v (.int .i64 0),.v (.int .i64 0),.v (.int .i64 0)] i.toNat:=hi;obtain⟨g0,g1,hm⟩:=hi;cbv
  repeat' first|refine And.intro ?_ ?_|(refine aG (fun hb=>?_) (fun hb=>?_)<;>cbv)|(refine aa (O.ar .add .i64 i 1,O.up (.s 3 m) [(O.ad 0 i,0)] [.v (.int .i64 (O.gi es i 0)),.v (.int .i64 (O.gi es i 1)),.v (.int .i64 (O.gi es i 2))]) ?_ ?_ ?_;rotate_left 2;focus (cbv;done))
  all_goals(subst hO hr hF;(try simp only[af,SS,sa,az]at*);(try simp only[nc]at*);(try simp only[aF]at*))
  all_goals(try simp only[LStaleS.F0,lL,List.length_replicate,Int.toNat_natCast]at*)
  all_goals try have hlt:i<es.length:=by assumption
  all_goals try rw[bP (n:=es.length) g0 hlt (by omega)]
  all_goals try have he:es.getD i.toNat []=[.v (.int .i64 (ab es i 0)),.v (.int .i64 (ab es i 1)),.v (.int .i64 (ab es i 2))]:=(aw hwf g0 hlt).symm
  all_goals try have hct:=aX (es:=es) (n:=i.toNat) (by omega);rw[he]at hct;simp only[bR,cv,Nat.add_zero,Nat.zero_add]at hct
  all_goals have hle1:=ap (es:=es) (n:=i.toNat+1)
  all_goals have hcE:aj es=es.length+aH es:=rfl
  all_goals first|exact bQ hwf g0 hlt|exact⟨g0,hlt⟩|(rw[hm];exact cA (by rw[aI g1];omega) (by rw[aY (by omega)];exact Nat.le_refl _))|omega|(rw[show(i+1).toNat=i.toNat+1 from by omega, <-cJ (by omega), <-hm,dI (by rw[hm,aY (by omega)];rfl),he])|(rw[hm,aI g1];exact⟨trivial,rfl⟩)|(rw[hm,show i.toNat=es.length from by omega,cI])|trace_state
theorem pN (es:List (List L))(d:DV)(hp:d=.one (.s 3 es)/\Rw [tI,tI,tI] es/\aj es<=1099511627776):aP Tryz.prog 164 [.one (.s 3 es),d] [.one (.v (.bool true))]:=by
 obtain⟨rfl,hw,hlim⟩:=hp;have hwf:Wf [.v (.int .i64 0),.v (.int .i64 0),.v (.int .i64 0)] es:=hw.wf;have hlen:es.length<=1099511627776:=Nat.le_trans (Nat.le_add_right _ _) hlim;refine ai LStaleS.B ag mixed 27 _ [4] [.tmp 4] Tryz.func164 rfl rfl rfl rfl rfl ?_;intro O r (F:LStaleS.Fns) hO hr (hF:F=LStaleS.F0);cbv;refine aG (fun hb=>?_) (fun hb=>?_)<;>cbv
 ·(subst hO hr hF;(try simp only[af,SS,sa,az]at*);(try simp only[nc]at*);(try simp only[aF]at*));exact absurd rfl hb
 ·clear hb;refine⟨[0,1,5],[],Int,fun i=>[.reg 5 (.one (.v (.int .i64 i)))],fun i=>0<=i/\i.toNat<=es.length,fun i=>es.length-i.toNat,⟨0,?_,?_⟩,?_⟩
  ·exact⟨by omega,Nat.zero_le _⟩
  ·cbv
  ·rintro i hi;replace hi:0<=i/\i.toNat<=es.length:=hi;obtain⟨g0,g1⟩:=hi;cbv
   repeat' first|refine And.intro ?_ ?_|(refine aG (fun hb=>?_) (fun hb=>?_)<;>cbv)|(refine aa (O.ar .add .i64 i 1) ?_ ?_ ?_;rotate_left 2;focus (cbv;done))
   all_goals(subst hO hr hF;(try simp only[af,SS,sa,az]at*);(try simp only[nc]at*);(try simp only[aF]at*))
   all_goals(try simp only[LStaleS.F0]at*)
   all_goals try have hlt:i<es.length:=by assumption
   all_goals try rw[bP (n:=es.length) g0 hlt (by omega)]
   all_goals try have he:es.getD i.toNat []=[.v (.int .i64 (ab es i 0)),.v (.int .i64 (ab es i 1)),.v (.int .i64 (ab es i 2))]:=(aw hwf g0 hlt).symm
   all_goals try have hct:=aX (es:=es) (n:=i.toNat) (by omega);rw[he]at hct;simp only[bR,cv,Nat.add_zero,Nat.zero_add]at hct
   all_goals have hle1:=ap (es:=es) (n:=i.toNat+1)
   all_goals have hcE:aj es=es.length+aH es:=rfl
   all_goals first|omega|exact bQ hwf g0 hlt|trivial|trace_state
theorem mh (es:List (List L))(k:Int)(hp:Rw [tI,tI,tI] es/\aj es<=1099511627776/\0<=k/\aS [es] k<=1152921504606846976):eF Tryz.prog 194 [.one (.s 3 es),.one (.v (.int .i64 k))] [.s 3 (bN es k)] [.one (.v (.int .i64 (aS [es] k)))]:=by
 obtain⟨hw,hlim,hk0,hkb⟩:=hp;have hwf:Wf [.v (.int .i64 0),.v (.int .i64 0),.v (.int .i64 0)] es:=hw.wf;have hlen:es.length<=1099511627776:=Nat.le_trans (Nat.le_add_right _ _) hlim;refine dd MStaleS.B ag mixed 34 _ [3] [.tmp 4] [(0,0)] Tryz.func194 rfl rfl rfl rfl rfl rfl rfl ?_;intro O r os (F:MStaleS.Fns) hO hr hos (hF:F=MStaleS.F0);cbv;refine⟨[0,1,5],[0],Int×Int×List (List L),fun s=>match s with|(i,k',cur)=>[.reg 5 (.one (.v (.int .i64 i))),.reg 1 (.one (.v (.int .i64 k'))),.leaf 0 0 ⟨0,0,some 0,.own (.s 3 cur)⟩],fun s=>0<=s.1/\s.1.toNat<=es.length/\s.2.1=gP es k s.1.toNat/\s.2.2=dQ es k s.1.toNat,fun s=>es.length-s.1.toNat,⟨(0,k,es),?_,?_⟩,?_⟩
 ·exact⟨by omega,Nat.zero_le _,bB.symm,cU.symm⟩
 ·cbv
 ·rintro⟨i,k',cur⟩ hi;replace hi:0<=i/\i.toNat<=es.length/\k'=gP es k i.toNat/\cur=dQ es k i.toNat:=hi;obtain⟨g0,g1,hk',hc⟩:=hi;cbv
  repeat' first|refine And.intro ?_ ?_|(refine aG (fun hb=>?_) (fun hb=>?_)<;>cbv)|(refine aa (O.ar .add .i64 i 1,O.ar .add .i64 (O.ar .add .i64 (O.ar .add .i64 (k') 1) 1) 1,O.up (.s 3 (O.up (.s 3 (O.up (.s 3 (cur)) [(O.ad 0 i,0)] [.v (.int .i64 (k'))])) [(O.ad 0 i,1)] [.v (.int .i64 (O.ar .add .i64 (k') 1))])) [(O.ad 0 i,2)] [.v (.int .i64 (O.ar .add .i64 (O.ar .add .i64 (k') 1) 1))]) ?_ ?_ ?_;rotate_left 2;focus (cbv;done))
  all_goals((try subst hos);subst hO hr hF;(try simp only[af,SS,sa,az]at*);(try simp only[nc]at*);(try simp only[aF]at*))
  all_goals(try simp only[MStaleS.F0]at*)
  all_goals try have hlt:i<es.length:=by assumption
  all_goals try rw[bP (n:=es.length) g0 hlt (by omega)]
  all_goals try have hlt':i.toNat<es.length:=by omega
  all_goals try have he:es.getD i.toNat []=[.v (.int .i64 (ab es i 0)),.v (.int .i64 (ab es i 1)),.v (.int .i64 (ab es i 2))]:=(aw hwf g0 hlt).symm
  all_goals try have hct:=aX (es:=es) (n:=i.toNat) (by omega);rw[he]at hct;simp only[bR,cv,Nat.add_zero,Nat.zero_add]at hct
  all_goals try have hks:=cX (es:=es) (k:=k) hlt';rw[he]at hks;simp only[fJ,eT]at hks
  all_goals try have hms:=dA (es:=es) (k:=k) hlt';rw[he]at hms;simp only[fJ,eT]at hms
  all_goals have hle1:=ap (es:=es) (n:=i.toNat+1)
  all_goals have hcE:aj es=es.length+aH es:=rfl
  all_goals have hk1:=bZ (es:=es) (k:=k) (n:=i.toNat)
  all_goals have hk2:=bZ (es:=es) (k:=k) (n:=i.toNat+1)
  all_goals have hk3:=dY (es:=es) (k:=k)
  all_goals have hk4:=bZ (es:=es) (k:=k) (n:=es.length)
  all_goals have hk5:=bu (es:=es) (m:=0) (n:=i.toNat) g1 (Nat.zero_le _)
  all_goals have hk6:=bu (es:=es) (m:=i.toNat) (n:=es.length) (Nat.le_refl _) g1
  all_goals try have hk7:=bu (es:=es) (m:=i.toNat+1) (n:=es.length) (Nat.le_refl _) hlt'
  all_goals rw[bB]at hk5
  all_goals try have hk8:=cW (es:=es) (n:=i.toNat) hlt'
  all_goals try have hcl:i.toNat<cur.length:=by rw[hc,b9 g1];exact hlt'
  all_goals try have hcg:cur.getD i.toNat []=[.v (.int .i64 (ab es i 0)),.v (.int .i64 (ab es i 1)),.v (.int .i64 (ab es i 2))]:=by rw[hc,cT g1];exact he
  all_goals have ha1:aV .add .i64 k' 1=k'+1:=aB (by omega)
  all_goals have ha2:aV .add .i64 (k'+1) 1=k'+1+1:=aB (by omega)
  all_goals have ha3:aV .add .i64 (k'+1+1) 1=k'+1+1+1:=aB (by omega)
  all_goals have ha4:aV .add .i64 (k'+1+1+1) 1=k'+1+1+1+1:=aB (by omega)
  all_goals try simp only[ha1,ha2,ha3,ha4]
  all_goals try simp only[az]
  all_goals try simp only[dE,hcg,List.take,List.drop,List.length_cons,List.length_nil,List.nil_append,List.cons_append,List.append_nil,Nat.zero_add,Nat.reduceAdd,aE hcl,List.set_set,List.append_assoc]
  all_goals try simp only[dw,hcg,aE hcl,List.getD_cons_zero,List.getD_cons_succ,tV]
  all_goals try simp only[dX hcl,dp hcl,ef hcl,dy hcl,hcg,List.getElem?_cons_zero,List.getElem?_cons_succ]
  all_goals first|exact⟨g0,hlt⟩|(refine⟨_,_,rfl,?_⟩;simp;done)|omega|(rw[hk',show i.toNat=es.length from by omega,hk3];done)|(rw[hc,show i.toNat=es.length from by omega,dz];rfl)|(rw[show(i+1).toNat=i.toNat+1 from by omega,hks,hk'];done)|(rw[show(i+1).toNat=i.toNat+1 from by omega, <-hms,hc,hk'];done)|trace_state
namespace LPost
structure Fns where
 no:Unit
def F0 :Fns:=⟨()⟩
def B :TB Tryz.prog:={Φ:=Fns,F0:=F0}
end LPost
theorem uy (a0 a1:Int)(hp:True):aP Tryz.prog 249 [.agg [.v (.int .i64 a0),.v (.int .i64 a1)]] [.agg [.v (.int .i64 a0),.v (.int .i64 a1)]]:=by
 refine ai LPost.B ag mixed 11 _ [240] [.cell 2 240] Tryz.func249 rfl rfl rfl rfl rfl ?_;intro O r (F:LPost.Fns) hO hr (hF:F=LPost.F0);cbv
 repeat' first|refine And.intro ?_ ?_|(refine aG (fun hb=>?_) (fun hb=>?_)<;>cbv)
 all_goals(subst hO hr hF;(try simp only[af,SS,sa,az]at*);(try simp only[nc]at*);(try simp only[aF]at*))
 all_goals(try simp only[LPost.F0]at*)
 all_goals first|trivial|trace_state
theorem uk (a0 a1:Int)(d:DV)(hp:d=.agg [.v (.int .i64 a0),.v (.int .i64 a1)]):aP Tryz.prog 261 [.agg [.v (.int .i64 a0),.v (.int .i64 a1)],d] [.one (.v (.bool true))]:=by
 subst hp;refine ai LPost.B ag mixed 15 _ [4] [.tmp 4] Tryz.func261 rfl rfl rfl rfl rfl ?_;intro O r (F:LPost.Fns) hO hr (hF:F=LPost.F0);cbv
 repeat' first|refine And.intro ?_ ?_|(refine aG (fun hb=>?_) (fun hb=>?_)<;>cbv)
 all_goals(subst hO hr hF;(try simp only[af,SS,sa,az]at*);(try simp only[nc]at*);(try simp only[aF]at*))
 all_goals(try simp only[LPost.F0]at*)
 all_goals first|trivial|trace_state
namespace LPostS
structure Fns where
 no:Unit
def F0 :Fns:=⟨()⟩
def ct (F:Fns):CT:=fun f ds=>match f,ds with
 |249,[.agg [.v (.int .i64 a0),.v (.int .i64 a1)]]=>some (fun _=>True,[.agg [.v (.int .i64 a0),.v (.int .i64 a1)]])
 |261,[.agg [.v (.int .i64 a0),.v (.int .i64 a1)],d]=>some (fun _=>d=.agg [.v (.int .i64 a0),.v (.int .i64 a1)],[.one (.v (.bool true))])
 |_,_=>none
theorem ak :aW Tryz.prog (ct F0):=by
 intro f ds pre res h hp;unfold ct at h;split at h<;>(try split at h)<;>cases h
 exact uy _ _ hp;exact uk _ _ _ hp
def B :TB Tryz.prog:=tb ak
end LPostS
namespace MPostS
structure Fns where
 no:Unit
def F0 :Fns:=⟨()⟩
def B :TB Tryz.prog:={Φ:=Fns,F0:=F0}
end MPostS
theorem rO (es:List (List L))(left:Int)(hp:Rw [tI,tI] es/\0<=left/\left<=1048576):aP Tryz.prog 198 [.one (.s 2 es),.one (.v (.int .i64 left))] [.one (.v (.int .i64 (aZ [es] left)))]:=by
 obtain⟨hw,h0,h1⟩:=hp;have hc:aj es=es.length:=hw.cnt rfl;have hm:=hw.1;unfold maxLen at hm;have hs:aV .sub .i64 left es.length=left-es.length:=cH (by omega);have hn:aZ [es] left=if left<es.length then-1 else left-es.length:=by unfold aZ;rw[cz,hc]
 refine ai LPostS.B ag mixed 12 _ [3] [.tmp 4] Tryz.func198 rfl rfl rfl rfl rfl ?_;intro O r (F:LPostS.Fns) hO hr (hF:F=LPostS.F0);cbv
 repeat' first|refine And.intro ?_ ?_|(refine aG (fun hb=>?_) (fun hb=>?_)<;>cbv)
 all_goals(subst hO hr hF;(try simp only[af,SS,sa,az]at*);(try simp only[nc]at*);(try simp only[aF]at*))
 all_goals(try simp only[hs,LPostS.F0]at*)
 all_goals first|trivial|(rw[hn,if_pos (by omega)])|(rw[hn,if_neg (by omega)])
theorem rV (es:List (List L))(hp:Rw [tI,tI] es/\aj es<=1048576):aP Tryz.prog 212 [.one (.s 2 es)] [.one (.s 2 es)]:=by
 obtain⟨hw,hlim⟩:=hp;have hwf:Wf [.v (.int .i64 0),.v (.int .i64 0)] es:=hw.wf;have hlen:es.length<=1048576:=Nat.le_trans (Nat.le_add_right _ _) hlim;refine ai LPostS.B ag mixed 23 _ [238] [.tmp 2] Tryz.func212 rfl rfl rfl rfl rfl ?_;intro O r (F:LPostS.Fns) hO hr (hF:F=LPostS.F0);cbv;have h0z:bH es [.v (.int .i64 0),.v (.int .i64 0)] 0=O.rep (O.zi (O.ln es)) [.v (.int .i64 0),.v (.int .i64 0)]:=by
  subst hO;rw[cf];rfl
 refine⟨?_,?_,[0,3,4],[3],Int×List (List L),fun s=>[.reg 4 (.one (.v (.int .i64 s.1))),.leaf 3 0 ⟨0,0,none,.own (.s 2 s.2)⟩],fun s=>0<=s.1/\s.1.toNat<=es.length/\s.2=bH es [.v (.int .i64 0),.v (.int .i64 0)] s.1.toNat,fun s=>es.length-s.1.toNat,⟨(0,O.rep (O.zi (O.ln es)) [.v (.int .i64 0),.v (.int .i64 0)]),?_,?_⟩,?_⟩
 ·subst hO;exact iq (b:=16) (show es.length*_<=_ by omega) (show es.length<=_ by omega)
 ·subst hO;exact⟨rfl,rfl⟩
 ·exact⟨by omega,Nat.zero_le _,h0z.symm⟩
 ·cbv
 ·rintro⟨i,m⟩ hi;replace hi:0<=i/\i.toNat<=es.length/\m=bH es [.v (.int .i64 0),.v (.int .i64 0)] i.toNat:=hi;obtain⟨g0,g1,hm⟩:=hi;cbv
  repeat' first|refine And.intro ?_ ?_|(refine aG (fun hb=>?_) (fun hb=>?_)<;>cbv)|(refine aa (O.ar .add .i64 i 1,O.up (.s 2 m) [(O.ad 0 i,0)] [.v (.int .i64 (O.gi es i 0)),.v (.int .i64 (O.gi es i 1))]) ?_ ?_ ?_;rotate_left 2;focus (cbv;done))
  all_goals(subst hO hr hF;(try simp only[af,SS,sa,az]at*);(try simp only[nc]at*);(try simp only[aF]at*))
  all_goals(try simp only[LPostS.F0,lL,List.length_replicate,Int.toNat_natCast]at*)
  all_goals try have hlt:i<es.length:=by assumption
  all_goals try rw[bP (n:=es.length) g0 hlt (by omega)]
  all_goals try have he:es.getD i.toNat []=[.v (.int .i64 (ab es i 0)),.v (.int .i64 (ab es i 1))]:=(aw hwf g0 hlt).symm
  all_goals try have hct:=aX (es:=es) (n:=i.toNat) (by omega);rw[he]at hct;simp only[bR,cv,Nat.add_zero,Nat.zero_add]at hct
  all_goals have hle1:=ap (es:=es) (n:=i.toNat+1)
  all_goals have hcE:aj es=es.length+aH es:=rfl
  all_goals first|exact bQ hwf g0 hlt|exact⟨g0,hlt⟩|(rw[hm];exact cA (by rw[aI g1];omega) (by rw[aY (by omega)];exact Nat.le_refl _))|omega|(rw[show(i+1).toNat=i.toNat+1 from by omega, <-cJ (by omega), <-hm,dI (by rw[hm,aY (by omega)];rfl),he])|(rw[hm,aI g1];exact⟨trivial,rfl⟩)|(rw[hm,show i.toNat=es.length from by omega,cI])|trace_state
theorem rG (es:List (List L))(d:DV)(hp:d=.one (.s 2 es)/\Rw [tI,tI] es/\aj es<=1099511627776):aP Tryz.prog 231 [.one (.s 2 es),d] [.one (.v (.bool true))]:=by
 obtain⟨rfl,hw,hlim⟩:=hp;have hwf:Wf [.v (.int .i64 0),.v (.int .i64 0)] es:=hw.wf;have hlen:es.length<=1099511627776:=Nat.le_trans (Nat.le_add_right _ _) hlim;refine ai LPostS.B ag mixed 27 _ [4] [.tmp 4] Tryz.func231 rfl rfl rfl rfl rfl ?_;intro O r (F:LPostS.Fns) hO hr (hF:F=LPostS.F0);cbv;refine aG (fun hb=>?_) (fun hb=>?_)<;>cbv
 ·(subst hO hr hF;(try simp only[af,SS,sa,az]at*);(try simp only[nc]at*);(try simp only[aF]at*));exact absurd rfl hb
 ·clear hb;refine⟨[0,1,5],[],Int,fun i=>[.reg 5 (.one (.v (.int .i64 i)))],fun i=>0<=i/\i.toNat<=es.length,fun i=>es.length-i.toNat,⟨0,?_,?_⟩,?_⟩
  ·exact⟨by omega,Nat.zero_le _⟩
  ·cbv
  ·rintro i hi;replace hi:0<=i/\i.toNat<=es.length:=hi;obtain⟨g0,g1⟩:=hi;cbv
   repeat' first|refine And.intro ?_ ?_|(refine aG (fun hb=>?_) (fun hb=>?_)<;>cbv)|(refine aa (O.ar .add .i64 i 1) ?_ ?_ ?_;rotate_left 2;focus (cbv;done))
   all_goals(subst hO hr hF;(try simp only[af,SS,sa,az]at*);(try simp only[nc]at*);(try simp only[aF]at*))
   all_goals(try simp only[LPostS.F0]at*)
   all_goals try have hlt:i<es.length:=by assumption
   all_goals try rw[bP (n:=es.length) g0 hlt (by omega)]
   all_goals try have he:es.getD i.toNat []=[.v (.int .i64 (ab es i 0)),.v (.int .i64 (ab es i 1))]:=(aw hwf g0 hlt).symm
   all_goals try have hct:=aX (es:=es) (n:=i.toNat) (by omega);rw[he]at hct;simp only[bR,cv,Nat.add_zero,Nat.zero_add]at hct
   all_goals have hle1:=ap (es:=es) (n:=i.toNat+1)
   all_goals have hcE:aj es=es.length+aH es:=rfl
   all_goals first|omega|exact bQ hwf g0 hlt|trivial|trace_state
theorem nG (es:List (List L))(k:Int)(hp:Rw [tI,tI] es/\aj es<=1099511627776/\0<=k/\aS [es] k<=1152921504606846976):eF Tryz.prog 241 [.one (.s 2 es),.one (.v (.int .i64 k))] [.s 2 (bN es k)] [.one (.v (.int .i64 (aS [es] k)))]:=by
 obtain⟨hw,hlim,hk0,hkb⟩:=hp;have hwf:Wf [.v (.int .i64 0),.v (.int .i64 0)] es:=hw.wf;have hlen:es.length<=1099511627776:=Nat.le_trans (Nat.le_add_right _ _) hlim;refine dd MPostS.B ag mixed 27 _ [3] [.tmp 4] [(0,0)] Tryz.func241 rfl rfl rfl rfl rfl rfl rfl ?_;intro O r os (F:MPostS.Fns) hO hr hos (hF:F=MPostS.F0);cbv;refine⟨[0,1,5],[0],Int×Int×List (List L),fun s=>match s with|(i,k',cur)=>[.reg 5 (.one (.v (.int .i64 i))),.reg 1 (.one (.v (.int .i64 k'))),.leaf 0 0 ⟨0,0,some 0,.own (.s 2 cur)⟩],fun s=>0<=s.1/\s.1.toNat<=es.length/\s.2.1=gP es k s.1.toNat/\s.2.2=dQ es k s.1.toNat,fun s=>es.length-s.1.toNat,⟨(0,k,es),?_,?_⟩,?_⟩
 ·exact⟨by omega,Nat.zero_le _,bB.symm,cU.symm⟩
 ·cbv
 ·rintro⟨i,k',cur⟩ hi;replace hi:0<=i/\i.toNat<=es.length/\k'=gP es k i.toNat/\cur=dQ es k i.toNat:=hi;obtain⟨g0,g1,hk',hc⟩:=hi;cbv
  repeat' first|refine And.intro ?_ ?_|(refine aG (fun hb=>?_) (fun hb=>?_)<;>cbv)|(refine aa (O.ar .add .i64 i 1,O.ar .add .i64 (O.ar .add .i64 (k') 1) 1,O.up (.s 2 (O.up (.s 2 (cur)) [(O.ad 0 i,0)] [.v (.int .i64 (k'))])) [(O.ad 0 i,1)] [.v (.int .i64 (O.ar .add .i64 (k') 1))]) ?_ ?_ ?_;rotate_left 2;focus (cbv;done))
  all_goals((try subst hos);subst hO hr hF;(try simp only[af,SS,sa,az]at*);(try simp only[nc]at*);(try simp only[aF]at*))
  all_goals(try simp only[MPostS.F0]at*)
  all_goals try have hlt:i<es.length:=by assumption
  all_goals try rw[bP (n:=es.length) g0 hlt (by omega)]
  all_goals try have hlt':i.toNat<es.length:=by omega
  all_goals try have he:es.getD i.toNat []=[.v (.int .i64 (ab es i 0)),.v (.int .i64 (ab es i 1))]:=(aw hwf g0 hlt).symm
  all_goals try have hct:=aX (es:=es) (n:=i.toNat) (by omega);rw[he]at hct;simp only[bR,cv,Nat.add_zero,Nat.zero_add]at hct
  all_goals try have hks:=cX (es:=es) (k:=k) hlt';rw[he]at hks;simp only[fJ,eT]at hks
  all_goals try have hms:=dA (es:=es) (k:=k) hlt';rw[he]at hms;simp only[fJ,eT]at hms
  all_goals have hle1:=ap (es:=es) (n:=i.toNat+1)
  all_goals have hcE:aj es=es.length+aH es:=rfl
  all_goals have hk1:=bZ (es:=es) (k:=k) (n:=i.toNat)
  all_goals have hk2:=bZ (es:=es) (k:=k) (n:=i.toNat+1)
  all_goals have hk3:=dY (es:=es) (k:=k)
  all_goals have hk4:=bZ (es:=es) (k:=k) (n:=es.length)
  all_goals have hk5:=bu (es:=es) (m:=0) (n:=i.toNat) g1 (Nat.zero_le _)
  all_goals have hk6:=bu (es:=es) (m:=i.toNat) (n:=es.length) (Nat.le_refl _) g1
  all_goals try have hk7:=bu (es:=es) (m:=i.toNat+1) (n:=es.length) (Nat.le_refl _) hlt'
  all_goals rw[bB]at hk5
  all_goals try have hk8:=cW (es:=es) (n:=i.toNat) hlt'
  all_goals try have hcl:i.toNat<cur.length:=by rw[hc,b9 g1];exact hlt'
  all_goals try have hcg:cur.getD i.toNat []=[.v (.int .i64 (ab es i 0)),.v (.int .i64 (ab es i 1))]:=by rw[hc,cT g1];exact he
  all_goals have ha1:aV .add .i64 k' 1=k'+1:=aB (by omega)
  all_goals have ha2:aV .add .i64 (k'+1) 1=k'+1+1:=aB (by omega)
  all_goals have ha3:aV .add .i64 (k'+1+1) 1=k'+1+1+1:=aB (by omega)
  all_goals have ha4:aV .add .i64 (k'+1+1+1) 1=k'+1+1+1+1:=aB (by omega)
  all_goals try simp only[ha1,ha2,ha3,ha4]
  all_goals try simp only[az]
  all_goals try simp only[dE,hcg,List.take,List.drop,List.length_cons,List.length_nil,List.nil_append,List.cons_append,List.append_nil,Nat.zero_add,Nat.reduceAdd,aE hcl,List.set_set,List.append_assoc]
  all_goals try simp only[dw,hcg,aE hcl,List.getD_cons_zero,List.getD_cons_succ,tV]
  all_goals try simp only[dX hcl,dp hcl,ef hcl,dy hcl,hcg,List.getElem?_cons_zero,List.getElem?_cons_succ]
  all_goals first|exact⟨g0,hlt⟩|(refine⟨_,_,rfl,?_⟩;simp;done)|omega|(rw[hk',show i.toNat=es.length from by omega,hk3];done)|(rw[hc,show i.toNat=es.length from by omega,dz];rfl)|(rw[show(i+1).toNat=i.toNat+1 from by omega,hks,hk'];done)|(rw[show(i+1).toNat=i.toNat+1 from by omega, <-hms,hc,hk'];done)|trace_state
end Go.V