/-
  Contracts, by evaluation.
-/
import Derived.Test.YtniaaknbbceigaaGreatS10
import Derived.Test.YtniaaknbbceigaaGreatLawHEq
import Derived.Test.YtniaaknbbceigaaGreatVE
set_option linter.all false
namespace Go.V
open Go Go.Proofs
set_option maxRecDepth 1000000
set_option maxHeartbeats 8000000
namespace LRange
structure Fns where
 no:Unit
def F0 :Fns:=⟨()⟩
def B :TB Tryz.prog:={Φ:=Fns,F0:=F0}
end LRange
theorem rW (a0 a1:Int)(hp:True):aP Tryz.prog 133 [.agg [.v (.int .i64 a0),.v (.int .i64 a1)]] [.agg [.v (.int .i64 a0),.v (.int .i64 a1)]]:=by
 refine ai LRange.B ag mixed 11 _ [195] [.cell 2 195] Tryz.func133 rfl rfl rfl rfl rfl ?_;intro O r (F:LRange.Fns) hO hr (hF:F=LRange.F0);cbv
 repeat' first|refine And.intro ?_ ?_|(refine aG (fun hb=>?_) (fun hb=>?_)<;>cbv)
 all_goals(subst hO hr hF;(try simp only[af,SS,sa,az]at*);(try simp only[nc]at*);(try simp only[aF]at*))
 all_goals(try simp only[LRange.F0]at*)
 all_goals first|trivial|trace_state
theorem rH (a0 a1:Int)(d:DV)(hp:d=.agg [.v (.int .i64 a0),.v (.int .i64 a1)]):aP Tryz.prog 157 [.agg [.v (.int .i64 a0),.v (.int .i64 a1)],d] [.one (.v (.bool true))]:=by
 subst hp;refine ai LRange.B ag mixed 15 _ [4] [.tmp 4] Tryz.func157 rfl rfl rfl rfl rfl ?_;intro O r (F:LRange.Fns) hO hr (hF:F=LRange.F0);cbv
 repeat' first|refine And.intro ?_ ?_|(refine aG (fun hb=>?_) (fun hb=>?_)<;>cbv)
 all_goals(subst hO hr hF;(try simp only[af,SS,sa,az]at*);(try simp only[nc]at*);(try simp only[aF]at*))
 all_goals(try simp only[LRange.F0]at*)
 all_goals first|trivial|trace_state
namespace LRangeS
structure Fns where
 no:Unit
def F0 :Fns:=⟨()⟩
def ct (F:Fns):CT:=fun f ds=>match f,ds with
 |133,[.agg [.v (.int .i64 a0),.v (.int .i64 a1)]]=>some (fun _=>True,[.agg [.v (.int .i64 a0),.v (.int .i64 a1)]])
 |157,[.agg [.v (.int .i64 a0),.v (.int .i64 a1)],d]=>some (fun _=>d=.agg [.v (.int .i64 a0),.v (.int .i64 a1)],[.one (.v (.bool true))])
 |_,_=>none
theorem ak :aW Tryz.prog (ct F0):=by
 intro f ds pre res h hp;unfold ct at h;split at h<;>(try split at h)<;>cases h
 exact rW _ _ hp;exact rH _ _ _ hp
def B :TB Tryz.prog:=tb ak
end LRangeS
namespace MRangeS
structure Fns where
 no:Unit
def F0 :Fns:=⟨()⟩
def B :TB Tryz.prog:={Φ:=Fns,F0:=F0}
end MRangeS
theorem pZ (es:List (List L))(left:Int)(hp:Rw [tI,tI] es/\0<=left/\left<=1048576):aP Tryz.prog 36 [.one (.s 2 es),.one (.v (.int .i64 left))] [.one (.v (.int .i64 (aZ [es] left)))]:=by
 obtain⟨hw,h0,h1⟩:=hp;have hc:aj es=es.length:=hw.cnt rfl;have hm:=hw.1;unfold maxLen at hm;have hs:aV .sub .i64 left es.length=left-es.length:=cH (by omega);have hn:aZ [es] left=if left<es.length then-1 else left-es.length:=by unfold aZ;rw[cz,hc]
 refine ai LRangeS.B ag mixed 12 _ [3] [.tmp 4] Tryz.func36 rfl rfl rfl rfl rfl ?_;intro O r (F:LRangeS.Fns) hO hr (hF:F=LRangeS.F0);cbv
 repeat' first|refine And.intro ?_ ?_|(refine aG (fun hb=>?_) (fun hb=>?_)<;>cbv)
 all_goals(subst hO hr hF;(try simp only[af,SS,sa,az]at*);(try simp only[nc]at*);(try simp only[aF]at*))
 all_goals(try simp only[hs,LRangeS.F0]at*)
 all_goals first|trivial|(rw[hn,if_pos (by omega)])|(rw[hn,if_neg (by omega)])
theorem qj (es:List (List L))(hp:Rw [tI,tI] es/\aj es<=1048576):aP Tryz.prog 47 [.one (.s 2 es)] [.one (.s 2 es)]:=by
 obtain⟨hw,hlim⟩:=hp;have hwf:Wf [.v (.int .i64 0),.v (.int .i64 0)] es:=hw.wf;have hlen:es.length<=1048576:=Nat.le_trans (Nat.le_add_right _ _) hlim;refine ai LRangeS.B ag mixed 23 _ [61] [.tmp 2] Tryz.func47 rfl rfl rfl rfl rfl ?_;intro O r (F:LRangeS.Fns) hO hr (hF:F=LRangeS.F0);cbv;have h0z:bH es [.v (.int .i64 0),.v (.int .i64 0)] 0=O.rep (O.zi (O.ln es)) [.v (.int .i64 0),.v (.int .i64 0)]:=by
  subst hO;rw[cf];rfl
 refine⟨?_,?_,[0,3,4],[3],Int×List (List L),fun s=>[.reg 4 (.one (.v (.int .i64 s.1))),.leaf 3 0 ⟨0,0,none,.own (.s 2 s.2)⟩],fun s=>0<=s.1/\s.1.toNat<=es.length/\s.2=bH es [.v (.int .i64 0),.v (.int .i64 0)] s.1.toNat,fun s=>es.length-s.1.toNat,⟨(0,O.rep (O.zi (O.ln es)) [.v (.int .i64 0),.v (.int .i64 0)]),?_,?_⟩,?_⟩
 ·subst hO;exact iq (b:=16) (show es.length*_<=_ by omega) (show es.length<=_ by omega)
 ·subst hO;exact⟨rfl,rfl⟩
 ·exact⟨by omega,Nat.zero_le _,h0z.symm⟩
 ·cbv
 ·rintro⟨i,m⟩ hi;replace hi:0<=i/\i.toNat<=es.length/\m=bH es [.v (.int .i64 0),.v (.int .i64 0)] i.toNat:=hi;obtain⟨g0,g1,hm⟩:=hi;cbv
  repeat' first|refine And.intro ?_ ?_|(refine aG (fun hb=>?_) (fun hb=>?_)<;>cbv)|(refine aa (O.ar .add .i64 i 1,O.up (.s 2 m) [(O.ad 0 i,0)] [.v (.int .i64 (O.gi es i 0)),.v (.int .i64 (O.gi es i 1))]) ?_ ?_ ?_;rotate_left 2;focus (cbv;done))
  all_goals(subst hO hr hF;(try simp only[af,SS,sa,az]at*);(try simp only[nc]at*);(try simp only[aF]at*))
  all_goals(try simp only[LRangeS.F0,lL,List.length_replicate,Int.toNat_natCast]at*)
  all_goals try have hlt:i<es.length:=by assumption
  all_goals try rw[bP (n:=es.length) g0 hlt (by omega)]
  all_goals try have he:es.getD i.toNat []=[.v (.int .i64 (ab es i 0)),.v (.int .i64 (ab es i 1))]:=(aw hwf g0 hlt).symm
  all_goals try have hct:=aX (es:=es) (n:=i.toNat) (by omega);rw[he]at hct;simp only[bR,cv,Nat.add_zero,Nat.zero_add]at hct
  all_goals have hle1:=ap (es:=es) (n:=i.toNat+1)
  all_goals have hcE:aj es=es.length+aH es:=rfl
  all_goals first|exact bQ hwf g0 hlt|exact⟨g0,hlt⟩|(rw[hm];exact cA (by rw[aI g1];omega) (by rw[aY (by omega)];exact Nat.le_refl _))|omega|(rw[show(i+1).toNat=i.toNat+1 from by omega, <-cJ (by omega), <-hm,dI (by rw[hm,aY (by omega)];rfl),he])|(rw[hm,aI g1];exact⟨trivial,rfl⟩)|(rw[hm,show i.toNat=es.length from by omega,cI])|trace_state
theorem pL (es:List (List L))(d:DV)(hp:d=.one (.s 2 es)/\Rw [tI,tI] es/\aj es<=1099511627776):aP Tryz.prog 58 [.one (.s 2 es),d] [.one (.v (.bool true))]:=by
 obtain⟨rfl,hw,hlim⟩:=hp;have hwf:Wf [.v (.int .i64 0),.v (.int .i64 0)] es:=hw.wf;have hlen:es.length<=1099511627776:=Nat.le_trans (Nat.le_add_right _ _) hlim;refine ai LRangeS.B ag mixed 27 _ [4] [.tmp 4] Tryz.func58 rfl rfl rfl rfl rfl ?_;intro O r (F:LRangeS.Fns) hO hr (hF:F=LRangeS.F0);cbv;refine aG (fun hb=>?_) (fun hb=>?_)<;>cbv
 ·(subst hO hr hF;(try simp only[af,SS,sa,az]at*);(try simp only[nc]at*);(try simp only[aF]at*));exact absurd rfl hb
 ·clear hb;refine⟨[0,1,5],[],Int,fun i=>[.reg 5 (.one (.v (.int .i64 i)))],fun i=>0<=i/\i.toNat<=es.length,fun i=>es.length-i.toNat,⟨0,?_,?_⟩,?_⟩
  ·exact⟨by omega,Nat.zero_le _⟩
  ·cbv
  ·rintro i hi;replace hi:0<=i/\i.toNat<=es.length:=hi;obtain⟨g0,g1⟩:=hi;cbv
   repeat' first|refine And.intro ?_ ?_|(refine aG (fun hb=>?_) (fun hb=>?_)<;>cbv)|(refine aa (O.ar .add .i64 i 1) ?_ ?_ ?_;rotate_left 2;focus (cbv;done))
   all_goals(subst hO hr hF;(try simp only[af,SS,sa,az]at*);(try simp only[nc]at*);(try simp only[aF]at*))
   all_goals(try simp only[LRangeS.F0]at*)
   all_goals try have hlt:i<es.length:=by assumption
   all_goals try rw[bP (n:=es.length) g0 hlt (by omega)]
   all_goals try have he:es.getD i.toNat []=[.v (.int .i64 (ab es i 0)),.v (.int .i64 (ab es i 1))]:=(aw hwf g0 hlt).symm
   all_goals try have hct:=aX (es:=es) (n:=i.toNat) (by omega);rw[he]at hct;simp only[bR,cv,Nat.add_zero,Nat.zero_add]at hct
   all_goals have hle1:=ap (es:=es) (n:=i.toNat+1)
   all_goals have hcE:aj es=es.length+aH es:=rfl
   all_goals first|omega|exact bQ hwf g0 hlt|trivial|trace_state
theorem mg (es:List (List L))(k:Int)(hp:Rw [tI,tI] es/\aj es<=1099511627776/\0<=k/\aS [es] k<=1152921504606846976):eF Tryz.prog 103 [.one (.s 2 es),.one (.v (.int .i64 k))] [.s 2 (bN es k)] [.one (.v (.int .i64 (aS [es] k)))]:=by
 obtain⟨hw,hlim,hk0,hkb⟩:=hp;have hwf:Wf [.v (.int .i64 0),.v (.int .i64 0)] es:=hw.wf;have hlen:es.length<=1099511627776:=Nat.le_trans (Nat.le_add_right _ _) hlim;refine dd MRangeS.B ag mixed 27 _ [3] [.tmp 4] [(0,0)] Tryz.func103 rfl rfl rfl rfl rfl rfl rfl ?_;intro O r os (F:MRangeS.Fns) hO hr hos (hF:F=MRangeS.F0);cbv;refine⟨[0,1,5],[0],Int×Int×List (List L),fun s=>match s with|(i,k',cur)=>[.reg 5 (.one (.v (.int .i64 i))),.reg 1 (.one (.v (.int .i64 k'))),.leaf 0 0 ⟨0,0,some 0,.own (.s 2 cur)⟩],fun s=>0<=s.1/\s.1.toNat<=es.length/\s.2.1=gP es k s.1.toNat/\s.2.2=dQ es k s.1.toNat,fun s=>es.length-s.1.toNat,⟨(0,k,es),?_,?_⟩,?_⟩
 ·exact⟨by omega,Nat.zero_le _,bB.symm,cU.symm⟩
 ·cbv
 ·rintro⟨i,k',cur⟩ hi;replace hi:0<=i/\i.toNat<=es.length/\k'=gP es k i.toNat/\cur=dQ es k i.toNat:=hi;obtain⟨g0,g1,hk',hc⟩:=hi;cbv
  repeat' first|refine And.intro ?_ ?_|(refine aG (fun hb=>?_) (fun hb=>?_)<;>cbv)|(refine aa (O.ar .add .i64 i 1,O.ar .add .i64 (O.ar .add .i64 (k') 1) 1,O.up (.s 2 (O.up (.s 2 (cur)) [(O.ad 0 i,0)] [.v (.int .i64 (k'))])) [(O.ad 0 i,1)] [.v (.int .i64 (O.ar .add .i64 (k') 1))]) ?_ ?_ ?_;rotate_left 2;focus (cbv;done))
  all_goals((try subst hos);subst hO hr hF;(try simp only[af,SS,sa,az]at*);(try simp only[nc]at*);(try simp only[aF]at*))
  all_goals(try simp only[MRangeS.F0]at*)
  all_goals try have hlt:i<es.length:=by assumption
  all_goals try rw[bP (n:=es.length) g0 hlt (by omega)]
  all_goals try have hlt':i.toNat<es.length:=by omega
  all_goals try have he:es.getD i.toNat []=[.v (.int .i64 (ab es i 0)),.v (.int .i64 (ab es i 1))]:=(aw hwf g0 hlt).symm
  all_goals try have hct:=aX (es:=es) (n:=i.toNat) (by omega);rw[he]at hct;simp only[bR,cv,Nat.add_zero,Nat.zero_add]at hct
  all_goals try have hks:=cX (es:=es) (k:=k) hlt';rw[he]at hks;simp only[fJ,eT]at hks
  all_goals try have hms:=dA (es:=es) (k:=k) hlt';rw[he]at hms;simp only[fJ,eT]at hms
  all_goals have hle1:=ap (es:=es) (n:=i.toNat+1)
  all_goals have hcE:aj es=es.length+aH es:=rfl
  all_goals have hk1:=bZ (es:=es) (k:=k) (n:=i.toNat)
  all_goals have hk2:=bZ (es:=es) (k:=k) (n:=i.toNat+1)
  all_goals have hk3:=dY (es:=es) (k:=k)
  all_goals have hk4:=bZ (es:=es) (k:=k) (n:=es.length)
  all_goals have hk5:=bu (es:=es) (m:=0) (n:=i.toNat) g1 (Nat.zero_le _)
  all_goals have hk6:=bu (es:=es) (m:=i.toNat) (n:=es.length) (Nat.le_refl _) g1
  all_goals try have hk7:=bu (es:=es) (m:=i.toNat+1) (n:=es.length) (Nat.le_refl _) hlt'
  all_goals rw[bB]at hk5
  all_goals try have hk8:=cW (es:=es) (n:=i.toNat) hlt'
  all_goals try have hcl:i.toNat<cur.length:=by rw[hc,b9 g1];exact hlt'
  all_goals try have hcg:cur.getD i.toNat []=[.v (.int .i64 (ab es i 0)),.v (.int .i64 (ab es i 1))]:=by rw[hc,cT g1];exact he
  all_goals have ha1:aV .add .i64 k' 1=k'+1:=aB (by omega)
  all_goals have ha2:aV .add .i64 (k'+1) 1=k'+1+1:=aB (by omega)
  all_goals have ha3:aV .add .i64 (k'+1+1) 1=k'+1+1+1:=aB (by omega)
  all_goals have ha4:aV .add .i64 (k'+1+1+1) 1=k'+1+1+1+1:=aB (by omega)
  all_goals try simp only[ha1,ha2,ha3,ha4]
  all_goals try simp only[az]
  all_goals try simp only[dE,hcg,List.take,List.drop,List.length_cons,List.length_nil,List.nil_append,List.cons_append,List.append_nil,Nat.zero_add,Nat.reduceAdd,aE hcl,List.set_set,List.append_assoc]
  all_goals try simp only[dw,hcg,aE hcl,List.getD_cons_zero,List.getD_cons_succ,tV]
  all_goals try simp only[dX hcl,dp hcl,ef hcl,dy hcl,hcg,List.getElem?_cons_zero,List.getElem?_cons_succ]
  all_goals first|exact⟨g0,hlt⟩|(refine⟨_,_,rfl,?_⟩;simp;done)|omega|(rw[hk',show i.toNat=es.length from by omega,hk3];done)|(rw[hc,show i.toNat=es.length from by omega,dz];rfl)|(rw[show(i+1).toNat=i.toNat+1 from by omega,hks,hk'];done)|(rw[show(i+1).toNat=i.toNat+1 from by omega, <-hms,hc,hk'];done)|trace_state
namespace LSpan
structure Fns where
 no:Unit
def F0 :Fns:=⟨()⟩
def B :TB Tryz.prog:={Φ:=Fns,F0:=F0}
end LSpan
theorem uA (a0 a1 a2:Int)(hp:True):aP Tryz.prog 134 [.agg [.v (.int .i64 a0),.v (.int .i64 a1),.v (.int .i64 a2)]] [.agg [.v (.int .i64 a0),.v (.int .i64 a1),.v (.int .i64 a2)]]:=by
 refine ai LSpan.B ag mixed 14 _ [141] [.cell 2 141] Tryz.func134 rfl rfl rfl rfl rfl ?_;intro O r (F:LSpan.Fns) hO hr (hF:F=LSpan.F0);cbv
 repeat' first|refine And.intro ?_ ?_|(refine aG (fun hb=>?_) (fun hb=>?_)<;>cbv)
 all_goals(subst hO hr hF;(try simp only[af,SS,sa,az]at*);(try simp only[nc]at*);(try simp only[aF]at*))
 all_goals(try simp only[LSpan.F0]at*)
 all_goals first|trivial|trace_state
theorem um (a0 a1 a2:Int)(d:DV)(hp:d=.agg [.v (.int .i64 a0),.v (.int .i64 a1),.v (.int .i64 a2)]):aP Tryz.prog 158 [.agg [.v (.int .i64 a0),.v (.int .i64 a1),.v (.int .i64 a2)],d] [.one (.v (.bool true))]:=by
 subst hp;refine ai LSpan.B ag mixed 20 _ [4] [.tmp 4] Tryz.func158 rfl rfl rfl rfl rfl ?_;intro O r (F:LSpan.Fns) hO hr (hF:F=LSpan.F0);cbv
 repeat' first|refine And.intro ?_ ?_|(refine aG (fun hb=>?_) (fun hb=>?_)<;>cbv)
 all_goals(subst hO hr hF;(try simp only[af,SS,sa,az]at*);(try simp only[nc]at*);(try simp only[aF]at*))
 all_goals(try simp only[LSpan.F0]at*)
 all_goals first|trivial|trace_state
namespace LSpanS
structure Fns where
 no:Unit
def F0 :Fns:=⟨()⟩
def ct (F:Fns):CT:=fun f ds=>match f,ds with
 |134,[.agg [.v (.int .i64 a0),.v (.int .i64 a1),.v (.int .i64 a2)]]=>some (fun _=>True,[.agg [.v (.int .i64 a0),.v (.int .i64 a1),.v (.int .i64 a2)]])
 |158,[.agg [.v (.int .i64 a0),.v (.int .i64 a1),.v (.int .i64 a2)],d]=>some (fun _=>d=.agg [.v (.int .i64 a0),.v (.int .i64 a1),.v (.int .i64 a2)],[.one (.v (.bool true))])
 |_,_=>none
theorem ak :aW Tryz.prog (ct F0):=by
 intro f ds pre res h hp;unfold ct at h;split at h<;>(try split at h)<;>cases h
 exact uA _ _ _ hp;exact um _ _ _ _ hp
def B :TB Tryz.prog:=tb ak
end LSpanS
namespace MSpanS
structure Fns where
 no:Unit
def F0 :Fns:=⟨()⟩
def B :TB Tryz.prog:={Φ:=Fns,F0:=F0}
end MSpanS
theorem rP (es:List (List L))(left:Int)(hp:Rw [tI,tI,tI] es/\0<=left/\left<=1048576):aP Tryz.prog 37 [.one (.s 3 es),.one (.v (.int .i64 left))] [.one (.v (.int .i64 (aZ [es] left)))]:=by
 obtain⟨hw,h0,h1⟩:=hp;have hc:aj es=es.length:=hw.cnt rfl;have hm:=hw.1;unfold maxLen at hm;have hs:aV .sub .i64 left es.length=left-es.length:=cH (by omega);have hn:aZ [es] left=if left<es.length then-1 else left-es.length:=by unfold aZ;rw[cz,hc]
 refine ai LSpanS.B ag mixed 12 _ [3] [.tmp 4] Tryz.func37 rfl rfl rfl rfl rfl ?_;intro O r (F:LSpanS.Fns) hO hr (hF:F=LSpanS.F0);cbv
 repeat' first|refine And.intro ?_ ?_|(refine aG (fun hb=>?_) (fun hb=>?_)<;>cbv)
 all_goals(subst hO hr hF;(try simp only[af,SS,sa,az]at*);(try simp only[nc]at*);(try simp only[aF]at*))
 all_goals(try simp only[hs,LSpanS.F0]at*)
 all_goals first|trivial|(rw[hn,if_pos (by omega)])|(rw[hn,if_neg (by omega)])
theorem rX (es:List (List L))(hp:Rw [tI,tI,tI] es/\aj es<=1048576):aP Tryz.prog 48 [.one (.s 3 es)] [.one (.s 3 es)]:=by
 obtain⟨hw,hlim⟩:=hp;have hwf:Wf [.v (.int .i64 0),.v (.int .i64 0),.v (.int .i64 0)] es:=hw.wf;have hlen:es.length<=1048576:=Nat.le_trans (Nat.le_add_right _ _) hlim;refine ai LSpanS.B ag mixed 23 _ [62] [.tmp 2] Tryz.func48 rfl rfl rfl rfl rfl ?_;intro O r (F:LSpanS.Fns) hO hr (hF:F=LSpanS.F0);cbv;have h0z:bH es [.v (.int .i64 0),.v (.int .i64 0),.v (.int .i64 0)] 0=O.rep (O.zi (O.ln es)) [.v (.int .i64 0),.v (.int .i64 0),.v (.int .i64 0)]:=by
  subst hO;rw[cf];rfl
 refine⟨?_,?_,[0,3,4],[3],Int×List (List L),fun s=>[.reg 4 (.one (.v (.int .i64 s.1))),.leaf 3 0 ⟨0,0,none,.own (.s 3 s.2)⟩],fun s=>0<=s.1/\s.1.toNat<=es.length/\s.2=bH es [.v (.int .i64 0),.v (.int .i64 0),.v (.int .i64 0)] s.1.toNat,fun s=>es.length-s.1.toNat,⟨(0,O.rep (O.zi (O.ln es)) [.v (.int .i64 0),.v (.int .i64 0),.v (.int .i64 0)]),?_,?_⟩,?_⟩
 ·subst hO;exact iq (b:=24) (show es.length*_<=_ by omega) (show es.length<=_ by omega)
 ·subst hO;exact⟨rfl,rfl⟩
 ·exact⟨by omega,Nat.zero_le _,h0z.symm⟩
 ·cbv
 ·rintro⟨i,m⟩ hi;replace hi:0<=i/\i.toNat<=es.length/\m=bH es [.v (.int .i64 0),.v (.int .i64 0),.v (.int .i64 0)] i.toNat:=hi;obtain⟨g0,g1,hm⟩:=hi;cbv
  repeat' first|refine And.intro ?_ ?_|(refine aG (fun hb=>?_) (fun hb=>?_)<;>cbv)|(refine aa (O.ar .add .i64 i 1,O.up (.s 3 m) [(O.ad 0 i,0)] [.v (.int .i64 (O.gi es i 0)),.v (.int .i64 (O.gi es i 1)),.v (.int .i64 (O.gi es i 2))]) ?_ ?_ ?_;rotate_left 2;focus (cbv;done))
  all_goals(subst hO hr hF;(try simp only[af,SS,sa,az]at*);(try simp only[nc]at*);(try simp only[aF]at*))
  all_goals(try simp only[LSpanS.F0,lL,List.length_replicate,Int.toNat_natCast]at*)
  all_goals try have hlt:i<es.length:=by assumption
  all_goals try rw[bP (n:=es.length) g0 hlt (by omega)]
  all_goals try have he:es.getD i.toNat []=[.v (.int .i64 (ab es i 0)),.v (.int .i64 (ab es i 1)),.v (.int .i64 (ab es i 2))]:=(aw hwf g0 hlt).symm
  all_goals try have hct:=aX (es:=es) (n:=i.toNat) (by omega);rw[he]at hct;simp only[bR,cv,Nat.add_zero,Nat.zero_add]at hct
  all_goals have hle1:=ap (es:=es) (n:=i.toNat+1)
  all_goals have hcE:aj es=es.length+aH es:=rfl
  all_goals first|exact bQ hwf g0 hlt|exact⟨g0,hlt⟩|(rw[hm];exact cA (by rw[aI g1];omega) (by rw[aY (by omega)];exact Nat.le_refl _))|omega|(rw[show(i+1).toNat=i.toNat+1 from by omega, <-cJ (by omega), <-hm,dI (by rw[hm,aY (by omega)];rfl),he])|(rw[hm,aI g1];exact⟨trivial,rfl⟩)|(rw[hm,show i.toNat=es.length from by omega,cI])|trace_state
theorem rI (es:List (List L))(d:DV)(hp:d=.one (.s 3 es)/\Rw [tI,tI,tI] es/\aj es<=1099511627776):aP Tryz.prog 59 [.one (.s 3 es),d] [.one (.v (.bool true))]:=by
 obtain⟨rfl,hw,hlim⟩:=hp;have hwf:Wf [.v (.int .i64 0),.v (.int .i64 0),.v (.int .i64 0)] es:=hw.wf;have hlen:es.length<=1099511627776:=Nat.le_trans (Nat.le_add_right _ _) hlim;refine ai LSpanS.B ag mixed 27 _ [4] [.tmp 4] Tryz.func59 rfl rfl rfl rfl rfl ?_;intro O r (F:LSpanS.Fns) hO hr (hF:F=LSpanS.F0);cbv;refine aG (fun hb=>?_) (fun hb=>?_)<;>cbv
 ·(subst hO hr hF;(try simp only[af,SS,sa,az]at*);(try simp only[nc]at*);(try simp only[aF]at*));exact absurd rfl hb
 ·clear hb;refine⟨[0,1,5],[],Int,fun i=>[.reg 5 (.one (.v (.int .i64 i)))],fun i=>0<=i/\i.toNat<=es.length,fun i=>es.length-i.toNat,⟨0,?_,?_⟩,?_⟩
  ·exact⟨by omega,Nat.zero_le _⟩
  ·cbv
  ·rintro i hi;replace hi:0<=i/\i.toNat<=es.length:=hi;obtain⟨g0,g1⟩:=hi;cbv
   repeat' first|refine And.intro ?_ ?_|(refine aG (fun hb=>?_) (fun hb=>?_)<;>cbv)|(refine aa (O.ar .add .i64 i 1) ?_ ?_ ?_;rotate_left 2;focus (cbv;done))
   all_goals(subst hO hr hF;(try simp only[af,SS,sa,az]at*);(try simp only[nc]at*);(try simp only[aF]at*))
   all_goals(try simp only[LSpanS.F0]at*)
   all_goals try have hlt:i<es.length:=by assumption
   all_goals try rw[bP (n:=es.length) g0 hlt (by omega)]
   all_goals try have he:es.getD i.toNat []=[.v (.int .i64 (ab es i 0)),.v (.int .i64 (ab es i 1)),.v (.int .i64 (ab es i 2))]:=(aw hwf g0 hlt).symm
   all_goals try have hct:=aX (es:=es) (n:=i.toNat) (by omega);rw[he]at hct;simp only[bR,cv,Nat.add_zero,Nat.zero_add]at hct
   all_goals have hle1:=ap (es:=es) (n:=i.toNat+1)
   all_goals have hcE:aj es=es.length+aH es:=rfl
   all_goals first|omega|exact bQ hwf g0 hlt|trivial|trace_state
theorem nH (es:List (List L))(k:Int)(hp:Rw [tI,tI,tI] es/\aj es<=1099511627776/\0<=k/\aS [es] k<=1152921504606846976):eF Tryz.prog 104 [.one (.s 3 es),.one (.v (.int .i64 k))] [.s 3 (bN es k)] [.one (.v (.int .i64 (aS [es] k)))]:=by
 obtain⟨hw,hlim,hk0,hkb⟩:=hp;have hwf:Wf [.v (.int .i64 0),.v (.int .i64 0),.v (.int .i64 0)] es:=hw.wf;have hlen:es.length<=1099511627776:=Nat.le_trans (Nat.le_add_right _ _) hlim;refine dd MSpanS.B ag mixed 34 _ [3] [.tmp 4] [(0,0)] Tryz.func104 rfl rfl rfl rfl rfl rfl rfl ?_;intro O r os (F:MSpanS.Fns) hO hr hos (hF:F=MSpanS.F0);cbv;refine⟨[0,1,5],[0],Int×Int×List (List L),fun s=>match s with|(i,k',cur)=>[.reg 5 (.one (.v (.int .i64 i))),.reg 1 (.one (.v (.int .i64 k'))),.leaf 0 0 ⟨0,0,some 0,.own (.s 3 cur)⟩],fun s=>0<=s.1/\s.1.toNat<=es.length/\s.2.1=gP es k s.1.toNat/\s.2.2=dQ es k s.1.toNat,fun s=>es.length-s.1.toNat,⟨(0,k,es),?_,?_⟩,?_⟩
 ·exact⟨by omega,Nat.zero_le _,bB.symm,cU.symm⟩
 ·cbv
 ·rintro⟨i,k',cur⟩ hi;replace hi:0<=i/\i.toNat<=es.length/\k'=gP es k i.toNat/\cur=dQ es k i.toNat:=hi;obtain⟨g0,g1,hk',hc⟩:=hi;cbv
  repeat' first|refine And.intro ?_ ?_|(refine aG (fun hb=>?_) (fun hb=>?_)<;>cbv)|(refine aa (O.ar .add .i64 i 1,O.ar .add .i64 (O.ar .add .i64 (O.ar .add .i64 (k') 1) 1) 1,O.up (.s 3 (O.up (.s 3 (O.up (.s 3 (cur)) [(O.ad 0 i,0)] [.v (.int .i64 (k'))])) [(O.ad 0 i,1)] [.v (.int .i64 (O.ar .add .i64 (k') 1))])) [(O.ad 0 i,2)] [.v (.int .i64 (O.ar .add .i64 (O.ar .add .i64 (k') 1) 1))]) ?_ ?_ ?_;rotate_left 2;focus (cbv;done))
  all_goals((try subst hos);subst hO hr hF;(try simp only[af,SS,sa,az]at*);(try simp only[nc]at*);(try simp only[aF]at*))
  all_goals(try simp only[MSpanS.F0]at*)
  all_goals try have hlt:i<es.length:=by assumption
  all_goals try rw[bP (n:=es.length) g0 hlt (by omega)]
  all_goals try have hlt':i.toNat<es.length:=by omega
  all_goals try have he:es.getD i.toNat []=[.v (.int .i64 (ab es i 0)),.v (.int .i64 (ab es i 1)),.v (.int .i64 (ab es i 2))]:=(aw hwf g0 hlt).symm
  all_goals try have hct:=aX (es:=es) (n:=i.toNat) (by omega);rw[he]at hct;simp only[bR,cv,Nat.add_zero,Nat.zero_add]at hct
  all_goals try have hks:=cX (es:=es) (k:=k) hlt';rw[he]at hks;simp only[fJ,eT]at hks
  all_goals try have hms:=dA (es:=es) (k:=k) hlt';rw[he]at hms;simp only[fJ,eT]at hms
  all_goals have hle1:=ap (es:=es) (n:=i.toNat+1)
  all_goals have hcE:aj es=es.length+aH es:=rfl
  all_goals have hk1:=bZ (es:=es) (k:=k) (n:=i.toNat)
  all_goals have hk2:=bZ (es:=es) (k:=k) (n:=i.toNat+1)
  all_goals have hk3:=dY (es:=es) (k:=k)
  all_goals have hk4:=bZ (es:=es) (k:=k) (n:=es.length)
  all_goals have hk5:=bu (es:=es) (m:=0) (n:=i.toNat) g1 (Nat.zero_le _)
  all_goals have hk6:=bu (es:=es) (m:=i.toNat) (n:=es.length) (Nat.le_refl _) g1
  all_goals try have hk7:=bu (es:=es) (m:=i.toNat+1) (n:=es.length) (Nat.le_refl _) hlt'
  all_goals rw[bB]at hk5
  all_goals try have hk8:=cW (es:=es) (n:=i.toNat) hlt'
  all_goals try have hcl:i.toNat<cur.length:=by rw[hc,b9 g1];exact hlt'
  all_goals try have hcg:cur.getD i.toNat []=[.v (.int .i64 (ab es i 0)),.v (.int .i64 (ab es i 1)),.v (.int .i64 (ab es i 2))]:=by rw[hc,cT g1];exact he
  all_goals have ha1:aV .add .i64 k' 1=k'+1:=aB (by omega)
  all_goals have ha2:aV .add .i64 (k'+1) 1=k'+1+1:=aB (by omega)
  all_goals have ha3:aV .add .i64 (k'+1+1) 1=k'+1+1+1:=aB (by omega)
  all_goals have ha4:aV .add .i64 (k'+1+1+1) 1=k'+1+1+1+1:=aB (by omega)
  all_goals try simp only[ha1,ha2,ha3,ha4]
  all_goals try simp only[az]
  all_goals try simp only[dE,hcg,List.take,List.drop,List.length_cons,List.length_nil,List.nil_append,List.cons_append,List.append_nil,Nat.zero_add,Nat.reduceAdd,aE hcl,List.set_set,List.append_assoc]
  all_goals try simp only[dw,hcg,aE hcl,List.getD_cons_zero,List.getD_cons_succ,tV]
  all_goals try simp only[dX hcl,dp hcl,ef hcl,dy hcl,hcg,List.getElem?_cons_zero,List.getElem?_cons_succ]
  all_goals first|exact⟨g0,hlt⟩|(refine⟨_,_,rfl,?_⟩;simp;done)|omega|(rw[hk',show i.toNat=es.length from by omega,hk3];done)|(rw[hc,show i.toNat=es.length from by omega,dz];rfl)|(rw[show(i+1).toNat=i.toNat+1 from by omega,hks,hk'];done)|(rw[show(i+1).toNat=i.toNat+1 from by omega, <-hms,hc,hk'];done)|trace_state
namespace LLarge
structure Fns where
 no:Unit
def F0 :Fns:=⟨()⟩
def B :TB Tryz.prog:={Φ:=Fns,F0:=F0}
end LLarge
theorem rU (a0 a1 a2:Int)(hp:True):aP Tryz.prog 135 [.agg [.v (.int .i64 a0),.v (.int .i64 a1),.v (.int .i64 a2)]] [.agg [.v (.int .i64 a0),.v (.int .i64 a1),.v (.int .i64 a2)]]:=by
 refine ai LLarge.B ag mixed 14 _ [201] [.cell 2 201] Tryz.func135 rfl rfl rfl rfl rfl ?_;intro O r (F:LLarge.Fns) hO hr (hF:F=LLarge.F0);cbv
 repeat' first|refine And.intro ?_ ?_|(refine aG (fun hb=>?_) (fun hb=>?_)<;>cbv)
 all_goals(subst hO hr hF;(try simp only[af,SS,sa,az]at*);(try simp only[nc]at*);(try simp only[aF]at*))
 all_goals(try simp only[LLarge.F0]at*)
 all_goals first|trivial|trace_state
theorem rF (a0 a1 a2:Int)(d:DV)(hp:d=.agg [.v (.int .i64 a0),.v (.int .i64 a1),.v (.int .i64 a2)]):aP Tryz.prog 159 [.agg [.v (.int .i64 a0),.v (.int .i64 a1),.v (.int .i64 a2)],d] [.one (.v (.bool true))]:=by
 subst hp;refine ai LLarge.B ag mixed 20 _ [4] [.tmp 4] Tryz.func159 rfl rfl rfl rfl rfl ?_;intro O r (F:LLarge.Fns) hO hr (hF:F=LLarge.F0);cbv
 repeat' first|refine And.intro ?_ ?_|(refine aG (fun hb=>?_) (fun hb=>?_)<;>cbv)
 all_goals(subst hO hr hF;(try simp only[af,SS,sa,az]at*);(try simp only[nc]at*);(try simp only[aF]at*))
 all_goals(try simp only[LLarge.F0]at*)
 all_goals first|trivial|trace_state
namespace LLargeS
structure Fns where
 no:Unit
def F0 :Fns:=⟨()⟩
def ct (F:Fns):CT:=fun f ds=>match f,ds with
 |135,[.agg [.v (.int .i64 a0),.v (.int .i64 a1),.v (.int .i64 a2)]]=>some (fun _=>True,[.agg [.v (.int .i64 a0),.v (.int .i64 a1),.v (.int .i64 a2)]])
 |159,[.agg [.v (.int .i64 a0),.v (.int .i64 a1),.v (.int .i64 a2)],d]=>some (fun _=>d=.agg [.v (.int .i64 a0),.v (.int .i64 a1),.v (.int .i64 a2)],[.one (.v (.bool true))])
 |_,_=>none
theorem ak :aW Tryz.prog (ct F0):=by
 intro f ds pre res h hp;unfold ct at h;split at h<;>(try split at h)<;>cases h
 exact rU _ _ _ hp;exact rF _ _ _ _ hp
def B :TB Tryz.prog:=tb ak
end LLargeS
namespace MLargeS
structure Fns where
 no:Unit
def F0 :Fns:=⟨()⟩
def B :TB Tryz.prog:={Φ:=Fns,F0:=F0}
end MLargeS
theorem pX (es:List (List L))(left:Int)(hp:Rw [tI,tI,tI] es/\0<=left/\left<=1048576):aP Tryz.prog 38 [.one (.s 3 es),.one (.v (.int .i64 left))] [.one (.v (.int .i64 (aZ [es] left)))]:=by
 obtain⟨hw,h0,h1⟩:=hp;have hc:aj es=es.length:=hw.cnt rfl;have hm:=hw.1;unfold maxLen at hm;have hs:aV .sub .i64 left es.length=left-es.length:=cH (by omega);have hn:aZ [es] left=if left<es.length then-1 else left-es.length:=by unfold aZ;rw[cz,hc]
 refine ai LLargeS.B ag mixed 12 _ [3] [.tmp 4] Tryz.func38 rfl rfl rfl rfl rfl ?_;intro O r (F:LLargeS.Fns) hO hr (hF:F=LLargeS.F0);cbv
 repeat' first|refine And.intro ?_ ?_|(refine aG (fun hb=>?_) (fun hb=>?_)<;>cbv)
 all_goals(subst hO hr hF;(try simp only[af,SS,sa,az]at*);(try simp only[nc]at*);(try simp only[aF]at*))
 all_goals(try simp only[hs,LLargeS.F0]at*)
 all_goals first|trivial|(rw[hn,if_pos (by omega)])|(rw[hn,if_neg (by omega)])
theorem qh (es:List (List L))(hp:Rw [tI,tI,tI] es/\aj es<=1048576):aP Tryz.prog 49 [.one (.s 3 es)] [.one (.s 3 es)]:=by
 obtain⟨hw,hlim⟩:=hp;have hwf:Wf [.v (.int .i64 0),.v (.int .i64 0),.v (.int .i64 0)] es:=hw.wf;have hlen:es.length<=1048576:=Nat.le_trans (Nat.le_add_right _ _) hlim;refine ai LLargeS.B ag mixed 23 _ [63] [.tmp 2] Tryz.func49 rfl rfl rfl rfl rfl ?_;intro O r (F:LLargeS.Fns) hO hr (hF:F=LLargeS.F0);cbv;have h0z:bH es [.v (.int .i64 0),.v (.int .i64 0),.v (.int .i64 0)] 0=O.rep (O.zi (O.ln es)) [.v (.int .i64 0),.v (.int .i64 0),.v (.int .i64 0)]:=by
  subst hO;rw[cf];rfl
 refine⟨?_,?_,[0,3,4],[3],Int×List (List L),fun s=>[.reg 4 (.one (.v (.int .i64 s.1))),.leaf 3 0 ⟨0,0,none,.own (.s 3 s.2)⟩],fun s=>0<=s.1/\s.1.toNat<=es.length/\s.2=bH es [.v (.int .i64 0),.v (.int .i64 0),.v (.int .i64 0)] s.1.toNat,fun s=>es.length-s.1.toNat,⟨(0,O.rep (O.zi (O.ln es)) [.v (.int .i64 0),.v (.int .i64 0),.v (.int .i64 0)]),?_,?_⟩,?_⟩
 ·subst hO;exact iq (b:=24) (show es.length*_<=_ by omega) (show es.length<=_ by omega)
 ·subst hO;exact⟨rfl,rfl⟩
 ·exact⟨by omega,Nat.zero_le _,h0z.symm⟩
 ·cbv
 ·rintro⟨i,m⟩ hi;replace hi:0<=i/\i.toNat<=es.length/\m=bH es [.v (.int .i64 0),.v (.int .i64 0),.v (.int .i64 0)] i.toNat:=hi;obtain⟨g0,g1,hm⟩:=hi;cbv
  repeat' first|refine And.intro ?_ ?_|(refine aG (fun hb=>?_) (fun hb=>?_)<;>cbv)|(refine aa (O.ar .add .i64 i 1,O.up (.s 3 m) [(O.ad 0 i,0)] [.v (.int .i64 (O.gi es i 0)),.v (.int .i64 (O.gi es i 1)),.v (.int .i64 (O.gi es i 2))]) ?_ ?_ ?_;rotate_left 2;focus (cbv;done))
  all_goals(subst hO hr hF;(try simp only[af,SS,sa,az]at*);(try simp only[nc]at*);(try simp only[aF]at*))
  all_goals(try simp only[LLargeS.F0,lL,List.length_replicate,Int.toNat_natCast]at*)
  all_goals try have hlt:i<es.length:=by assumption
  all_goals try rw[bP (n:=es.length) g0 hlt (by omega)]
  all_goals try have he:es.getD i.toNat []=[.v (.int .i64 (ab es i 0)),.v (.int .i64 (ab es i 1)),.v (.int .i64 (ab es i 2))]:=(aw hwf g0 hlt).symm
  all_goals try have hct:=aX (es:=es) (n:=i.toNat) (by omega);rw[he]at hct;simp only[bR,cv,Nat.add_zero,Nat.zero_add]at hct
  all_goals have hle1:=ap (es:=es) (n:=i.toNat+1)
  all_goals have hcE:aj es=es.length+aH es:=rfl
  all_goals first|exact bQ hwf g0 hlt|exact⟨g0,hlt⟩|(rw[hm];exact cA (by rw[aI g1];omega) (by rw[aY (by omega)];exact Nat.le_refl _))|omega|(rw[show(i+1).toNat=i.toNat+1 from by omega, <-cJ (by omega), <-hm,dI (by rw[hm,aY (by omega)];rfl),he])|(rw[hm,aI g1];exact⟨trivial,rfl⟩)|(rw[hm,show i.toNat=es.length from by omega,cI])|trace_state
theorem pJ (es:List (List L))(d:DV)(hp:d=.one (.s 3 es)/\Rw [tI,tI,tI] es/\aj es<=1099511627776):aP Tryz.prog 60 [.one (.s 3 es),d] [.one (.v (.bool true))]:=by
 obtain⟨rfl,hw,hlim⟩:=hp;have hwf:Wf [.v (.int .i64 0),.v (.int .i64 0),.v (.int .i64 0)] es:=hw.wf;have hlen:es.length<=1099511627776:=Nat.le_trans (Nat.le_add_right _ _) hlim;refine ai LLargeS.B ag mixed 27 _ [4] [.tmp 4] Tryz.func60 rfl rfl rfl rfl rfl ?_;intro O r (F:LLargeS.Fns) hO hr (hF:F=LLargeS.F0);cbv;refine aG (fun hb=>?_) (fun hb=>?_)<;>cbv
 ·(subst hO hr hF;(try simp only[af,SS,sa,az]at*);(try simp only[nc]at*);(try simp only[aF]at*));exact absurd rfl hb
 ·clear hb;refine⟨[0,1,5],[],Int,fun i=>[.reg 5 (.one (.v (.int .i64 i)))],fun i=>0<=i/\i.toNat<=es.length,fun i=>es.length-i.toNat,⟨0,?_,?_⟩,?_⟩
  ·exact⟨by omega,Nat.zero_le _⟩
  ·cbv
  ·rintro i hi;replace hi:0<=i/\i.toNat<=es.length:=hi;obtain⟨g0,g1⟩:=hi;cbv
   repeat' first|refine And.intro ?_ ?_|(refine aG (fun hb=>?_) (fun hb=>?_)<;>cbv)|(refine aa (O.ar .add .i64 i 1) ?_ ?_ ?_;rotate_left 2;focus (cbv;done))
   all_goals(subst hO hr hF;(try simp only[af,SS,sa,az]at*);(try simp only[nc]at*);(try simp only[aF]at*))
   all_goals(try simp only[LLargeS.F0]at*)
   all_goals try have hlt:i<es.length:=by assumption
   all_goals try rw[bP (n:=es.length) g0 hlt (by omega)]
   all_goals try have he:es.getD i.toNat []=[.v (.int .i64 (ab es i 0)),.v (.int .i64 (ab es i 1)),.v (.int .i64 (ab es i 2))]:=(aw hwf g0 hlt).symm
   all_goals try have hct:=aX (es:=es) (n:=i.toNat) (by omega);rw[he]at hct;simp only[bR,cv,Nat.add_zero,Nat.zero_add]at hct
   all_goals have hle1:=ap (es:=es) (n:=i.toNat+1)
   all_goals have hcE:aj es=es.length+aH es:=rfl
   all_goals first|omega|exact bQ hwf g0 hlt|trivial|trace_state
theorem md (es:List (List L))(k:Int)(hp:Rw [tI,tI,tI] es/\aj es<=1099511627776/\0<=k/\aS [es] k<=1152921504606846976):eF Tryz.prog 105 [.one (.s 3 es),.one (.v (.int .i64 k))] [.s 3 (bN es k)] [.one (.v (.int .i64 (aS [es] k)))]:=by
 obtain⟨hw,hlim,hk0,hkb⟩:=hp;have hwf:Wf [.v (.int .i64 0),.v (.int .i64 0),.v (.int .i64 0)] es:=hw.wf;have hlen:es.length<=1099511627776:=Nat.le_trans (Nat.le_add_right _ _) hlim;refine dd MLargeS.B ag mixed 34 _ [3] [.tmp 4] [(0,0)] Tryz.func105 rfl rfl rfl rfl rfl rfl rfl ?_;intro O r os (F:MLargeS.Fns) hO hr hos (hF:F=MLargeS.F0);cbv;refine⟨[0,1,5],[0],Int×Int×List (List L),fun s=>match s with|(i,k',cur)=>[.reg 5 (.one (.v (.int .i64 i))),.reg 1 (.one (.v (.int .i64 k'))),.leaf 0 0 ⟨0,0,some 0,.own (.s 3 cur)⟩],fun s=>0<=s.1/\s.1.toNat<=es.length/\s.2.1=gP es k s.1.toNat/\s.2.2=dQ es k s.1.toNat,fun s=>es.length-s.1.toNat,⟨(0,k,es),?_,?_⟩,?_⟩
 ·exact⟨by omega,Nat.zero_le _,bB.symm,cU.symm⟩
 ·cbv
 ·rintro⟨i,k',cur⟩ hi;replace hi:0<=i/\i.toNat<=es.length/\k'=gP es k i.toNat/\cur=dQ es k i.toNat:=hi;obtain⟨g0,g1,hk',hc⟩:=hi;cbv
  repeat' first|refine And.intro ?_ ?_|(refine aG (fun hb=>?_) (fun hb=>?_)<;>cbv)|(refine aa (O.ar .add .i64 i 1,O.ar .add .i64 (O.ar .add .i64 (O.ar .add .i64 (k') 1) 1) 1,O.up (.s 3 (O.up (.s 3 (O.up (.s 3 (cur)) [(O.ad 0 i,0)] [.v (.int .i64 (k'))])) [(O.ad 0 i,1)] [.v (.int .i64 (O.ar .add .i64 (k') 1))])) [(O.ad 0 i,2)] [.v (.int .i64 (O.ar .add .i64 (O.ar .add .i64 (k') 1) 1))]) ?_ ?_ ?_;rotate_left 2;focus (cbv;done))
  all_goals((try subst hos);subst hO hr hF;(try simp only[af,SS,sa,az]at*);(try simp only[nc]at*);(try simp only[aF]at*))
  all_goals(try simp only[MLargeS.F0]at*)
  all_goals try have hlt:i<es.length:=by assumption
  all_goals try rw[bP (n:=es.length) g0 hlt (by omega)]
  all_goals try have hlt':i.toNat<es.length:=by omega
  all_goals try have he:es.getD i.toNat []=[.v (.int .i64 (ab es i 0)),.v (.int .i64 (ab es i 1)),.v (.int .i64 (ab es i 2))]:=(aw hwf g0 hlt).symm
  all_goals try have hct:=aX (es:=es) (n:=i.toNat) (by omega);rw[he]at hct;simp only[bR,cv,Nat.add_zero,Nat.zero_add]at hct
  all_goals try have hks:=cX (es:=es) (k:=k) hlt';rw[he]at hks;simp only[fJ,eT]at hks
  all_goals try have hms:=dA (es:=es) (k:=k) hlt';rw[he]at hms;simp only[fJ,eT]at hms
  all_goals have hle1:=ap (es:=es) (n:=i.toNat+1)
  all_goals have hcE:aj es=es.length+aH es:=rfl
  all_goals have hk1:=bZ (es:=es) (k:=k) (n:=i.toNat)
  all_goals have hk2:=bZ (es:=es) (k:=k) (n:=i.toNat+1)
  all_goals have hk3:=dY (es:=es) (k:=k)
  all_goals have hk4:=bZ (es:=es) (k:=k) (n:=es.length)
  all_goals have hk5:=bu (es:=es) (m:=0) (n:=i.toNat) g1 (Nat.zero_le _)
  all_goals have hk6:=bu (es:=es) (m:=i.toNat) (n:=es.length) (Nat.le_refl _) g1
  all_goals try have hk7:=bu (es:=es) (m:=i.toNat+1) (n:=es.length) (Nat.le_refl _) hlt'
  all_goals rw[bB]at hk5
  all_goals try have hk8:=cW (es:=es) (n:=i.toNat) hlt'
  all_goals try have hcl:i.toNat<cur.length:=by rw[hc,b9 g1];exact hlt'
  all_goals try have hcg:cur.getD i.toNat []=[.v (.int .i64 (ab es i 0)),.v (.int .i64 (ab es i 1)),.v (.int .i64 (ab es i 2))]:=by rw[hc,cT g1];exact he
  all_goals have ha1:aV .add .i64 k' 1=k'+1:=aB (by omega)
  all_goals have ha2:aV .add .i64 (k'+1) 1=k'+1+1:=aB (by omega)
  all_goals have ha3:aV .add .i64 (k'+1+1) 1=k'+1+1+1:=aB (by omega)
  all_goals have ha4:aV .add .i64 (k'+1+1+1) 1=k'+1+1+1+1:=aB (by omega)
  all_goals try simp only[ha1,ha2,ha3,ha4]
  all_goals try simp only[az]
  all_goals try simp only[dE,hcg,List.take,List.drop,List.length_cons,List.length_nil,List.nil_append,List.cons_append,List.append_nil,Nat.zero_add,Nat.reduceAdd,aE hcl,List.set_set,List.append_assoc]
  all_goals try simp only[dw,hcg,aE hcl,List.getD_cons_zero,List.getD_cons_succ,tV]
  all_goals try simp only[dX hcl,dp hcl,ef hcl,dy hcl,hcg,List.getElem?_cons_zero,List.getElem?_cons_succ]
  all_goals first|exact⟨g0,hlt⟩|(refine⟨_,_,rfl,?_⟩;simp;done)|omega|(rw[hk',show i.toNat=es.length from by omega,hk3];done)|(rw[hc,show i.toNat=es.length from by omega,dz];rfl)|(rw[show(i+1).toNat=i.toNat+1 from by omega,hks,hk'];done)|(rw[show(i+1).toNat=i.toNat+1 from by omega, <-hms,hc,hk'];done)|trace_state
end Go.V