/-
  Contracts, by evaluation.
-/
import Derived.Test.YtniaaknbbceigaaGreatS10
import Derived.Test.YtniaaknbbceigaaGreatVE
set_option linter.all false
namespace Go.V
open Go Go.Proofs
set_option maxRecDepth 1000000
set_option maxHeartbeats 8000000
namespace LIntS
structure Fns where
 no:Unit
def F0 :Fns:=⟨()⟩
def B :TB Tryz.prog:={Φ:=Fns,F0:=F0}
end LIntS
namespace MIntS
structure Fns where
 no:Unit
def F0 :Fns:=⟨()⟩
def B :TB Tryz.prog:={Φ:=Fns,F0:=F0}
end MIntS
theorem fj (es:List (List L))(left:Int)(hp:Rw [tI] es/\0<=left/\left<=1048576):aP Tryz.prog 112 [.one (.s 1 es),.one (.v (.int .i64 left))] [.one (.v (.int .i64 (aZ [es] left)))]:=by
 obtain⟨hw,h0,h1⟩:=hp;have hc:aj es=es.length:=hw.cnt rfl;have hm:=hw.1;unfold maxLen at hm;have hs:aV .sub .i64 left es.length=left-es.length:=cH (by omega);have hn:aZ [es] left=if left<es.length then-1 else left-es.length:=by unfold aZ;rw[cz,hc]
 refine ai LIntS.B ag mixed 12 _ [3] [.tmp 4] Tryz.func112 rfl rfl rfl rfl rfl ?_;intro O r (F:LIntS.Fns) hO hr (hF:F=LIntS.F0);cbv
 repeat' first|refine And.intro ?_ ?_|(refine aG (fun hb=>?_) (fun hb=>?_)<;>cbv)
 all_goals(subst hO hr hF;(try simp only[af,SS,sa,az]at*);(try simp only[nc]at*);(try simp only[aF]at*))
 all_goals(try simp only[hs,LIntS.F0]at*)
 all_goals first|trivial|(rw[hn,if_pos (by omega)])|(rw[hn,if_neg (by omega)])
theorem fm (es:List (List L))(hp:Rw [tI] es/\aj es<=1048576):aP Tryz.prog 132 [.one (.s 1 es)] [.one (.s 1 es)]:=by
 obtain⟨hw,hlim⟩:=hp;have hwf:Wf [.v (.int .i64 0)] es:=hw.wf;have hlen:es.length<=1048576:=Nat.le_trans (Nat.le_add_right _ _) hlim;refine ai LIntS.B ag mixed 22 _ [31] [.tmp 2] Tryz.func132 rfl rfl rfl rfl rfl ?_;intro O r (F:LIntS.Fns) hO hr (hF:F=LIntS.F0);cbv;have h0z:bH es [.v (.int .i64 0)] 0=O.rep (O.zi (O.ln es)) [.v (.int .i64 0)]:=by
  subst hO;rw[cf];rfl
 refine⟨?_,?_,[0,3,4],[3],Int×List (List L),fun s=>[.reg 4 (.one (.v (.int .i64 s.1))),.leaf 3 0 ⟨0,0,none,.own (.s 1 s.2)⟩],fun s=>0<=s.1/\s.1.toNat<=es.length/\s.2=bH es [.v (.int .i64 0)] s.1.toNat,fun s=>es.length-s.1.toNat,⟨(0,O.rep (O.zi (O.ln es)) [.v (.int .i64 0)]),?_,?_⟩,?_⟩
 ·subst hO;exact iq (b:=8) (show es.length*_<=_ by omega) (show es.length<=_ by omega)
 ·subst hO;exact⟨rfl,rfl⟩
 ·exact⟨by omega,Nat.zero_le _,h0z.symm⟩
 ·cbv
 ·rintro⟨i,m⟩ hi;replace hi:0<=i/\i.toNat<=es.length/\m=bH es [.v (.int .i64 0)] i.toNat:=hi;obtain⟨g0,g1,hm⟩:=hi;cbv
  repeat' first|refine And.intro ?_ ?_|(refine aG (fun hb=>?_) (fun hb=>?_)<;>cbv)|(refine aa (O.ar .add .i64 i 1,O.up (.s 1 m) [(O.ad 0 i,0)] [.v (.int .i64 (O.gi es i 0))]) ?_ ?_ ?_;rotate_left 2;focus (cbv;done))
  all_goals(subst hO hr hF;(try simp only[af,SS,sa,az]at*);(try simp only[nc]at*);(try simp only[aF]at*))
  all_goals(try simp only[LIntS.F0,lL,List.length_replicate,Int.toNat_natCast]at*)
  all_goals try have hlt:i<es.length:=by assumption
  all_goals try rw[bP (n:=es.length) g0 hlt (by omega)]
  all_goals try have he:es.getD i.toNat []=[.v (.int .i64 (ab es i 0))]:=(aw hwf g0 hlt).symm
  all_goals try have hct:=aX (es:=es) (n:=i.toNat) (by omega);rw[he]at hct;simp only[bR,cv,Nat.add_zero,Nat.zero_add]at hct
  all_goals have hle1:=ap (es:=es) (n:=i.toNat+1)
  all_goals have hcE:aj es=es.length+aH es:=rfl
  all_goals first|exact bQ hwf g0 hlt|exact⟨g0,hlt⟩|(rw[hm];exact cA (by rw[aI g1];omega) (by rw[aY (by omega)];exact Nat.le_refl _))|omega|(rw[show(i+1).toNat=i.toNat+1 from by omega, <-cJ (by omega), <-hm,dI (by rw[hm,aY (by omega)];rfl),he])|(rw[hm,aI g1];exact⟨trivial,rfl⟩)|(rw[hm,show i.toNat=es.length from by omega,cI])|trace_state
theorem d9 (es:List (List L))(d:DV)(hp:d=.one (.s 1 es)/\Rw [tI] es/\aj es<=1099511627776):aP Tryz.prog 31 [.one (.s 1 es),d] [.one (.v (.bool true))]:=by
 obtain⟨rfl,hw,hlim⟩:=hp;have hwf:Wf [.v (.int .i64 0)] es:=hw.wf;have hlen:es.length<=1099511627776:=Nat.le_trans (Nat.le_add_right _ _) hlim;refine ai LIntS.B ag mixed 26 _ [4] [.tmp 4] Tryz.func31 rfl rfl rfl rfl rfl ?_;intro O r (F:LIntS.Fns) hO hr (hF:F=LIntS.F0);cbv;refine aG (fun hb=>?_) (fun hb=>?_)<;>cbv
 ·(subst hO hr hF;(try simp only[af,SS,sa,az]at*);(try simp only[nc]at*);(try simp only[aF]at*));exact absurd rfl hb
 ·clear hb;refine⟨[0,1,5],[],Int,fun i=>[.reg 5 (.one (.v (.int .i64 i)))],fun i=>0<=i/\i.toNat<=es.length,fun i=>es.length-i.toNat,⟨0,?_,?_⟩,?_⟩
  ·exact⟨by omega,Nat.zero_le _⟩
  ·cbv
  ·rintro i hi;replace hi:0<=i/\i.toNat<=es.length:=hi;obtain⟨g0,g1⟩:=hi;cbv
   repeat' first|refine And.intro ?_ ?_|(refine aG (fun hb=>?_) (fun hb=>?_)<;>cbv)|(refine aa (O.ar .add .i64 i 1) ?_ ?_ ?_;rotate_left 2;focus (cbv;done))
   all_goals(subst hO hr hF;(try simp only[af,SS,sa,az]at*);(try simp only[nc]at*);(try simp only[aF]at*))
   all_goals(try simp only[LIntS.F0]at*)
   all_goals try have hlt:i<es.length:=by assumption
   all_goals try rw[bP (n:=es.length) g0 hlt (by omega)]
   all_goals try have he:es.getD i.toNat []=[.v (.int .i64 (ab es i 0))]:=(aw hwf g0 hlt).symm
   all_goals try have hct:=aX (es:=es) (n:=i.toNat) (by omega);rw[he]at hct;simp only[bR,cv,Nat.add_zero,Nat.zero_add]at hct
   all_goals have hle1:=ap (es:=es) (n:=i.toNat+1)
   all_goals have hcE:aj es=es.length+aH es:=rfl
   all_goals first|omega|exact bQ hwf g0 hlt|trivial|trace_state
theorem cS (es:List (List L))(k:Int)(hp:Rw [tI] es/\aj es<=1099511627776/\0<=k/\aS [es] k<=1152921504606846976):eF Tryz.prog 33 [.one (.s 1 es),.one (.v (.int .i64 k))] [.s 1 (bN es k)] [.one (.v (.int .i64 (aS [es] k)))]:=by
 obtain⟨hw,hlim,hk0,hkb⟩:=hp;have hwf:Wf [.v (.int .i64 0)] es:=hw.wf;have hlen:es.length<=1099511627776:=Nat.le_trans (Nat.le_add_right _ _) hlim;refine dd MIntS.B ag mixed 19 _ [3] [.tmp 4] [(0,0)] Tryz.func33 rfl rfl rfl rfl rfl rfl rfl ?_;intro O r os (F:MIntS.Fns) hO hr hos (hF:F=MIntS.F0);cbv;refine⟨[0,1,5],[0],Int×Int×List (List L),fun s=>match s with|(i,k',cur)=>[.reg 5 (.one (.v (.int .i64 i))),.reg 1 (.one (.v (.int .i64 k'))),.leaf 0 0 ⟨0,0,some 0,.own (.s 1 cur)⟩],fun s=>0<=s.1/\s.1.toNat<=es.length/\s.2.1=gP es k s.1.toNat/\s.2.2=dQ es k s.1.toNat,fun s=>es.length-s.1.toNat,⟨(0,k,es),?_,?_⟩,?_⟩
 ·exact⟨by omega,Nat.zero_le _,bB.symm,cU.symm⟩
 ·cbv
 ·rintro⟨i,k',cur⟩ hi;replace hi:0<=i/\i.toNat<=es.length/\k'=gP es k i.toNat/\cur=dQ es k i.toNat:=hi;obtain⟨g0,g1,hk',hc⟩:=hi;cbv
  repeat' first|refine And.intro ?_ ?_|(refine aG (fun hb=>?_) (fun hb=>?_)<;>cbv)|(refine aa (O.ar .add .i64 i 1,O.ar .add .i64 (k') 1,O.up (.s 1 (cur)) [(O.ad 0 i,0)] [.v (.int .i64 (k'))]) ?_ ?_ ?_;rotate_left 2;focus (cbv;done))
  all_goals((try subst hos);subst hO hr hF;(try simp only[af,SS,sa,az]at*);(try simp only[nc]at*);(try simp only[aF]at*))
  all_goals(try simp only[MIntS.F0]at*)
  all_goals try have hlt:i<es.length:=by assumption
  all_goals try rw[bP (n:=es.length) g0 hlt (by omega)]
  all_goals try have hlt':i.toNat<es.length:=by omega
  all_goals try have he:es.getD i.toNat []=[.v (.int .i64 (ab es i 0))]:=(aw hwf g0 hlt).symm
  all_goals try have hct:=aX (es:=es) (n:=i.toNat) (by omega);rw[he]at hct;simp only[bR,cv,Nat.add_zero,Nat.zero_add]at hct
  all_goals try have hks:=cX (es:=es) (k:=k) hlt';rw[he]at hks;simp only[fJ,eT]at hks
  all_goals try have hms:=dA (es:=es) (k:=k) hlt';rw[he]at hms;simp only[fJ,eT]at hms
  all_goals have hle1:=ap (es:=es) (n:=i.toNat+1)
  all_goals have hcE:aj es=es.length+aH es:=rfl
  all_goals have hk1:=bZ (es:=es) (k:=k) (n:=i.toNat)
  all_goals have hk2:=bZ (es:=es) (k:=k) (n:=i.toNat+1)
  all_goals have hk3:=dY (es:=es) (k:=k)
  all_goals have hk4:=bZ (es:=es) (k:=k) (n:=es.length)
  all_goals have hk5:=bu (es:=es) (m:=0) (n:=i.toNat) g1 (Nat.zero_le _)
  all_goals have hk6:=bu (es:=es) (m:=i.toNat) (n:=es.length) (Nat.le_refl _) g1
  all_goals try have hk7:=bu (es:=es) (m:=i.toNat+1) (n:=es.length) (Nat.le_refl _) hlt'
  all_goals rw[bB]at hk5
  all_goals try have hk8:=cW (es:=es) (n:=i.toNat) hlt'
  all_goals try have hcl:i.toNat<cur.length:=by rw[hc,b9 g1];exact hlt'
  all_goals try have hcg:cur.getD i.toNat []=[.v (.int .i64 (ab es i 0))]:=by rw[hc,cT g1];exact he
  all_goals have ha1:aV .add .i64 k' 1=k'+1:=aB (by omega)
  all_goals have ha2:aV .add .i64 (k'+1) 1=k'+1+1:=aB (by omega)
  all_goals have ha3:aV .add .i64 (k'+1+1) 1=k'+1+1+1:=aB (by omega)
  all_goals have ha4:aV .add .i64 (k'+1+1+1) 1=k'+1+1+1+1:=aB (by omega)
  all_goals try simp only[ha1,ha2,ha3,ha4]
  all_goals try simp only[az]
  all_goals try simp only[dE,hcg,List.take,List.drop,List.length_cons,List.length_nil,List.nil_append,List.cons_append,List.append_nil,Nat.zero_add,Nat.reduceAdd,aE hcl,List.set_set,List.append_assoc]
  all_goals try simp only[dw,hcg,aE hcl,List.getD_cons_zero,List.getD_cons_succ,tV]
  all_goals try simp only[dX hcl,dp hcl,ef hcl,dy hcl,hcg,List.getElem?_cons_zero,List.getElem?_cons_succ]
  all_goals first|exact⟨g0,hlt⟩|(refine⟨_,_,rfl,?_⟩;simp;done)|omega|(rw[hk',show i.toNat=es.length from by omega,hk3];done)|(rw[hc,show i.toNat=es.length from by omega,dz];rfl)|(rw[show(i+1).toNat=i.toNat+1 from by omega,hks,hk'];done)|(rw[show(i+1).toNat=i.toNat+1 from by omega, <-hms,hc,hk'];done)|trace_state
theorem cR (ms:List (List L))(k:Int)(hp:∃ es,ms=bN es k/\Rw [tI] es/\aj es<=1099511627776/\0<=k/\aS [ms] k<=1152921504606846976):aP Tryz.prog 34 [.one (.s 1 ms),.one (.v (.int .i64 k))] [.one (.v (.int .i64 (aS [ms] k)))]:=by
 obtain⟨es,hms,hw,hlim,hk0,hkb⟩:=hp;have hlen:es.length<=1099511627776:=Nat.le_trans (Nat.le_add_right _ _) hlim;have hml:ms.length=es.length:=by rw[hms];exact cB
 have hkk:aS [ms] k=aS [es] k:=by rw[hms];exact N0
 have hwm:Wf [.v (.int .i64 0)] ms:=by rw[hms];exact zh hw
 have hwf:Wf [.v (.int .i64 0)] es:=hw.wf;have hat:∀ n,n<es.length->ms.getD n []=(fJ (es.getD n []) (gP es k n)).1:=fun n hn=>by rw[hms];exact LR hn
 refine ai MIntS.B ag mixed 21 _ [3] [.tmp 4] Tryz.func34 rfl rfl rfl rfl rfl ?_;intro O r (F:MIntS.Fns) hO hr (hF:F=MIntS.F0);cbv;refine⟨[0,1,5],[],Int×Int,fun s=>match s with|(i,k')=>[.reg 5 (.one (.v (.int .i64 i))),.reg 1 (.one (.v (.int .i64 k')))],fun s=>0<=s.1/\s.1.toNat<=es.length/\s.2=gP es k s.1.toNat,fun s=>es.length-s.1.toNat,⟨(0,k),?_,?_⟩,?_⟩
 ·exact⟨by omega,Nat.zero_le _,bB.symm⟩
 ·cbv
 ·rintro⟨i,k'⟩ hi;replace hi:0<=i/\i.toNat<=es.length/\k'=gP es k i.toNat:=hi;obtain⟨g0,g1,hk'⟩:=hi;cbv
  repeat' first|refine And.intro ?_ ?_|(refine aG (fun hb=>?_) (fun hb=>?_)<;>cbv)|(refine aa (O.ar .add .i64 i 1,O.ar .add .i64 (k') 1) ?_ ?_ ?_;rotate_left 2;focus (cbv;done))
  all_goals(subst hO hr hF;(try simp only[af,SS,sa,az]at*);(try simp only[nc]at*);(try simp only[aF]at*))
  all_goals(try simp only[MIntS.F0]at*)
  all_goals try have hltm:i<ms.length:=by assumption
  all_goals try have hlt:i<es.length:=by omega
  all_goals try rw[bP (n:=es.length) g0 hlt (by omega)]
  all_goals try have hlt':i.toNat<es.length:=by omega
  all_goals try have he:es.getD i.toNat []=[.v (.int .i64 (ab es i 0))]:=(aw hwf g0 hlt).symm
  all_goals try have hct:=aX (es:=es) (n:=i.toNat) (by omega);rw[he]at hct;simp only[bR,cv,Nat.add_zero,Nat.zero_add]at hct
  all_goals try have hks:=cX (es:=es) (k:=k) hlt';rw[he]at hks;simp only[fJ,eT]at hks
  all_goals try have hem:([.v (.int .i64 (ab ms i 0))]:(List L))=_:=(aw hwm g0 hltm).trans (hat i.toNat hlt');rw[he]at hem;simp only[fJ,eT,List.cons.injEq,L.v.injEq,Value.int.injEq,Value.bool.injEq,L.s.injEq,true_and,and_true]at hem
  all_goals have hle1:=ap (es:=es) (n:=i.toNat+1)
  all_goals have hcE:aj es=es.length+aH es:=rfl
  all_goals have hk1:=bZ (es:=es) (k:=k) (n:=i.toNat)
  all_goals have hk2:=bZ (es:=es) (k:=k) (n:=i.toNat+1)
  all_goals have hk3:=dY (es:=es) (k:=k)
  all_goals have hk4:=bZ (es:=es) (k:=k) (n:=es.length)
  all_goals have hk5:=bu (es:=es) (m:=0) (n:=i.toNat) g1 (Nat.zero_le _)
  all_goals have hk6:=bu (es:=es) (m:=i.toNat) (n:=es.length) (Nat.le_refl _) g1
  all_goals try have hk7:=bu (es:=es) (m:=i.toNat+1) (n:=es.length) (Nat.le_refl _) hlt'
  all_goals rw[bB]at hk5
  all_goals try have hk8:=cW (es:=es) (n:=i.toNat) hlt'
  all_goals try rw[<-hk']at hem hks
  all_goals have ha1:aV .add .i64 k' 1=k'+1:=aB (by omega)
  all_goals have ha2:aV .add .i64 (k'+1) 1=k'+1+1:=aB (by omega)
  all_goals have ha3:aV .add .i64 (k'+1+1) 1=k'+1+1+1:=aB (by omega)
  all_goals have ha4:aV .add .i64 (k'+1+1+1) 1=k'+1+1+1+1:=aB (by omega)
  all_goals try simp only[ha1,ha2,ha3,ha4]at*
  all_goals first|exact bQ hwm g0 hltm|omega|(rw[hk',show i.toNat=es.length from by omega,hk3,hkk];done)|(rw[show(i+1).toNat=i.toNat+1 from by omega,hks];done)|trace_state
namespace LIntSS
structure Fns where
 szN:List (List (List L))->Int->Int
def F0 :Fns:=⟨aZ⟩
def ct (F:Fns):CT:=fun f ds=>match f,ds with
 |112,[.one (.s 1 es),.one (.v (.int .i64 left))]=>some (fun _=>Rw [tI] es/\0<=left/\left<=1048576,[.one (.v (.int .i64 (F.szN [es] left)))])
 |132,[.one (.s 1 es)]=>some (fun _=>Rw [tI] es/\aj es<=1048576,[.one (.s 1 es)])
 |31,[.one (.s 1 es),d]=>some (fun _=>d=.one (.s 1 es)/\Rw [tI] es/\aj es<=1099511627776,[.one (.v (.bool true))])
 |_,_=>none
theorem ak :aW Tryz.prog (ct F0):=by
 intro f ds pre res h hp;unfold ct at h;split at h<;>(try split at h)<;>cases h
 exact fj _ _ hp;exact fm _ hp;exact d9 _ _ hp
def B :TB Tryz.prog:=tb ak
end LIntSS
namespace MIntSS
structure Fns where
 kN:List (List (List L))->Int->Int
 mkN:List (List L)->Int->List (List L)
def F0 :Fns:=⟨aS,bN⟩
def ct (F:Fns):CT:=fun f ds=>match f,ds with
 |34,[.one (.s 1 ms),.one (.v (.int .i64 k))]=>some (fun _=>∃ es,ms=bN es k/\Rw [tI] es/\aj es<=1099511627776/\0<=k/\aS [ms] k<=1152921504606846976,[.one (.v (.int .i64 (F.kN [ms] k)))])
 |_,_=>none
theorem ak :aW Tryz.prog (ct F0):=by
 intro f ds pre res h hp;unfold ct at h;split at h<;>(try split at h)<;>cases h
 exact cR _ _ hp
def mt (F:Fns):MT:=fun f=>match f with
 | 33=>some fun ds=>match ds with
   |[.one (.s 1 es),.one (.v (.int .i64 k))]=>some (fun _=>Rw [tI] es/\aj es<=1099511627776/\0<=k/\aS [es] k<=1152921504606846976,[.s 1 (F.mkN es k)],[.one (.v (.int .i64 (F.kN [es] k)))])
   |_=>none
 |_=>none
theorem cL :ga Tryz.prog (mt F0):=by
 intro f mk h ds pre outs res hm hp;unfold mt at h;split at h
 ·cases h;dsimp only at hm;split at hm
  ·cases hm;exact cS _ _ hp
  ·cases hm
 ·cases h
def B :TB Tryz.prog:={Φ:=Fns,F0:=F0,ct:=ct,hc:=ak,mt:=mt,hm:=cL}
end MIntSS
theorem gp (es:List (List L))(left:Int)(hp:Rw [.sl [tI]] es/\0<=left/\left<=1048576):aP Tryz.prog 115 [.one (.s 1 es),.one (.v (.int .i64 left))] [.one (.v (.int .i64 (aZ [es] left)))]:=by
 obtain⟨hw,h0,h1⟩:=hp;have hwf:Wf [.s 1 []] es:=hw.wf;have hm:=hw.1;unfold maxLen at hm;have hs:aV .sub .i64 left es.length=left-es.length:=cH (by omega);have hcE:aj es=es.length+aH es:=rfl;have hn:aZ [es] left=if left<aj es then-1 else left-aj es:=by unfold aZ;rw[cz]
 refine ai LIntSS.B ag mixed 27 _ [3] [.tmp 4] Tryz.func115 rfl rfl rfl rfl rfl ?_;intro O r (F:LIntSS.Fns) hO hr (hF:F=LIntSS.F0);cbv;refine aG (fun hb=>?_) (fun hb=>?_)<;>cbv
 ·repeat' first|refine And.intro ?_ ?_|(refine aG (fun hb=>?_) (fun hb=>?_)<;>cbv)
  all_goals(subst hO hr hF;(try simp only[af,SS,sa,az]at*);(try simp only[nc]at*);(try simp only[aF]at*))
  all_goals(try simp only[hs,LIntSS.F0]at*)
  all_goals first|trivial|(rw[hn,if_pos (by omega)])|trace_state
 have hb0:0<=left-es.length:=by
  (subst hO hr hF;(try simp only[af,SS,sa,az]at*);(try simp only[nc]at*);(try simp only[aF]at*))
  rw[hs]at hb;exact hb
 clear hb;refine⟨[0,1,5],[],Int×Int,fun s=>match s with|(i,l)=>[.reg 5 (.one (.v (.int .i64 i))),.reg 1 (.one (.v (.int .i64 l)))],fun s=>0<=s.1/\s.1.toNat<=es.length/\0<=s.2/\s.2=left-es.length-aH (es.take s.1.toNat),fun s=>es.length-s.1.toNat,⟨(0,O.ar .sub .i64 left (O.zi (O.ln es))),?_,?_⟩,?_⟩
 ·(subst hO hr hF;(try simp only[af,SS,sa,az]at*);(try simp only[nc]at*);(try simp only[aF]at*))
  rw[hs];exact⟨by omega,Nat.zero_le _,hb0,by simp[aH]⟩
 ·cbv
 ·rintro⟨i,l⟩ hi;replace hi:0<=i/\i.toNat<=es.length/\0<=l/\l=left-es.length-aH (es.take i.toNat):=hi;obtain⟨g0,g1,g2,g3⟩:=hi;cbv
  repeat' first|refine And.intro ?_ ?_|(refine aG (fun hb=>?_) (fun hb=>?_)<;>cbv)|(refine aa (O.ar .add .i64 i 1,F.szN [O.gs es i 0] l) ?_ ?_ ?_;rotate_left 2;focus (cbv;done))
  all_goals(subst hO hr hF;(try simp only[af,SS,sa,az]at*);(try simp only[nc]at*);(try simp only[aF]at*))
  all_goals try have hlt:i<es.length:=by assumption
  all_goals try rw[bP (n:=es.length) g0 hlt (by omega)]
  all_goals(try simp only[LIntSS.F0]at*)
  all_goals try have he:es.getD i.toNat []=[.s 1 (ay es i 0)]:=(aw hwf g0 hlt).symm
  all_goals try have hr0:Rw [tI] (ay es i 0):=Rw.sub (fs:=[.sl [tI]]) hw (by omega) rfl
  all_goals try have hct:=aX (es:=es) (n:=i.toNat) (by omega);rw[he]at hct;simp only[bR,cv,Nat.add_zero,Nat.zero_add]at hct
  all_goals have hle:=ap (es:=es) (n:=i.toNat)
  all_goals have hle1:=ap (es:=es) (n:=i.toNat+1)
  all_goals have hsz:=eo (a:=[ay es i 0]) (left:=l)
  all_goals have hsz2:0<=aZ [ay es i 0] l->aZ [ay es i 0] l=l-ao [ay es i 0]:=kM
  all_goals simp only[ao,aj,Nat.add_zero]at hsz hsz2
  all_goals first|exact bQ hwf g0 hlt|exact⟨hr0,by omega,by omega⟩|trivial|omega|(rw[hn,if_pos];omega)|(rw[hn,if_neg (by rw[show i.toNat=es.length from by omega,List.take_length]at g3;omega),show l=left-aj es from by rw[show i.toNat=es.length from by omega,List.take_length]at g3;omega])|(rw[show(i+1).toNat=i.toNat+1 from by omega,hct];omega)|trace_state
theorem gq (es:List (List L))(hp:Rw [.sl [tI]] es/\aj es<=1048576):aP Tryz.prog 139 [.one (.s 1 es)] [.one (.s 1 es)]:=by
 obtain⟨hw,hlim⟩:=hp;have hwf:Wf [.s 1 []] es:=hw.wf;have hlen:es.length<=1048576:=Nat.le_trans (Nat.le_add_right _ _) hlim;refine ai LIntSS.B ag mixed 23 _ [22] [.tmp 2] Tryz.func139 rfl rfl rfl rfl rfl ?_;intro O r (F:LIntSS.Fns) hO hr (hF:F=LIntSS.F0);cbv;have h0z:bH es [.s 1 []] 0=O.rep (O.zi (O.ln es)) [.s 1 []]:=by
  subst hO;rw[cf];rfl
 refine⟨?_,?_,[0,3,4],[3],Int×List (List L),fun s=>[.reg 4 (.one (.v (.int .i64 s.1))),.leaf 3 0 ⟨0,0,none,.own (.s 1 s.2)⟩],fun s=>0<=s.1/\s.1.toNat<=es.length/\s.2=bH es [.s 1 []] s.1.toNat,fun s=>es.length-s.1.toNat,⟨(0,O.rep (O.zi (O.ln es)) [.s 1 []]),?_,?_⟩,?_⟩
 ·subst hO;exact iq (b:=24) (show es.length*_<=_ by omega) (show es.length<=_ by omega)
 ·subst hO;exact⟨rfl,rfl⟩
 ·exact⟨by omega,Nat.zero_le _,h0z.symm⟩
 ·cbv
 ·rintro⟨i,m⟩ hi;replace hi:0<=i/\i.toNat<=es.length/\m=bH es [.s 1 []] i.toNat:=hi;obtain⟨g0,g1,hm⟩:=hi;cbv
  repeat' first|refine And.intro ?_ ?_|(refine aG (fun hb=>?_) (fun hb=>?_)<;>cbv)|(refine aa (O.ar .add .i64 i 1,O.up (.s 1 m) [(O.ad 0 i,0)] [.s 1 (O.gs es i 0)]) ?_ ?_ ?_;rotate_left 2;focus (cbv;done))
  all_goals(subst hO hr hF;(try simp only[af,SS,sa,az]at*);(try simp only[nc]at*);(try simp only[aF]at*))
  all_goals(try simp only[LIntSS.F0,lL,List.length_replicate,Int.toNat_natCast]at*)
  all_goals try have hlt:i<es.length:=by assumption
  all_goals try rw[bP (n:=es.length) g0 hlt (by omega)]
  all_goals try have he:es.getD i.toNat []=[.s 1 (ay es i 0)]:=(aw hwf g0 hlt).symm
  all_goals try have hr0:Rw [tI] (ay es i 0):=Rw.sub (fs:=[.sl [tI]]) hw (by omega) rfl
  all_goals try have hct:=aX (es:=es) (n:=i.toNat) (by omega);rw[he]at hct;simp only[bR,cv,Nat.add_zero,Nat.zero_add]at hct
  all_goals have hle1:=ap (es:=es) (n:=i.toNat+1)
  all_goals have hcE:aj es=es.length+aH es:=rfl
  all_goals first|exact bQ hwf g0 hlt|exact⟨g0,hlt⟩|(rw[hm];exact cA (by rw[aI g1];omega) (by rw[aY (by omega)];exact Nat.le_refl _))|omega|(rw[show(i+1).toNat=i.toNat+1 from by omega, <-cJ (by omega), <-hm,dI (by rw[hm,aY (by omega)];rfl),he])|(rw[hm,aI g1];exact⟨trivial,rfl⟩)|(rw[hm,show i.toNat=es.length from by omega,cI])|trivial|(refine⟨hr0,?_⟩;simp only[ao,aj,Nat.add_zero];omega)|trace_state
theorem gn (es:List (List L))(d:DV)(hp:d=.one (.s 1 es)/\Rw [.sl [tI]] es/\aj es<=1099511627776):aP Tryz.prog 163 [.one (.s 1 es),d] [.one (.v (.bool true))]:=by
 obtain⟨rfl,hw,hlim⟩:=hp;have hwf:Wf [.s 1 []] es:=hw.wf;have hlen:es.length<=1099511627776:=Nat.le_trans (Nat.le_add_right _ _) hlim;refine ai LIntSS.B ag mixed 27 _ [4] [.tmp 4] Tryz.func163 rfl rfl rfl rfl rfl ?_;intro O r (F:LIntSS.Fns) hO hr (hF:F=LIntSS.F0);cbv;refine aG (fun hb=>?_) (fun hb=>?_)<;>cbv
 ·(subst hO hr hF;(try simp only[af,SS,sa,az]at*);(try simp only[nc]at*);(try simp only[aF]at*));exact absurd rfl hb
 ·clear hb;refine⟨[0,1,5],[],Int,fun i=>[.reg 5 (.one (.v (.int .i64 i)))],fun i=>0<=i/\i.toNat<=es.length,fun i=>es.length-i.toNat,⟨0,?_,?_⟩,?_⟩
  ·exact⟨by omega,Nat.zero_le _⟩
  ·cbv
  ·rintro i hi;replace hi:0<=i/\i.toNat<=es.length:=hi;obtain⟨g0,g1⟩:=hi;cbv
   repeat' first|refine And.intro ?_ ?_|(refine aG (fun hb=>?_) (fun hb=>?_)<;>cbv)|(refine aa (O.ar .add .i64 i 1) ?_ ?_ ?_;rotate_left 2;focus (cbv;done))
   all_goals(subst hO hr hF;(try simp only[af,SS,sa,az]at*);(try simp only[nc]at*);(try simp only[aF]at*))
   all_goals(try simp only[LIntSS.F0]at*)
   all_goals try have hlt:i<es.length:=by assumption
   all_goals try rw[bP (n:=es.length) g0 hlt (by omega)]
   all_goals try have he:es.getD i.toNat []=[.s 1 (ay es i 0)]:=(aw hwf g0 hlt).symm
   all_goals try have hr0:Rw [tI] (ay es i 0):=Rw.sub (fs:=[.sl [tI]]) hw (by omega) rfl
   all_goals try have hct:=aX (es:=es) (n:=i.toNat) (by omega);rw[he]at hct;simp only[bR,cv,Nat.add_zero,Nat.zero_add]at hct
   all_goals have hle1:=ap (es:=es) (n:=i.toNat+1)
   all_goals have hcE:aj es=es.length+aH es:=rfl
   all_goals first|omega|exact bQ hwf g0 hlt|trivial|(refine⟨trivial,hr0,?_⟩;simp only[ao,aj,Nat.add_zero];omega)|trace_state
theorem eX (es:List (List L))(k:Int)(hp:Rw [.sl [tI]] es/\aj es<=1099511627776/\0<=k/\aS [es] k<=1152921504606846976):eF Tryz.prog 192 [.one (.s 1 es),.one (.v (.int .i64 k))] [.s 1 (bN es k)] [.one (.v (.int .i64 (aS [es] k)))]:=by
 obtain⟨hw,hlim,hk0,hkb⟩:=hp;have hwf:Wf [.s 1 []] es:=hw.wf;have hlen:es.length<=1099511627776:=Nat.le_trans (Nat.le_add_right _ _) hlim;refine dd MIntSS.B ag mixed 19 _ [3] [.tmp 4] [(0,0)] Tryz.func192 rfl rfl rfl rfl rfl rfl rfl ?_;intro O r os (F:MIntSS.Fns) hO hr hos (hF:F=MIntSS.F0);cbv;refine⟨[0,1,5],[0],Int×Int×List (List L),fun s=>match s with|(i,k',cur)=>[.reg 5 (.one (.v (.int .i64 i))),.reg 1 (.one (.v (.int .i64 k'))),.leaf 0 0 ⟨0,0,some 0,.own (.s 1 cur)⟩],fun s=>0<=s.1/\s.1.toNat<=es.length/\s.2.1=gP es k s.1.toNat/\s.2.2=dQ es k s.1.toNat,fun s=>es.length-s.1.toNat,⟨(0,k,es),?_,?_⟩,?_⟩
 ·exact⟨by omega,Nat.zero_le _,bB.symm,cU.symm⟩
 ·cbv
 ·rintro⟨i,k',cur⟩ hi;replace hi:0<=i/\i.toNat<=es.length/\k'=gP es k i.toNat/\cur=dQ es k i.toNat:=hi;obtain⟨g0,g1,hk',hc⟩:=hi;cbv
  repeat' first|refine And.intro ?_ ?_|(refine aG (fun hb=>?_) (fun hb=>?_)<;>cbv)|(refine aa (O.ar .add .i64 i 1,F.kN [O.ps (.s 1 (cur)) [(O.ad 0 i,0)]] (k'),O.up (.s 1 (cur)) [(O.ad 0 i,0)] [.s 1 (F.mkN (O.ps (.s 1 (cur)) [(O.ad 0 i,0)]) (k'))]) ?_ ?_ ?_;rotate_left 2;focus (cbv;done))
  all_goals((try subst hos);subst hO hr hF;(try simp only[af,SS,sa,az]at*);(try simp only[nc]at*);(try simp only[aF]at*))
  all_goals(try simp only[MIntSS.F0]at*)
  all_goals try have hlt:i<es.length:=by assumption
  all_goals try rw[bP (n:=es.length) g0 hlt (by omega)]
  all_goals try have hlt':i.toNat<es.length:=by omega
  all_goals try have he:es.getD i.toNat []=[.s 1 (ay es i 0)]:=(aw hwf g0 hlt).symm
  all_goals try have hr0:Rw [tI] (ay es i 0):=Rw.sub (fs:=[.sl [tI]]) hw (by omega) rfl
  all_goals try have hct:=aX (es:=es) (n:=i.toNat) (by omega);rw[he]at hct;simp only[bR,cv,Nat.add_zero,Nat.zero_add]at hct
  all_goals try have hks:=cX (es:=es) (k:=k) hlt';rw[he]at hks;simp only[fJ,eT]at hks
  all_goals try have hms:=dA (es:=es) (k:=k) hlt';rw[he]at hms;simp only[fJ,eT]at hms
  all_goals have hle1:=ap (es:=es) (n:=i.toNat+1)
  all_goals have hcE:aj es=es.length+aH es:=rfl
  all_goals have hk1:=bZ (es:=es) (k:=k) (n:=i.toNat)
  all_goals have hk2:=bZ (es:=es) (k:=k) (n:=i.toNat+1)
  all_goals have hk3:=dY (es:=es) (k:=k)
  all_goals have hk4:=bZ (es:=es) (k:=k) (n:=es.length)
  all_goals have hk5:=bu (es:=es) (m:=0) (n:=i.toNat) g1 (Nat.zero_le _)
  all_goals have hk6:=bu (es:=es) (m:=i.toNat) (n:=es.length) (Nat.le_refl _) g1
  all_goals try have hk7:=bu (es:=es) (m:=i.toNat+1) (n:=es.length) (Nat.le_refl _) hlt'
  all_goals rw[bB]at hk5
  all_goals try have hk8:=cW (es:=es) (n:=i.toNat) hlt'
  all_goals try have hcl:i.toNat<cur.length:=by rw[hc,b9 g1];exact hlt'
  all_goals try have hcg:cur.getD i.toNat []=[.s 1 (ay es i 0)]:=by rw[hc,cT g1];exact he
  all_goals have ha1:aV .add .i64 k' 1=k'+1:=aB (by omega)
  all_goals have ha2:aV .add .i64 (k'+1) 1=k'+1+1:=aB (by omega)
  all_goals have ha3:aV .add .i64 (k'+1+1) 1=k'+1+1+1:=aB (by omega)
  all_goals have ha4:aV .add .i64 (k'+1+1+1) 1=k'+1+1+1+1:=aB (by omega)
  all_goals try simp only[ha1,ha2,ha3,ha4]
  all_goals try simp only[az]
  all_goals try simp only[dE,hcg,List.take,List.drop,List.length_cons,List.length_nil,List.nil_append,List.cons_append,List.append_nil,Nat.zero_add,Nat.reduceAdd,aE hcl,List.set_set,List.append_assoc]
  all_goals try simp only[dw,hcg,aE hcl,List.getD_cons_zero,List.getD_cons_succ,tV]
  all_goals try simp only[dX hcl,dp hcl,ef hcl,dy hcl,hcg,List.getElem?_cons_zero,List.getElem?_cons_succ]
  all_goals first|exact⟨g0,hlt⟩|(refine⟨_,_,rfl,by simp,?_⟩;show List.take _ (List.drop _ _)=[L.s _ (pc _ _)];simp only[pm,dw,hcg,aE hcl,List.getD_cons_zero,List.getD_cons_succ,Nat.add_zero,tV];rfl)|exact⟨trivial,_,rfl,rfl⟩|exact⟨_,rfl⟩|omega|(rw[hk',show i.toNat=es.length from by omega,hk3];done)|(rw[hc,show i.toNat=es.length from by omega,dz];rfl)|(rw[show(i+1).toNat=i.toNat+1 from by omega,hks,hk'];rfl)|(rw[show(i+1).toNat=i.toNat+1 from by omega, <-hms,hc,hk'];rfl)|(refine⟨hr0,?_,?_,?_⟩<;>(try simp only[aj,aS])<;>first|omega|(rw[hk'];omega))|trace_state
namespace LBoolS
structure Fns where
 no:Unit
def F0 :Fns:=⟨()⟩
def B :TB Tryz.prog:={Φ:=Fns,F0:=F0}
end LBoolS
namespace MBoolS
structure Fns where
 no:Unit
def F0 :Fns:=⟨()⟩
def B :TB Tryz.prog:={Φ:=Fns,F0:=F0}
end MBoolS
theorem rM (es:List (List L))(left:Int)(hp:Rw [tB] es/\0<=left/\left<=1048576):aP Tryz.prog 242 [.one (.s 1 es),.one (.v (.int .i64 left))] [.one (.v (.int .i64 (aZ [es] left)))]:=by
 obtain⟨hw,h0,h1⟩:=hp;have hc:aj es=es.length:=hw.cnt rfl;have hm:=hw.1;unfold maxLen at hm;have hs:aV .sub .i64 left es.length=left-es.length:=cH (by omega);have hn:aZ [es] left=if left<es.length then-1 else left-es.length:=by unfold aZ;rw[cz,hc]
 refine ai LBoolS.B ag mixed 12 _ [3] [.tmp 4] Tryz.func242 rfl rfl rfl rfl rfl ?_;intro O r (F:LBoolS.Fns) hO hr (hF:F=LBoolS.F0);cbv
 repeat' first|refine And.intro ?_ ?_|(refine aG (fun hb=>?_) (fun hb=>?_)<;>cbv)
 all_goals(subst hO hr hF;(try simp only[af,SS,sa,az]at*);(try simp only[nc]at*);(try simp only[aF]at*))
 all_goals(try simp only[hs,LBoolS.F0]at*)
 all_goals first|trivial|(rw[hn,if_pos (by omega)])|(rw[hn,if_neg (by omega)])
theorem rR (es:List (List L))(hp:Rw [tB] es/\aj es<=1048576):aP Tryz.prog 247 [.one (.s 1 es)] [.one (.s 1 es)]:=by
 obtain⟨hw,hlim⟩:=hp;have hwf:Wf [.v (.bool false)] es:=hw.wf;have hlen:es.length<=1048576:=Nat.le_trans (Nat.le_add_right _ _) hlim;refine ai LBoolS.B ag mixed 22 _ [23] [.tmp 2] Tryz.func247 rfl rfl rfl rfl rfl ?_;intro O r (F:LBoolS.Fns) hO hr (hF:F=LBoolS.F0);cbv;have h0z:bH es [.v (.bool false)] 0=O.rep (O.zi (O.ln es)) [.v (.bool false)]:=by
  subst hO;rw[cf];rfl
 refine⟨?_,?_,[0,3,4],[3],Int×List (List L),fun s=>[.reg 4 (.one (.v (.int .i64 s.1))),.leaf 3 0 ⟨0,0,none,.own (.s 1 s.2)⟩],fun s=>0<=s.1/\s.1.toNat<=es.length/\s.2=bH es [.v (.bool false)] s.1.toNat,fun s=>es.length-s.1.toNat,⟨(0,O.rep (O.zi (O.ln es)) [.v (.bool false)]),?_,?_⟩,?_⟩
 ·subst hO;exact iq (b:=1) (show es.length*_<=_ by omega) (show es.length<=_ by omega)
 ·subst hO;exact⟨rfl,rfl⟩
 ·exact⟨by omega,Nat.zero_le _,h0z.symm⟩
 ·cbv
 ·rintro⟨i,m⟩ hi;replace hi:0<=i/\i.toNat<=es.length/\m=bH es [.v (.bool false)] i.toNat:=hi;obtain⟨g0,g1,hm⟩:=hi;cbv
  repeat' first|refine And.intro ?_ ?_|(refine aG (fun hb=>?_) (fun hb=>?_)<;>cbv)|(refine aa (O.ar .add .i64 i 1,O.up (.s 1 m) [(O.ad 0 i,0)] [.v (.bool (O.gb es i 0))]) ?_ ?_ ?_;rotate_left 2;focus (cbv;done))
  all_goals(subst hO hr hF;(try simp only[af,SS,sa,az]at*);(try simp only[nc]at*);(try simp only[aF]at*))
  all_goals(try simp only[LBoolS.F0,lL,List.length_replicate,Int.toNat_natCast]at*)
  all_goals try have hlt:i<es.length:=by assumption
  all_goals try rw[bP (n:=es.length) g0 hlt (by omega)]
  all_goals try have he:es.getD i.toNat []=[.v (.bool (jD es i 0))]:=(aw hwf g0 hlt).symm
  all_goals try have hct:=aX (es:=es) (n:=i.toNat) (by omega);rw[he]at hct;simp only[bR,cv,Nat.add_zero,Nat.zero_add]at hct
  all_goals have hle1:=ap (es:=es) (n:=i.toNat+1)
  all_goals have hcE:aj es=es.length+aH es:=rfl
  all_goals first|exact bQ hwf g0 hlt|exact⟨g0,hlt⟩|(rw[hm];exact cA (by rw[aI g1];omega) (by rw[aY (by omega)];exact Nat.le_refl _))|omega|(rw[show(i+1).toNat=i.toNat+1 from by omega, <-cJ (by omega), <-hm,dI (by rw[hm,aY (by omega)];rfl),he])|(rw[hm,aI g1];exact⟨trivial,rfl⟩)|(rw[hm,show i.toNat=es.length from by omega,cI])|trace_state
theorem rC (es:List (List L))(d:DV)(hp:d=.one (.s 1 es)/\Rw [tB] es/\aj es<=1099511627776):aP Tryz.prog 259 [.one (.s 1 es),d] [.one (.v (.bool true))]:=by
 obtain⟨rfl,hw,hlim⟩:=hp;have hwf:Wf [.v (.bool false)] es:=hw.wf;have hlen:es.length<=1099511627776:=Nat.le_trans (Nat.le_add_right _ _) hlim;refine ai LBoolS.B ag mixed 26 _ [4] [.tmp 4] Tryz.func259 rfl rfl rfl rfl rfl ?_;intro O r (F:LBoolS.Fns) hO hr (hF:F=LBoolS.F0);cbv;refine aG (fun hb=>?_) (fun hb=>?_)<;>cbv
 ·(subst hO hr hF;(try simp only[af,SS,sa,az]at*);(try simp only[nc]at*);(try simp only[aF]at*));exact absurd rfl hb
 ·clear hb;refine⟨[0,1,5],[],Int,fun i=>[.reg 5 (.one (.v (.int .i64 i)))],fun i=>0<=i/\i.toNat<=es.length,fun i=>es.length-i.toNat,⟨0,?_,?_⟩,?_⟩
  ·exact⟨by omega,Nat.zero_le _⟩
  ·cbv
  ·rintro i hi;replace hi:0<=i/\i.toNat<=es.length:=hi;obtain⟨g0,g1⟩:=hi;cbv
   repeat' first|refine And.intro ?_ ?_|(refine aG (fun hb=>?_) (fun hb=>?_)<;>cbv)|(refine aa (O.ar .add .i64 i 1) ?_ ?_ ?_;rotate_left 2;focus (cbv;done))
   all_goals(subst hO hr hF;(try simp only[af,SS,sa,az]at*);(try simp only[nc]at*);(try simp only[aF]at*))
   all_goals(try simp only[LBoolS.F0]at*)
   all_goals try have hlt:i<es.length:=by assumption
   all_goals try rw[bP (n:=es.length) g0 hlt (by omega)]
   all_goals try have he:es.getD i.toNat []=[.v (.bool (jD es i 0))]:=(aw hwf g0 hlt).symm
   all_goals try have hct:=aX (es:=es) (n:=i.toNat) (by omega);rw[he]at hct;simp only[bR,cv,Nat.add_zero,Nat.zero_add]at hct
   all_goals have hle1:=ap (es:=es) (n:=i.toNat+1)
   all_goals have hcE:aj es=es.length+aH es:=rfl
   all_goals first|omega|exact bQ hwf g0 hlt|exact absurd rfl hb|trivial|trace_state
theorem nF (es:List (List L))(k:Int)(hp:Rw [tB] es/\aj es<=1099511627776/\0<=k/\aS [es] k<=1152921504606846976):eF Tryz.prog 262 [.one (.s 1 es),.one (.v (.int .i64 k))] [.s 1 (bN es k)] [.one (.v (.int .i64 (aS [es] k)))]:=by
 obtain⟨hw,hlim,hk0,hkb⟩:=hp;have hwf:Wf [.v (.bool false)] es:=hw.wf;have hlen:es.length<=1099511627776:=Nat.le_trans (Nat.le_add_right _ _) hlim;refine dd MBoolS.B ag mixed 21 _ [3] [.tmp 4] [(0,0)] Tryz.func262 rfl rfl rfl rfl rfl rfl rfl ?_;intro O r os (F:MBoolS.Fns) hO hr hos (hF:F=MBoolS.F0);cbv;refine⟨[0,1,5],[0],Int×Int×List (List L),fun s=>match s with|(i,k',cur)=>[.reg 5 (.one (.v (.int .i64 i))),.reg 1 (.one (.v (.int .i64 k'))),.leaf 0 0 ⟨0,0,some 0,.own (.s 1 cur)⟩],fun s=>0<=s.1/\s.1.toNat<=es.length/\s.2.1=gP es k s.1.toNat/\s.2.2=dQ es k s.1.toNat,fun s=>es.length-s.1.toNat,⟨(0,k,es),?_,?_⟩,?_⟩
 ·exact⟨by omega,Nat.zero_le _,bB.symm,cU.symm⟩
 ·cbv
 ·rintro⟨i,k',cur⟩ hi;replace hi:0<=i/\i.toNat<=es.length/\k'=gP es k i.toNat/\cur=dQ es k i.toNat:=hi;obtain⟨g0,g1,hk',hc⟩:=hi;cbv
  repeat' first|refine And.intro ?_ ?_|(refine aG (fun hb=>?_) (fun hb=>?_)<;>cbv)|(refine aa (O.ar .add .i64 i 1,O.ar .add .i64 (k') 1,O.up (.s 1 (cur)) [(O.ad 0 i,0)] [.v (.bool (O.cmp .eql (O.ar .rem .i64 (k') 3) 0))]) ?_ ?_ ?_;rotate_left 2;focus (cbv;done))
  all_goals((try subst hos);subst hO hr hF;(try simp only[af,SS,sa,az]at*);(try simp only[nc]at*);(try simp only[aF]at*))
  all_goals(try simp only[MBoolS.F0]at*)
  all_goals try have hlt:i<es.length:=by assumption
  all_goals try rw[bP (n:=es.length) g0 hlt (by omega)]
  all_goals try have hlt':i.toNat<es.length:=by omega
  all_goals try have he:es.getD i.toNat []=[.v (.bool (jD es i 0))]:=(aw hwf g0 hlt).symm
  all_goals try have hct:=aX (es:=es) (n:=i.toNat) (by omega);rw[he]at hct;simp only[bR,cv,Nat.add_zero,Nat.zero_add]at hct
  all_goals try have hks:=cX (es:=es) (k:=k) hlt';rw[he]at hks;simp only[fJ,eT]at hks
  all_goals try have hms:=dA (es:=es) (k:=k) hlt';rw[he]at hms;simp only[fJ,eT]at hms
  all_goals have hle1:=ap (es:=es) (n:=i.toNat+1)
  all_goals have hcE:aj es=es.length+aH es:=rfl
  all_goals have hk1:=bZ (es:=es) (k:=k) (n:=i.toNat)
  all_goals have hk2:=bZ (es:=es) (k:=k) (n:=i.toNat+1)
  all_goals have hk3:=dY (es:=es) (k:=k)
  all_goals have hk4:=bZ (es:=es) (k:=k) (n:=es.length)
  all_goals have hk5:=bu (es:=es) (m:=0) (n:=i.toNat) g1 (Nat.zero_le _)
  all_goals have hk6:=bu (es:=es) (m:=i.toNat) (n:=es.length) (Nat.le_refl _) g1
  all_goals try have hk7:=bu (es:=es) (m:=i.toNat+1) (n:=es.length) (Nat.le_refl _) hlt'
  all_goals rw[bB]at hk5
  all_goals try have hk8:=cW (es:=es) (n:=i.toNat) hlt'
  all_goals try have hcl:i.toNat<cur.length:=by rw[hc,b9 g1];exact hlt'
  all_goals try have hcg:cur.getD i.toNat []=[.v (.bool (jD es i 0))]:=by rw[hc,cT g1];exact he
  all_goals have ha1:aV .add .i64 k' 1=k'+1:=aB (by omega)
  all_goals have ha2:aV .add .i64 (k'+1) 1=k'+1+1:=aB (by omega)
  all_goals have ha3:aV .add .i64 (k'+1+1) 1=k'+1+1+1:=aB (by omega)
  all_goals have ha4:aV .add .i64 (k'+1+1+1) 1=k'+1+1+1+1:=aB (by omega)
  all_goals try simp only[ha1,ha2,ha3,ha4]
  all_goals try simp only[az]
  all_goals try simp only[dE,hcg,List.take,List.drop,List.length_cons,List.length_nil,List.nil_append,List.cons_append,List.append_nil,Nat.zero_add,Nat.reduceAdd,aE hcl,List.set_set,List.append_assoc]
  all_goals try simp only[dw,hcg,aE hcl,List.getD_cons_zero,List.getD_cons_succ,tV]
  all_goals try simp only[dX hcl,dp hcl,ef hcl,dy hcl,hcg,List.getElem?_cons_zero,List.getElem?_cons_succ]
  all_goals first|exact⟨g0,hlt⟩|(refine⟨_,_,rfl,?_⟩;simp;done)|omega|(rw[hk',show i.toNat=es.length from by omega,hk3];done)|(rw[hc,show i.toNat=es.length from by omega,dz];rfl)|(rw[show(i+1).toNat=i.toNat+1 from by omega,hks,hk'];done)|(rw[show(i+1).toNat=i.toNat+1 from by omega, <-hms,hc,hk'];rfl)|trace_state
namespace LFrames
structure Fns where
 szN:List (List (List L))->Int->Int
def F0 :Fns:=⟨aZ⟩
def ct (F:Fns):CT:=fun f ds=>match f,ds with
 |115,[.one (.s 1 es),.one (.v (.int .i64 left))]=>some (fun _=>Rw [.sl [tI]] es/\0<=left/\left<=1048576,[.one (.v (.int .i64 (F.szN [es] left)))])
 |139,[.one (.s 1 es)]=>some (fun _=>Rw [.sl [tI]] es/\aj es<=1048576,[.one (.s 1 es)])
 |163,[.one (.s 1 es),d]=>some (fun _=>d=.one (.s 1 es)/\Rw [.sl [tI]] es/\aj es<=1099511627776,[.one (.v (.bool true))])
 |242,[.one (.s 1 es),.one (.v (.int .i64 left))]=>some (fun _=>Rw [tB] es/\0<=left/\left<=1048576,[.one (.v (.int .i64 (F.szN [es] left)))])
 |247,[.one (.s 1 es)]=>some (fun _=>Rw [tB] es/\aj es<=1048576,[.one (.s 1 es)])
 |259,[.one (.s 1 es),d]=>some (fun _=>d=.one (.s 1 es)/\Rw [tB] es/\aj es<=1099511627776,[.one (.v (.bool true))])
 |_,_=>none
theorem ak :aW Tryz.prog (ct F0):=by
 intro f ds pre res h hp;unfold ct at h;split at h<;>(try split at h)<;>cases h
 exact gp _ _ hp;exact gq _ hp;exact gn _ _ hp;exact rM _ _ hp;exact rR _ hp;exact rC _ _ hp
def B :TB Tryz.prog:=tb ak
end LFrames
namespace MFrames
structure Fns where
 kN:List (List (List L))->Int->Int
 mkN:List (List L)->Int->List (List L)
def F0 :Fns:=⟨aS,bN⟩
def mt (F:Fns):MT:=fun f=>match f with
 | 192=>some fun ds=>match ds with
   |[.one (.s 1 es),.one (.v (.int .i64 k))]=>some (fun _=>Rw [.sl [tI]] es/\aj es<=1099511627776/\0<=k/\aS [es] k<=1152921504606846976,[.s 1 (F.mkN es k)],[.one (.v (.int .i64 (F.kN [es] k)))])
   |_=>none
 | 262=>some fun ds=>match ds with
   |[.one (.s 1 es),.one (.v (.int .i64 k))]=>some (fun _=>Rw [tB] es/\aj es<=1099511627776/\0<=k/\aS [es] k<=1152921504606846976,[.s 1 (F.mkN es k)],[.one (.v (.int .i64 (F.kN [es] k)))])
   |_=>none
 |_=>none
theorem cL :ga Tryz.prog (mt F0):=by
 intro f mk h ds pre outs res hm hp;unfold mt at h;split at h
 ·cases h;dsimp only at hm;split at hm
  ·cases hm;exact eX _ _ hp
  ·cases hm
 ·cases h;dsimp only at hm;split at hm
  ·cases hm;exact nF _ _ hp
  ·cases hm
 ·cases h
def B :TB Tryz.prog:={Φ:=Fns,F0:=F0,mt:=mt,hm:=cL}
end MFrames
theorem pV (a0 a1:List (List L))(left:Int)(hp:Rw [.sl [tI]] a0/\Rw [tB] a1/\0<=left/\left<=1048576):aP Tryz.prog 196 [.agg [.s 1 a0,.s 1 a1],.one (.v (.int .i64 left))] [.one (.v (.int .i64 (aZ [a0,a1] left)))]:=by
 obtain⟨w0,w1,h0,h1⟩:=hp;refine ai LFrames.B ag mixed 18 _ [3] [.tmp 4] Tryz.func196 rfl rfl rfl rfl rfl ?_;intro O r (F:LFrames.Fns) hO hr (hF:F=LFrames.F0);cbv
 repeat' first|refine And.intro ?_ ?_|(refine aG (fun hb=>?_) (fun hb=>?_)<;>cbv)
 all_goals(subst hO hr hF;(try simp only[af,SS,sa,az]at*);(try simp only[nc]at*);(try simp only[aF]at*))
 all_goals(try simp only[LFrames.F0]at*)
 all_goals(try simp(disch:=assumption) only[eh,List.cons_append,List.nil_append]at*)
 all_goals first|trivial|(refine⟨by assumption,by omega,by first|omega|exact Int.le_trans (lO (by assumption)) h1⟩)|(rw[dD (by assumption)])|exact congrArg (fun x=>[DV.one (L.v (Value.int IntKind.i64 x))]) (dC (a:=[a0]) (b:=[a1]) (by assumption)).symm|trace_state
theorem qf (a0 a1:List (List L))(hp:Rw [.sl [tI]] a0/\Rw [tB] a1/\ao [a0,a1]<=1048576):aP Tryz.prog 210 [.agg [.s 1 a0,.s 1 a1]] [.agg [.s 1 a0,.s 1 a1]]:=by
 obtain⟨w0,w1,hlim⟩:=hp;simp only[ao,Nat.add_zero]at hlim;refine ai LFrames.B ag mixed 13 _ [53] [.cell 2 53] Tryz.func210 rfl rfl rfl rfl rfl ?_;intro O r (F:LFrames.Fns) hO hr (hF:F=LFrames.F0);cbv
 repeat' first|refine And.intro ?_ ?_|(refine aG (fun hb=>?_) (fun hb=>?_)<;>cbv)
 all_goals(subst hO hr hF;(try simp only[af,SS,sa,az]at*);(try simp only[nc]at*);(try simp only[aF]at*))
 all_goals(try simp only[LFrames.F0]at*)
 all_goals first|trivial|(refine⟨by assumption,?_⟩;(try simp only[ao,Nat.add_zero]);omega)|trace_state
theorem pH (a0 a1:List (List L))(d:DV)(hp:d=.agg [.s 1 a0,.s 1 a1]/\Rw [.sl [tI]] a0/\Rw [tB] a1/\ao [a0,a1]<=1099511627776):aP Tryz.prog 229 [.agg [.s 1 a0,.s 1 a1],d] [.one (.v (.bool true))]:=by
 obtain⟨rfl,w0,w1,hlim⟩:=hp;simp only[ao,Nat.add_zero]at hlim;refine ai LFrames.B ag mixed 17 _ [4] [.tmp 4] Tryz.func229 rfl rfl rfl rfl rfl ?_;intro O r (F:LFrames.Fns) hO hr (hF:F=LFrames.F0);cbv
 repeat' first|refine And.intro ?_ ?_|(refine aG (fun hb=>?_) (fun hb=>?_)<;>cbv)
 all_goals(subst hO hr hF;(try simp only[af,SS,sa,az]at*);(try simp only[nc]at*);(try simp only[aF]at*))
 all_goals(try simp only[LFrames.F0]at*)
 all_goals first|trivial|(refine⟨trivial,by assumption,?_⟩;(try simp only[ao,Nat.add_zero]);omega)|trace_state
theorem l9 (a0 a1:List (List L))(k:Int)(hp:Rw [.sl [tI]] a0/\Rw [tB] a1/\ao [a0,a1]<=1099511627776/\0<=k/\aS [a0,a1] k<=1152921504606846976):eF Tryz.prog 239 [.agg [.s 1 a0,.s 1 a1],.one (.v (.int .i64 k))] [.s 1 (bN a0 k),.s 1 (bN a1 (aS [a0] k))] [.one (.v (.int .i64 (aS [a0,a1] k)))]:=by
 obtain⟨w0,w1,hlim,hk0,hkb⟩:=hp;simp only[ao,Nat.add_zero]at hlim;have p0:aS [a0] k<=aS [a0,a1] k/\0<=aS [a0] k:=ca (b:=[a1]) hk0;have p1:aS [a0,a1] k<=aS [a0,a1] k/\0<=aS [a0,a1] k:=ca (b:=[]) hk0;refine dd MFrames.B ag mixed 14 _ [3] [.tmp 4] [(2,0),(2,1)] Tryz.func239 rfl rfl rfl rfl rfl rfl rfl ?_;intro O r os (F:MFrames.Fns) hO hr hos (hF:F=MFrames.F0);cbv
 repeat' first|refine And.intro ?_ ?_|(refine aG (fun hb=>?_) (fun hb=>?_)<;>cbv)
 all_goals((try subst hos);subst hO hr hF;(try simp only[af,SS,sa,az]at*);(try simp only[nc]at*);(try simp only[aF]at*))
 all_goals(try simp only[MFrames.F0]at*)
 all_goals(try simp only[dO,List.cons_append,List.nil_append,cB]at*)
 all_goals first|trivial|(refine⟨by assumption,?_,?_,?_⟩<;>(try simp only[dO,List.cons_append,List.nil_append,ao,Nat.add_zero])<;>omega)|trace_state
namespace LEntry
structure Fns where
 no:Unit
def F0 :Fns:=⟨()⟩
def B :TB Tryz.prog:={Φ:=Fns,F0:=F0}
end LEntry
theorem rT (a0 a1:Int)(hp:True):aP Tryz.prog 264 [.agg [.v (.int .i64 a0),.v (.int .i64 a1)]] [.agg [.v (.int .i64 a0),.v (.int .i64 a1)]]:=by
 refine ai LEntry.B ag mixed 11 _ [138] [.cell 2 138] Tryz.func264 rfl rfl rfl rfl rfl ?_;intro O r (F:LEntry.Fns) hO hr (hF:F=LEntry.F0);cbv
 repeat' first|refine And.intro ?_ ?_|(refine aG (fun hb=>?_) (fun hb=>?_)<;>cbv)
 all_goals(subst hO hr hF;(try simp only[af,SS,sa,az]at*);(try simp only[nc]at*);(try simp only[aF]at*))
 all_goals(try simp only[LEntry.F0]at*)
 all_goals first|trivial|trace_state
theorem rE (a0 a1:Int)(d:DV)(hp:d=.agg [.v (.int .i64 a0),.v (.int .i64 a1)]):aP Tryz.prog 270 [.agg [.v (.int .i64 a0),.v (.int .i64 a1)],d] [.one (.v (.bool true))]:=by
 subst hp;refine ai LEntry.B ag mixed 15 _ [4] [.tmp 4] Tryz.func270 rfl rfl rfl rfl rfl ?_;intro O r (F:LEntry.Fns) hO hr (hF:F=LEntry.F0);cbv
 repeat' first|refine And.intro ?_ ?_|(refine aG (fun hb=>?_) (fun hb=>?_)<;>cbv)
 all_goals(subst hO hr hF;(try simp only[af,SS,sa,az]at*);(try simp only[nc]at*);(try simp only[aF]at*))
 all_goals(try simp only[LEntry.F0]at*)
 all_goals first|trivial|trace_state
namespace LEntryS
structure Fns where
 no:Unit
def F0 :Fns:=⟨()⟩
def ct (F:Fns):CT:=fun f ds=>match f,ds with
 |264,[.agg [.v (.int .i64 a0),.v (.int .i64 a1)]]=>some (fun _=>True,[.agg [.v (.int .i64 a0),.v (.int .i64 a1)]])
 |270,[.agg [.v (.int .i64 a0),.v (.int .i64 a1)],d]=>some (fun _=>d=.agg [.v (.int .i64 a0),.v (.int .i64 a1)],[.one (.v (.bool true))])
 |_,_=>none
theorem ak :aW Tryz.prog (ct F0):=by
 intro f ds pre res h hp;unfold ct at h;split at h<;>(try split at h)<;>cases h
 exact rT _ _ hp;exact rE _ _ _ hp
def B :TB Tryz.prog:=tb ak
end LEntryS
namespace MEntryS
structure Fns where
 no:Unit
def F0 :Fns:=⟨()⟩
def B :TB Tryz.prog:={Φ:=Fns,F0:=F0}
end MEntryS
theorem pU (es:List (List L))(left:Int)(hp:Rw [tI,tI] es/\0<=left/\left<=1048576):aP Tryz.prog 243 [.one (.s 2 es),.one (.v (.int .i64 left))] [.one (.v (.int .i64 (aZ [es] left)))]:=by
 obtain⟨hw,h0,h1⟩:=hp;have hc:aj es=es.length:=hw.cnt rfl;have hm:=hw.1;unfold maxLen at hm;have hs:aV .sub .i64 left es.length=left-es.length:=cH (by omega);have hn:aZ [es] left=if left<es.length then-1 else left-es.length:=by unfold aZ;rw[cz,hc]
 refine ai LEntryS.B ag mixed 12 _ [3] [.tmp 4] Tryz.func243 rfl rfl rfl rfl rfl ?_;intro O r (F:LEntryS.Fns) hO hr (hF:F=LEntryS.F0);cbv
 repeat' first|refine And.intro ?_ ?_|(refine aG (fun hb=>?_) (fun hb=>?_)<;>cbv)
 all_goals(subst hO hr hF;(try simp only[af,SS,sa,az]at*);(try simp only[nc]at*);(try simp only[aF]at*))
 all_goals(try simp only[hs,LEntryS.F0]at*)
 all_goals first|trivial|(rw[hn,if_pos (by omega)])|(rw[hn,if_neg (by omega)])
theorem qe (es:List (List L))(hp:Rw [tI,tI] es/\aj es<=1048576):aP Tryz.prog 248 [.one (.s 2 es)] [.one (.s 2 es)]:=by
 obtain⟨hw,hlim⟩:=hp;have hwf:Wf [.v (.int .i64 0),.v (.int .i64 0)] es:=hw.wf;have hlen:es.length<=1048576:=Nat.le_trans (Nat.le_add_right _ _) hlim;refine ai LEntryS.B ag mixed 23 _ [54] [.tmp 2] Tryz.func248 rfl rfl rfl rfl rfl ?_;intro O r (F:LEntryS.Fns) hO hr (hF:F=LEntryS.F0);cbv;have h0z:bH es [.v (.int .i64 0),.v (.int .i64 0)] 0=O.rep (O.zi (O.ln es)) [.v (.int .i64 0),.v (.int .i64 0)]:=by
  subst hO;rw[cf];rfl
 refine⟨?_,?_,[0,3,4],[3],Int×List (List L),fun s=>[.reg 4 (.one (.v (.int .i64 s.1))),.leaf 3 0 ⟨0,0,none,.own (.s 2 s.2)⟩],fun s=>0<=s.1/\s.1.toNat<=es.length/\s.2=bH es [.v (.int .i64 0),.v (.int .i64 0)] s.1.toNat,fun s=>es.length-s.1.toNat,⟨(0,O.rep (O.zi (O.ln es)) [.v (.int .i64 0),.v (.int .i64 0)]),?_,?_⟩,?_⟩
 ·subst hO;exact iq (b:=16) (show es.length*_<=_ by omega) (show es.length<=_ by omega)
 ·subst hO;exact⟨rfl,rfl⟩
 ·exact⟨by omega,Nat.zero_le _,h0z.symm⟩
 ·cbv
 ·rintro⟨i,m⟩ hi;replace hi:0<=i/\i.toNat<=es.length/\m=bH es [.v (.int .i64 0),.v (.int .i64 0)] i.toNat:=hi;obtain⟨g0,g1,hm⟩:=hi;cbv
  repeat' first|refine And.intro ?_ ?_|(refine aG (fun hb=>?_) (fun hb=>?_)<;>cbv)|(refine aa (O.ar .add .i64 i 1,O.up (.s 2 m) [(O.ad 0 i,0)] [.v (.int .i64 (O.gi es i 0)),.v (.int .i64 (O.gi es i 1))]) ?_ ?_ ?_;rotate_left 2;focus (cbv;done))
  all_goals(subst hO hr hF;(try simp only[af,SS,sa,az]at*);(try simp only[nc]at*);(try simp only[aF]at*))
  all_goals(try simp only[LEntryS.F0,lL,List.length_replicate,Int.toNat_natCast]at*)
  all_goals try have hlt:i<es.length:=by assumption
  all_goals try rw[bP (n:=es.length) g0 hlt (by omega)]
  all_goals try have he:es.getD i.toNat []=[.v (.int .i64 (ab es i 0)),.v (.int .i64 (ab es i 1))]:=(aw hwf g0 hlt).symm
  all_goals try have hct:=aX (es:=es) (n:=i.toNat) (by omega);rw[he]at hct;simp only[bR,cv,Nat.add_zero,Nat.zero_add]at hct
  all_goals have hle1:=ap (es:=es) (n:=i.toNat+1)
  all_goals have hcE:aj es=es.length+aH es:=rfl
  all_goals first|exact bQ hwf g0 hlt|exact⟨g0,hlt⟩|(rw[hm];exact cA (by rw[aI g1];omega) (by rw[aY (by omega)];exact Nat.le_refl _))|omega|(rw[show(i+1).toNat=i.toNat+1 from by omega, <-cJ (by omega), <-hm,dI (by rw[hm,aY (by omega)];rfl),he])|(rw[hm,aI g1];exact⟨trivial,rfl⟩)|(rw[hm,show i.toNat=es.length from by omega,cI])|trace_state
theorem pG (es:List (List L))(d:DV)(hp:d=.one (.s 2 es)/\Rw [tI,tI] es/\aj es<=1099511627776):aP Tryz.prog 260 [.one (.s 2 es),d] [.one (.v (.bool true))]:=by
 obtain⟨rfl,hw,hlim⟩:=hp;have hwf:Wf [.v (.int .i64 0),.v (.int .i64 0)] es:=hw.wf;have hlen:es.length<=1099511627776:=Nat.le_trans (Nat.le_add_right _ _) hlim;refine ai LEntryS.B ag mixed 27 _ [4] [.tmp 4] Tryz.func260 rfl rfl rfl rfl rfl ?_;intro O r (F:LEntryS.Fns) hO hr (hF:F=LEntryS.F0);cbv;refine aG (fun hb=>?_) (fun hb=>?_)<;>cbv
 ·(subst hO hr hF;(try simp only[af,SS,sa,az]at*);(try simp only[nc]at*);(try simp only[aF]at*));exact absurd rfl hb
 ·clear hb;refine⟨[0,1,5],[],Int,fun i=>[.reg 5 (.one (.v (.int .i64 i)))],fun i=>0<=i/\i.toNat<=es.length,fun i=>es.length-i.toNat,⟨0,?_,?_⟩,?_⟩
  ·exact⟨by omega,Nat.zero_le _⟩
  ·cbv
  ·rintro i hi;replace hi:0<=i/\i.toNat<=es.length:=hi;obtain⟨g0,g1⟩:=hi;cbv
   repeat' first|refine And.intro ?_ ?_|(refine aG (fun hb=>?_) (fun hb=>?_)<;>cbv)|(refine aa (O.ar .add .i64 i 1) ?_ ?_ ?_;rotate_left 2;focus (cbv;done))
   all_goals(subst hO hr hF;(try simp only[af,SS,sa,az]at*);(try simp only[nc]at*);(try simp only[aF]at*))
   all_goals(try simp only[LEntryS.F0]at*)
   all_goals try have hlt:i<es.length:=by assumption
   all_goals try rw[bP (n:=es.length) g0 hlt (by omega)]
   all_goals try have he:es.getD i.toNat []=[.v (.int .i64 (ab es i 0)),.v (.int .i64 (ab es i 1))]:=(aw hwf g0 hlt).symm
   all_goals try have hct:=aX (es:=es) (n:=i.toNat) (by omega);rw[he]at hct;simp only[bR,cv,Nat.add_zero,Nat.zero_add]at hct
   all_goals have hle1:=ap (es:=es) (n:=i.toNat+1)
   all_goals have hcE:aj es=es.length+aH es:=rfl
   all_goals first|omega|exact bQ hwf g0 hlt|trivial|trace_state
theorem l8 (es:List (List L))(k:Int)(hp:Rw [tI,tI] es/\aj es<=1099511627776/\0<=k/\aS [es] k<=1152921504606846976):eF Tryz.prog 263 [.one (.s 2 es),.one (.v (.int .i64 k))] [.s 2 (bN es k)] [.one (.v (.int .i64 (aS [es] k)))]:=by
 obtain⟨hw,hlim,hk0,hkb⟩:=hp;have hwf:Wf [.v (.int .i64 0),.v (.int .i64 0)] es:=hw.wf;have hlen:es.length<=1099511627776:=Nat.le_trans (Nat.le_add_right _ _) hlim;refine dd MEntryS.B ag mixed 27 _ [3] [.tmp 4] [(0,0)] Tryz.func263 rfl rfl rfl rfl rfl rfl rfl ?_;intro O r os (F:MEntryS.Fns) hO hr hos (hF:F=MEntryS.F0);cbv;refine⟨[0,1,5],[0],Int×Int×List (List L),fun s=>match s with|(i,k',cur)=>[.reg 5 (.one (.v (.int .i64 i))),.reg 1 (.one (.v (.int .i64 k'))),.leaf 0 0 ⟨0,0,some 0,.own (.s 2 cur)⟩],fun s=>0<=s.1/\s.1.toNat<=es.length/\s.2.1=gP es k s.1.toNat/\s.2.2=dQ es k s.1.toNat,fun s=>es.length-s.1.toNat,⟨(0,k,es),?_,?_⟩,?_⟩
 ·exact⟨by omega,Nat.zero_le _,bB.symm,cU.symm⟩
 ·cbv
 ·rintro⟨i,k',cur⟩ hi;replace hi:0<=i/\i.toNat<=es.length/\k'=gP es k i.toNat/\cur=dQ es k i.toNat:=hi;obtain⟨g0,g1,hk',hc⟩:=hi;cbv
  repeat' first|refine And.intro ?_ ?_|(refine aG (fun hb=>?_) (fun hb=>?_)<;>cbv)|(refine aa (O.ar .add .i64 i 1,O.ar .add .i64 (O.ar .add .i64 (k') 1) 1,O.up (.s 2 (O.up (.s 2 (cur)) [(O.ad 0 i,0)] [.v (.int .i64 (k'))])) [(O.ad 0 i,1)] [.v (.int .i64 (O.ar .add .i64 (k') 1))]) ?_ ?_ ?_;rotate_left 2;focus (cbv;done))
  all_goals((try subst hos);subst hO hr hF;(try simp only[af,SS,sa,az]at*);(try simp only[nc]at*);(try simp only[aF]at*))
  all_goals(try simp only[MEntryS.F0]at*)
  all_goals try have hlt:i<es.length:=by assumption
  all_goals try rw[bP (n:=es.length) g0 hlt (by omega)]
  all_goals try have hlt':i.toNat<es.length:=by omega
  all_goals try have he:es.getD i.toNat []=[.v (.int .i64 (ab es i 0)),.v (.int .i64 (ab es i 1))]:=(aw hwf g0 hlt).symm
  all_goals try have hct:=aX (es:=es) (n:=i.toNat) (by omega);rw[he]at hct;simp only[bR,cv,Nat.add_zero,Nat.zero_add]at hct
  all_goals try have hks:=cX (es:=es) (k:=k) hlt';rw[he]at hks;simp only[fJ,eT]at hks
  all_goals try have hms:=dA (es:=es) (k:=k) hlt';rw[he]at hms;simp only[fJ,eT]at hms
  all_goals have hle1:=ap (es:=es) (n:=i.toNat+1)
  all_goals have hcE:aj es=es.length+aH es:=rfl
  all_goals have hk1:=bZ (es:=es) (k:=k) (n:=i.toNat)
  all_goals have hk2:=bZ (es:=es) (k:=k) (n:=i.toNat+1)
  all_goals have hk3:=dY (es:=es) (k:=k)
  all_goals have hk4:=bZ (es:=es) (k:=k) (n:=es.length)
  all_goals have hk5:=bu (es:=es) (m:=0) (n:=i.toNat) g1 (Nat.zero_le _)
  all_goals have hk6:=bu (es:=es) (m:=i.toNat) (n:=es.length) (Nat.le_refl _) g1
  all_goals try have hk7:=bu (es:=es) (m:=i.toNat+1) (n:=es.length) (Nat.le_refl _) hlt'
  all_goals rw[bB]at hk5
  all_goals try have hk8:=cW (es:=es) (n:=i.toNat) hlt'
  all_goals try have hcl:i.toNat<cur.length:=by rw[hc,b9 g1];exact hlt'
  all_goals try have hcg:cur.getD i.toNat []=[.v (.int .i64 (ab es i 0)),.v (.int .i64 (ab es i 1))]:=by rw[hc,cT g1];exact he
  all_goals have ha1:aV .add .i64 k' 1=k'+1:=aB (by omega)
  all_goals have ha2:aV .add .i64 (k'+1) 1=k'+1+1:=aB (by omega)
  all_goals have ha3:aV .add .i64 (k'+1+1) 1=k'+1+1+1:=aB (by omega)
  all_goals have ha4:aV .add .i64 (k'+1+1+1) 1=k'+1+1+1+1:=aB (by omega)
  all_goals try simp only[ha1,ha2,ha3,ha4]
  all_goals try simp only[az]
  all_goals try simp only[dE,hcg,List.take,List.drop,List.length_cons,List.length_nil,List.nil_append,List.cons_append,List.append_nil,Nat.zero_add,Nat.reduceAdd,aE hcl,List.set_set,List.append_assoc]
  all_goals try simp only[dw,hcg,aE hcl,List.getD_cons_zero,List.getD_cons_succ,tV]
  all_goals try simp only[dX hcl,dp hcl,ef hcl,dy hcl,hcg,List.getElem?_cons_zero,List.getElem?_cons_succ]
  all_goals first|exact⟨g0,hlt⟩|(refine⟨_,_,rfl,?_⟩;simp;done)|omega|(rw[hk',show i.toNat=es.length from by omega,hk3];done)|(rw[hc,show i.toNat=es.length from by omega,dz];rfl)|(rw[show(i+1).toNat=i.toNat+1 from by omega,hks,hk'];done)|(rw[show(i+1).toNat=i.toNat+1 from by omega, <-hms,hc,hk'];done)|trace_state
namespace LTable
structure Fns where
 szN:List (List (List L))->Int->Int
def F0 :Fns:=⟨aZ⟩
def ct (F:Fns):CT:=fun f ds=>match f,ds with
 |243,[.one (.s 2 es),.one (.v (.int .i64 left))]=>some (fun _=>Rw [tI,tI] es/\0<=left/\left<=1048576,[.one (.v (.int .i64 (F.szN [es] left)))])
 |248,[.one (.s 2 es)]=>some (fun _=>Rw [tI,tI] es/\aj es<=1048576,[.one (.s 2 es)])
 |260,[.one (.s 2 es),d]=>some (fun _=>d=.one (.s 2 es)/\Rw [tI,tI] es/\aj es<=1099511627776,[.one (.v (.bool true))])
 |_,_=>none
theorem ak :aW Tryz.prog (ct F0):=by
 intro f ds pre res h hp;unfold ct at h;split at h<;>(try split at h)<;>cases h
 exact pU _ _ hp;exact qe _ hp;exact pG _ _ hp
def B :TB Tryz.prog:=tb ak
end LTable
namespace MTable
structure Fns where
 kN:List (List (List L))->Int->Int
 mkN:List (List L)->Int->List (List L)
def F0 :Fns:=⟨aS,bN⟩
def mt (F:Fns):MT:=fun f=>match f with
 | 263=>some fun ds=>match ds with
   |[.one (.s 2 es),.one (.v (.int .i64 k))]=>some (fun _=>Rw [tI,tI] es/\aj es<=1099511627776/\0<=k/\aS [es] k<=1152921504606846976,[.s 2 (F.mkN es k)],[.one (.v (.int .i64 (F.kN [es] k)))])
   |_=>none
 |_=>none
theorem cL :ga Tryz.prog (mt F0):=by
 intro f mk h ds pre outs res hm hp;unfold mt at h;split at h
 ·cases h;dsimp only at hm;split at hm
  ·cases hm;exact l8 _ _ hp
  ·cases hm
 ·cases h
def B :TB Tryz.prog:={Φ:=Fns,F0:=F0,mt:=mt,hm:=cL}
end MTable
theorem rQ (a0:List (List L))(left:Int)(hp:Rw [tI,tI] a0/\0<=left/\left<=1048576):aP Tryz.prog 197 [.agg [.s 2 a0],.one (.v (.int .i64 left))] [.one (.v (.int .i64 (aZ [a0] left)))]:=by
 obtain⟨w0,h0,h1⟩:=hp;refine ai LTable.B ag mixed 12 _ [3] [.tmp 4] Tryz.func197 rfl rfl rfl rfl rfl ?_;intro O r (F:LTable.Fns) hO hr (hF:F=LTable.F0);cbv
 repeat' first|refine And.intro ?_ ?_|(refine aG (fun hb=>?_) (fun hb=>?_)<;>cbv)
 all_goals(subst hO hr hF;(try simp only[af,SS,sa,az]at*);(try simp only[nc]at*);(try simp only[aF]at*))
 all_goals(try simp only[LTable.F0]at*)
 all_goals(try simp(disch:=assumption) only[eh,List.cons_append,List.nil_append]at*)
 all_goals first|trivial|(rw[dD (by assumption)])|trace_state
theorem rZ (a0:List (List L))(hp:Rw [tI,tI] a0/\ao [a0]<=1048576):aP Tryz.prog 211 [.agg [.s 2 a0]] [.agg [.s 2 a0]]:=by
 obtain⟨w0,hlim⟩:=hp;simp only[ao,Nat.add_zero]at hlim;refine ai LTable.B ag mixed 9 _ [56] [.cell 2 56] Tryz.func211 rfl rfl rfl rfl rfl ?_;intro O r (F:LTable.Fns) hO hr (hF:F=LTable.F0);cbv
 repeat' first|refine And.intro ?_ ?_|(refine aG (fun hb=>?_) (fun hb=>?_)<;>cbv)
 all_goals(subst hO hr hF;(try simp only[af,SS,sa,az]at*);(try simp only[nc]at*);(try simp only[aF]at*))
 all_goals(try simp only[LTable.F0]at*)
 all_goals first|trivial|trace_state
theorem rK (a0:List (List L))(d:DV)(hp:d=.agg [.s 2 a0]/\Rw [tI,tI] a0/\ao [a0]<=1099511627776):aP Tryz.prog 230 [.agg [.s 2 a0],d] [.one (.v (.bool true))]:=by
 obtain⟨rfl,w0,hlim⟩:=hp;simp only[ao,Nat.add_zero]at hlim;refine ai LTable.B ag mixed 11 _ [4] [.tmp 4] Tryz.func230 rfl rfl rfl rfl rfl ?_;intro O r (F:LTable.Fns) hO hr (hF:F=LTable.F0);cbv
 repeat' first|refine And.intro ?_ ?_|(refine aG (fun hb=>?_) (fun hb=>?_)<;>cbv)
 all_goals(subst hO hr hF;(try simp only[af,SS,sa,az]at*);(try simp only[nc]at*);(try simp only[aF]at*))
 all_goals(try simp only[LTable.F0]at*)
 all_goals first|trivial|trace_state
theorem nI (a0:List (List L))(k:Int)(hp:Rw [tI,tI] a0/\ao [a0]<=1099511627776/\0<=k/\aS [a0] k<=1152921504606846976):eF Tryz.prog 240 [.agg [.s 2 a0],.one (.v (.int .i64 k))] [.s 2 (bN a0 k)] [.one (.v (.int .i64 (aS [a0] k)))]:=by
 obtain⟨w0,hlim,hk0,hkb⟩:=hp;simp only[ao,Nat.add_zero]at hlim;have p0:aS [a0] k<=aS [a0] k/\0<=aS [a0] k:=ca (b:=[]) hk0;refine dd MTable.B ag mixed 10 _ [3] [.tmp 4] [(2,0)] Tryz.func240 rfl rfl rfl rfl rfl rfl rfl ?_;intro O r os (F:MTable.Fns) hO hr hos (hF:F=MTable.F0);cbv
 repeat' first|refine And.intro ?_ ?_|(refine aG (fun hb=>?_) (fun hb=>?_)<;>cbv)
 all_goals((try subst hos);subst hO hr hF;(try simp only[af,SS,sa,az]at*);(try simp only[nc]at*);(try simp only[aF]at*))
 all_goals(try simp only[MTable.F0]at*)
 all_goals(try simp only[dO,List.cons_append,List.nil_append,cB]at*)
 all_goals first|trivial|trace_state
namespace LMachine
structure Fns where
 szN:List (List (List L))->Int->Int
def F0 :Fns:=⟨aZ⟩
def ct (F:Fns):CT:=fun f ds=>match f,ds with
 |196,[.agg [.s 1 a0,.s 1 a1],.one (.v (.int .i64 left))]=>some (fun _=>Rw [.sl [tI]] a0/\Rw [tB] a1/\0<=left/\left<=1048576,[.one (.v (.int .i64 (F.szN [a0,a1] left)))])
 |210,[.agg [.s 1 a0,.s 1 a1]]=>some (fun _=>Rw [.sl [tI]] a0/\Rw [tB] a1/\ao [a0,a1]<=1048576,[.agg [.s 1 a0,.s 1 a1]])
 |229,[.agg [.s 1 a0,.s 1 a1],d]=>some (fun _=>d=.agg [.s 1 a0,.s 1 a1]/\Rw [.sl [tI]] a0/\Rw [tB] a1/\ao [a0,a1]<=1099511627776,[.one (.v (.bool true))])
 |197,[.agg [.s 2 a0],.one (.v (.int .i64 left))]=>some (fun _=>Rw [tI,tI] a0/\0<=left/\left<=1048576,[.one (.v (.int .i64 (F.szN [a0] left)))])
 |211,[.agg [.s 2 a0]]=>some (fun _=>Rw [tI,tI] a0/\ao [a0]<=1048576,[.agg [.s 2 a0]])
 |230,[.agg [.s 2 a0],d]=>some (fun _=>d=.agg [.s 2 a0]/\Rw [tI,tI] a0/\ao [a0]<=1099511627776,[.one (.v (.bool true))])
 |_,_=>none
theorem ak :aW Tryz.prog (ct F0):=by
 intro f ds pre res h hp;unfold ct at h;split at h<;>(try split at h)<;>cases h
 exact pV _ _ _ hp;exact qf _ _ hp;exact pH _ _ _ hp;exact rQ _ _ hp;exact rZ _ hp;exact rK _ _ hp
def B :TB Tryz.prog:=tb ak
end LMachine
namespace MMachine
structure Fns where
 kN:List (List (List L))->Int->Int
 mkN:List (List L)->Int->List (List L)
def F0 :Fns:=⟨aS,bN⟩
def mt (F:Fns):MT:=fun f=>match f with
 | 239=>some fun ds=>match ds with
   |[.agg [.s 1 a0,.s 1 a1],.one (.v (.int .i64 k))]=>some (fun _=>Rw [.sl [tI]] a0/\Rw [tB] a1/\ao [a0,a1]<=1099511627776/\0<=k/\aS [a0,a1] k<=1152921504606846976,[.s 1 (F.mkN a0 k),.s 1 (F.mkN a1 (F.kN [a0] k))],[.one (.v (.int .i64 (F.kN [a0,a1] k)))])
   |_=>none
 | 240=>some fun ds=>match ds with
   |[.agg [.s 2 a0],.one (.v (.int .i64 k))]=>some (fun _=>Rw [tI,tI] a0/\ao [a0]<=1099511627776/\0<=k/\aS [a0] k<=1152921504606846976,[.s 2 (F.mkN a0 k)],[.one (.v (.int .i64 (F.kN [a0] k)))])
   |_=>none
 |_=>none
theorem cL :ga Tryz.prog (mt F0):=by
 intro f mk h ds pre outs res hm hp;unfold mt at h;split at h
 ·cases h;dsimp only at hm;split at hm
  ·cases hm;exact l9 _ _ _ hp
  ·cases hm
 ·cases h;dsimp only at hm;split at hm
  ·cases hm;exact nI _ _ hp
  ·cases hm
 ·cases h
def B :TB Tryz.prog:={Φ:=Fns,F0:=F0,mt:=mt,hm:=cL}
end MMachine
theorem nJ (a0 a1 a2:List (List L))(left:Int)(hp:Rw [.sl [tI]] a0/\Rw [tB] a1/\Rw [tI,tI] a2/\0<=left/\left<=1048576):aP Tryz.prog 111 [.agg [.s 1 a0,.s 1 a1,.s 2 a2],.one (.v (.int .i64 left))] [.one (.v (.int .i64 (aZ [a0,a1,a2] left)))]:=by
 obtain⟨w0,w1,w2,h0,h1⟩:=hp;refine ai LMachine.B ag mixed 18 _ [3] [.tmp 4] Tryz.func111 rfl rfl rfl rfl rfl ?_;intro O r (F:LMachine.Fns) hO hr (hF:F=LMachine.F0);cbv
 repeat' first|refine And.intro ?_ ?_|(refine aG (fun hb=>?_) (fun hb=>?_)<;>cbv)
 all_goals(subst hO hr hF;(try simp only[af,SS,sa,az]at*);(try simp only[nc]at*);(try simp only[aF]at*))
 all_goals(try simp only[LMachine.F0]at*)
 all_goals(try simp(disch:=assumption) only[eh,List.cons_append,List.nil_append]at*)
 all_goals first|trivial|(refine⟨by assumption,by omega,by first|omega|exact Int.le_trans (lO (by assumption)) h1⟩)|(rw[dD (by assumption)])|exact congrArg (fun x=>[DV.one (L.v (Value.int IntKind.i64 x))]) (dC (a:=[a0,a1]) (b:=[a2]) (by assumption)).symm|trace_state
theorem nM (a0 a1 a2:List (List L))(hp:Rw [.sl [tI]] a0/\Rw [tB] a1/\Rw [tI,tI] a2/\ao [a0,a1,a2]<=1048576):aP Tryz.prog 131 [.agg [.s 1 a0,.s 1 a1,.s 2 a2]] [.agg [.s 1 a0,.s 1 a1,.s 2 a2]]:=by
 obtain⟨w0,w1,w2,hlim⟩:=hp;simp only[ao,Nat.add_zero]at hlim;refine ai LMachine.B ag mixed 13 _ [58] [.cell 2 58] Tryz.func131 rfl rfl rfl rfl rfl ?_;intro O r (F:LMachine.Fns) hO hr (hF:F=LMachine.F0);cbv
 repeat' first|refine And.intro ?_ ?_|(refine aG (fun hb=>?_) (fun hb=>?_)<;>cbv)
 all_goals(subst hO hr hF;(try simp only[af,SS,sa,az]at*);(try simp only[nc]at*);(try simp only[aF]at*))
 all_goals(try simp only[LMachine.F0]at*)
 all_goals first|trivial|(refine⟨by assumption,?_⟩;(try simp only[ao,Nat.add_zero]);omega)|(refine⟨by assumption,by assumption,?_⟩;(try simp only[ao,Nat.add_zero]);omega)|trace_state
theorem nC (a0 a1 a2:List (List L))(d:DV)(hp:d=.agg [.s 1 a0,.s 1 a1,.s 2 a2]/\Rw [.sl [tI]] a0/\Rw [tB] a1/\Rw [tI,tI] a2/\ao [a0,a1,a2]<=1099511627776):aP Tryz.prog 156 [.agg [.s 1 a0,.s 1 a1,.s 2 a2],d] [.one (.v (.bool true))]:=by
 obtain⟨rfl,w0,w1,w2,hlim⟩:=hp;simp only[ao,Nat.add_zero]at hlim;refine ai LMachine.B ag mixed 17 _ [4] [.tmp 4] Tryz.func156 rfl rfl rfl rfl rfl ?_;intro O r (F:LMachine.Fns) hO hr (hF:F=LMachine.F0);cbv
 repeat' first|refine And.intro ?_ ?_|(refine aG (fun hb=>?_) (fun hb=>?_)<;>cbv)
 all_goals(subst hO hr hF;(try simp only[af,SS,sa,az]at*);(try simp only[nc]at*);(try simp only[aF]at*))
 all_goals(try simp only[LMachine.F0]at*)
 all_goals first|trivial|(refine⟨trivial,by assumption,?_⟩;(try simp only[ao,Nat.add_zero]);omega)|(refine⟨trivial,by assumption,by assumption,?_⟩;(try simp only[ao,Nat.add_zero]);omega)|trace_state
theorem lq (a0 a1 a2:List (List L))(k:Int)(hp:Rw [.sl [tI]] a0/\Rw [tB] a1/\Rw [tI,tI] a2/\ao [a0,a1,a2]<=1099511627776/\0<=k/\aS [a0,a1,a2] k<=1152921504606846976):eF Tryz.prog 191 [.agg [.s 1 a0,.s 1 a1,.s 2 a2],.one (.v (.int .i64 k))] [.s 1 (bN a0 k),.s 1 (bN a1 (aS [a0] k)),.s 2 (bN a2 (aS [a0,a1] k))] [.one (.v (.int .i64 (aS [a0,a1,a2] k)))]:=by
 obtain⟨w0,w1,w2,hlim,hk0,hkb⟩:=hp;simp only[ao,Nat.add_zero]at hlim;have p0:aS [a0] k<=aS [a0,a1,a2] k/\0<=aS [a0] k:=ca (b:=[a1,a2]) hk0;have p1:aS [a0,a1] k<=aS [a0,a1,a2] k/\0<=aS [a0,a1] k:=ca (b:=[a2]) hk0;have p2:aS [a0,a1,a2] k<=aS [a0,a1,a2] k/\0<=aS [a0,a1,a2] k:=ca (b:=[]) hk0;refine dd MMachine.B ag mixed 14 _ [3] [.tmp 4] [(2,0),(2,1),(2,2)] Tryz.func191 rfl rfl rfl rfl rfl rfl rfl ?_;intro O r os (F:MMachine.Fns) hO hr hos (hF:F=MMachine.F0);cbv
 repeat' first|refine And.intro ?_ ?_|(refine aG (fun hb=>?_) (fun hb=>?_)<;>cbv)
 all_goals((try subst hos);subst hO hr hF;(try simp only[af,SS,sa,az]at*);(try simp only[nc]at*);(try simp only[aF]at*))
 all_goals(try simp only[MMachine.F0]at*)
 all_goals(try simp only[dO,List.cons_append,List.nil_append,cB]at*)
 all_goals first|trivial|(refine⟨by assumption,?_,?_,?_⟩<;>(try simp only[dO,List.cons_append,List.nil_append,ao,Nat.add_zero])<;>omega)|trace_state
namespace LKernel
structure Fns where
 szN:List (List (List L))->Int->Int
def F0 :Fns:=⟨aZ⟩
def ct (F:Fns):CT:=fun f ds=>match f,ds with
 |111,[.agg [.s 1 a0,.s 1 a1,.s 2 a2],.one (.v (.int .i64 left))]=>some (fun _=>Rw [.sl [tI]] a0/\Rw [tB] a1/\Rw [tI,tI] a2/\0<=left/\left<=1048576,[.one (.v (.int .i64 (F.szN [a0,a1,a2] left)))])
 |131,[.agg [.s 1 a0,.s 1 a1,.s 2 a2]]=>some (fun _=>Rw [.sl [tI]] a0/\Rw [tB] a1/\Rw [tI,tI] a2/\ao [a0,a1,a2]<=1048576,[.agg [.s 1 a0,.s 1 a1,.s 2 a2]])
 |156,[.agg [.s 1 a0,.s 1 a1,.s 2 a2],d]=>some (fun _=>d=.agg [.s 1 a0,.s 1 a1,.s 2 a2]/\Rw [.sl [tI]] a0/\Rw [tB] a1/\Rw [tI,tI] a2/\ao [a0,a1,a2]<=1099511627776,[.one (.v (.bool true))])
 |112,[.one (.s 1 es),.one (.v (.int .i64 left))]=>some (fun _=>Rw [tI] es/\0<=left/\left<=1048576,[.one (.v (.int .i64 (F.szN [es] left)))])
 |132,[.one (.s 1 es)]=>some (fun _=>Rw [tI] es/\aj es<=1048576,[.one (.s 1 es)])
 |31,[.one (.s 1 es),d]=>some (fun _=>d=.one (.s 1 es)/\Rw [tI] es/\aj es<=1099511627776,[.one (.v (.bool true))])
 |_,_=>none
theorem ak :aW Tryz.prog (ct F0):=by
 intro f ds pre res h hp;unfold ct at h;split at h<;>(try split at h)<;>cases h
 exact nJ _ _ _ _ hp;exact nM _ _ _ hp;exact nC _ _ _ _ hp;exact fj _ _ hp;exact fm _ hp;exact d9 _ _ hp
def B :TB Tryz.prog:=tb ak
end LKernel
namespace MKernel
structure Fns where
 kN:List (List (List L))->Int->Int
 mkN:List (List L)->Int->List (List L)
def F0 :Fns:=⟨aS,bN⟩
def ct (F:Fns):CT:=fun f ds=>match f,ds with
 |34,[.one (.s 1 ms),.one (.v (.int .i64 k))]=>some (fun _=>∃ es,ms=bN es k/\Rw [tI] es/\aj es<=1099511627776/\0<=k/\aS [ms] k<=1152921504606846976,[.one (.v (.int .i64 (F.kN [ms] k)))])
 |_,_=>none
theorem ak :aW Tryz.prog (ct F0):=by
 intro f ds pre res h hp;unfold ct at h;split at h<;>(try split at h)<;>cases h
 exact cR _ _ hp
def mt (F:Fns):MT:=fun f=>match f with
 | 191=>some fun ds=>match ds with
   |[.agg [.s 1 a0,.s 1 a1,.s 2 a2],.one (.v (.int .i64 k))]=>some (fun _=>Rw [.sl [tI]] a0/\Rw [tB] a1/\Rw [tI,tI] a2/\ao [a0,a1,a2]<=1099511627776/\0<=k/\aS [a0,a1,a2] k<=1152921504606846976,[.s 1 (F.mkN a0 k),.s 1 (F.mkN a1 (F.kN [a0] k)),.s 2 (F.mkN a2 (F.kN [a0,a1] k))],[.one (.v (.int .i64 (F.kN [a0,a1,a2] k)))])
   |_=>none
 | 33=>some fun ds=>match ds with
   |[.one (.s 1 es),.one (.v (.int .i64 k))]=>some (fun _=>Rw [tI] es/\aj es<=1099511627776/\0<=k/\aS [es] k<=1152921504606846976,[.s 1 (F.mkN es k)],[.one (.v (.int .i64 (F.kN [es] k)))])
   |_=>none
 |_=>none
theorem cL :ga Tryz.prog (mt F0):=by
 intro f mk h ds pre outs res hm hp;unfold mt at h;split at h
 ·cases h;dsimp only at hm;split at hm
  ·cases hm;exact lq _ _ _ _ hp
  ·cases hm
 ·cases h;dsimp only at hm;split at hm
  ·cases hm;exact cS _ _ hp
  ·cases hm
 ·cases h
def B :TB Tryz.prog:={Φ:=Fns,F0:=F0,ct:=ct,hc:=ak,mt:=mt,hm:=cL}
end MKernel
theorem pW (a0 a1 a2:List (List L))(a3:Int)(a4:List (List L))(left:Int)(hp:Rw [.sl [tI]] a0/\Rw [tB] a1/\Rw [tI,tI] a2/\Rw [tI] a4/\0<=left/\left<=1048576):aP Tryz.prog 35 [.agg [.s 1 a0,.s 1 a1,.s 2 a2,.v (.int .i64 a3),.s 1 a4],.one (.v (.int .i64 left))] [.one (.v (.int .i64 (aZ [a0,a1,a2,a4] left)))]:=by
 obtain⟨w0,w1,w2,w3,h0,h1⟩:=hp;refine ai LKernel.B ag mixed 18 _ [3] [.tmp 4] Tryz.func35 rfl rfl rfl rfl rfl ?_;intro O r (F:LKernel.Fns) hO hr (hF:F=LKernel.F0);cbv
 repeat' first|refine And.intro ?_ ?_|(refine aG (fun hb=>?_) (fun hb=>?_)<;>cbv)
 all_goals(subst hO hr hF;(try simp only[af,SS,sa,az]at*);(try simp only[nc]at*);(try simp only[aF]at*))
 all_goals(try simp only[LKernel.F0]at*)
 all_goals(try simp(disch:=assumption) only[eh,List.cons_append,List.nil_append]at*)
 all_goals first|trivial|(refine⟨by assumption,by omega,by first|omega|exact Int.le_trans (lO (by assumption)) h1⟩)|(rw[dD (by assumption)])|exact congrArg (fun x=>[DV.one (L.v (Value.int IntKind.i64 x))]) (dC (a:=[a0,a1,a2]) (b:=[a4]) (by assumption)).symm|trace_state
theorem qg (a0 a1 a2:List (List L))(a3:Int)(a4:List (List L))(hp:Rw [.sl [tI]] a0/\Rw [tB] a1/\Rw [tI,tI] a2/\Rw [tI] a4/\ao [a0,a1,a2,a4]<=1048576):aP Tryz.prog 46 [.agg [.s 1 a0,.s 1 a1,.s 2 a2,.v (.int .i64 a3),.s 1 a4]] [.agg [.s 1 a0,.s 1 a1,.s 2 a2,.v (.int .i64 a3),.s 1 a4]]:=by
 obtain⟨w0,w1,w2,w3,hlim⟩:=hp;simp only[ao,Nat.add_zero]at hlim;refine ai LKernel.B ag mixed 16 _ [60] [.cell 2 60] Tryz.func46 rfl rfl rfl rfl rfl ?_;intro O r (F:LKernel.Fns) hO hr (hF:F=LKernel.F0);cbv
 repeat' first|refine And.intro ?_ ?_|(refine aG (fun hb=>?_) (fun hb=>?_)<;>cbv)
 all_goals(subst hO hr hF;(try simp only[af,SS,sa,az]at*);(try simp only[nc]at*);(try simp only[aF]at*))
 all_goals(try simp only[LKernel.F0]at*)
 all_goals first|trivial|(refine⟨by assumption,?_⟩;(try simp only[ao,Nat.add_zero]);omega)|(refine⟨by assumption,by assumption,by assumption,?_⟩;(try simp only[ao,Nat.add_zero]);omega)|trace_state
theorem pI (a0 a1 a2:List (List L))(a3:Int)(a4:List (List L))(d:DV)(hp:d=.agg [.s 1 a0,.s 1 a1,.s 2 a2,.v (.int .i64 a3),.s 1 a4]/\Rw [.sl [tI]] a0/\Rw [tB] a1/\Rw [tI,tI] a2/\Rw [tI] a4/\ao [a0,a1,a2,a4]<=1099511627776):aP Tryz.prog 57 [.agg [.s 1 a0,.s 1 a1,.s 2 a2,.v (.int .i64 a3),.s 1 a4],d] [.one (.v (.bool true))]:=by
 obtain⟨rfl,w0,w1,w2,w3,hlim⟩:=hp;simp only[ao,Nat.add_zero]at hlim;refine ai LKernel.B ag mixed 22 _ [4] [.tmp 4] Tryz.func57 rfl rfl rfl rfl rfl ?_;intro O r (F:LKernel.Fns) hO hr (hF:F=LKernel.F0);cbv
 repeat' first|refine And.intro ?_ ?_|(refine aG (fun hb=>?_) (fun hb=>?_)<;>cbv)
 all_goals(subst hO hr hF;(try simp only[af,SS,sa,az]at*);(try simp only[nc]at*);(try simp only[aF]at*))
 all_goals(try simp only[LKernel.F0]at*)
 all_goals first|trivial|(refine⟨trivial,by assumption,?_⟩;(try simp only[ao,Nat.add_zero]);omega)|(refine⟨trivial,by assumption,by assumption,by assumption,?_⟩;(try simp only[ao,Nat.add_zero]);omega)|trace_state
theorem ma (a0 a1 a2:List (List L))(a3:Int)(a4:List (List L))(k:Int)(hp:Rw [.sl [tI]] a0/\Rw [tB] a1/\Rw [tI,tI] a2/\Rw [tI] a4/\ao [a0,a1,a2,a4]<=1099511627776/\0<=k/\aS [a0,a1,a2,a4] k<=1152921504606846976):eF Tryz.prog 102 [.agg [.s 1 a0,.s 1 a1,.s 2 a2,.v (.int .i64 a3),.s 1 a4],.one (.v (.int .i64 k))] [.s 1 (bN a0 k),.s 1 (bN a1 (aS [a0] k)),.s 2 (bN a2 (aS [a0,a1] k)),.s 1 (bN a4 (aS [a0,a1,a2] k))] [.one (.v (.int .i64 (aS [a0,a1,a2,a4] k)))]:=by
 obtain⟨w0,w1,w2,w3,hlim,hk0,hkb⟩:=hp;simp only[ao,Nat.add_zero]at hlim;have p0:aS [a0] k<=aS [a0,a1,a2,a4] k/\0<=aS [a0] k:=ca (b:=[a1,a2,a4]) hk0;have p1:aS [a0,a1] k<=aS [a0,a1,a2,a4] k/\0<=aS [a0,a1] k:=ca (b:=[a2,a4]) hk0;have p2:aS [a0,a1,a2] k<=aS [a0,a1,a2,a4] k/\0<=aS [a0,a1,a2] k:=ca (b:=[a4]) hk0;have p3:aS [a0,a1,a2,a4] k<=aS [a0,a1,a2,a4] k/\0<=aS [a0,a1,a2,a4] k:=ca (b:=[]) hk0;refine dd MKernel.B ag mixed 14 _ [3] [.tmp 4] [(2,0),(2,1),(2,2),(2,4)] Tryz.func102 rfl rfl rfl rfl rfl rfl rfl ?_;intro O r os (F:MKernel.Fns) hO hr hos (hF:F=MKernel.F0);cbv
 repeat' first|refine And.intro ?_ ?_|(refine aG (fun hb=>?_) (fun hb=>?_)<;>cbv)
 all_goals((try subst hos);subst hO hr hF;(try simp only[af,SS,sa,az]at*);(try simp only[nc]at*);(try simp only[aF]at*))
 all_goals(try simp only[MKernel.F0]at*)
 all_goals(try simp only[dO,List.cons_append,List.nil_append,cB]at*)
 all_goals first|trivial|(refine⟨by assumption,?_,?_,?_⟩<;>(try simp only[dO,List.cons_append,List.nil_append,ao,Nat.add_zero])<;>omega)|trace_state
end Go.V