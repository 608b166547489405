/-
  Contracts, by evaluation.
-/
import Derived.Test.YtniaaknbbceigaaGreatS10
import Derived.Test.YtniaaknbbceigaaGreatLawHAq
import Derived.Test.YtniaaknbbceigaaGreatVE
set_option linter.all false
namespace Go.V
open Go Go.Proofs
set_option maxRecDepth 1000000
set_option maxHeartbeats 8000000
namespace LRefObj
structure Fns where
 szN:List (List (List L))->Int->Int
 kN:List (List (List L))->Int->Int
 mkN:List (List L)->Int->List (List L)
def F0 :Fns:=⟨aZ,aS,bN⟩
def ct (F:Fns):CT:=fun f ds=>match f,ds with
 |112,[.one (.s 1 es),.one (.v (.int .i64 left))]=>some (fun _=>Rw [tI] es/\0<=left/\left<=1048576,[.one (.v (.int .i64 (F.szN [es] left)))])
 |132,[.one (.s 1 es)]=>some (fun _=>Rw [tI] es/\aj es<=1048576,[.one (.s 1 es)])
 |31,[.one (.s 1 es),d]=>some (fun _=>d=.one (.s 1 es)/\Rw [tI] es/\aj es<=1099511627776,[.one (.v (.bool true))])
 |34,[.one (.s 1 ms),.one (.v (.int .i64 k))]=>some (fun _=>∃ es,ms=bN es k/\Rw [tI] es/\aj es<=1099511627776/\0<=k/\aS [ms] k<=1152921504606846976,[.one (.v (.int .i64 (F.kN [ms] k)))])
 |_,_=>none
theorem ak :aW Tryz.prog (ct F0):=by
 intro f ds pre res h hp;unfold ct at h;split at h<;>(try split at h)<;>cases h
 exact fj _ _ hp;exact fm _ hp;exact d9 _ _ hp;exact cR _ _ hp
def mt (F:Fns):MT:=fun f=>match f with
 | 33=>some fun ds=>match ds with
   |[.one (.s 1 es),.one (.v (.int .i64 k))]=>some (fun _=>Rw [tI] es/\aj es<=1099511627776/\0<=k/\aS [es] k<=1152921504606846976,[.s 1 (F.mkN es k)],[.one (.v (.int .i64 (F.kN [es] k)))])
   |_=>none
 |_=>none
theorem cL :ga Tryz.prog (mt F0):=by
 intro f mk h ds pre outs res hm hp;unfold mt at h;split at h
 ·cases h;dsimp only at hm;split at hm
  ·cases hm;exact cS _ _ hp
  ·cases hm
 ·cases h
def B :TB Tryz.prog:={Φ:=Fns,F0:=F0,ct:=ct,hc:=ak,mt:=mt,hm:=cL}
end LRefObj
theorem qa (a0:Int)(a1:List (List L))(left:Int)(hp:Rw [tI] a1/\0<=left/\left<=1048576):aP Tryz.prog 183 [.agg [.v (.int .i64 a0),.s 1 a1],.one (.v (.int .i64 left))] [.one (.v (.int .i64 (aZ [a1] left)))]:=by
 obtain⟨w0,h0,h1⟩:=hp;refine ai LRefObj.B ag mixed 12 _ [3] [.tmp 4] Tryz.func183 rfl rfl rfl rfl rfl ?_;intro O r (F:LRefObj.Fns) hO hr (hF:F=LRefObj.F0);cbv
 repeat' first|refine And.intro ?_ ?_|(refine aG (fun hb=>?_) (fun hb=>?_)<;>cbv)
 all_goals(subst hO hr hF;(try simp only[af,SS,sa,az]at*);(try simp only[nc]at*);(try simp only[aF]at*))
 all_goals(try simp only[LRefObj.F0]at*)
 all_goals iterate 1 (try simp(disch:=assumption) only[eh,List.cons_append,List.nil_append]at*)
 all_goals first|trivial|(rw[dD (by assumption)])|trace_state
theorem qk (a0:Int)(a1:List (List L))(hp:Rw [tI] a1/\ao [a1]<=1048576):aP Tryz.prog 184 [.agg [.v (.int .i64 a0),.s 1 a1]] [.agg [.v (.int .i64 a0),.s 1 a1]]:=by
 obtain⟨w0,hlim⟩:=hp;simp only[ao,Nat.add_zero]at hlim;refine ai LRefObj.B ag mixed 12 _ [153] [.cell 2 153] Tryz.func184 rfl rfl rfl rfl rfl ?_;intro O r (F:LRefObj.Fns) hO hr (hF:F=LRefObj.F0);cbv
 repeat' first|refine And.intro ?_ ?_|(refine aG (fun hb=>?_) (fun hb=>?_)<;>cbv)
 all_goals(subst hO hr hF;(try simp only[af,SS,sa,az]at*);(try simp only[nc]at*);(try simp only[aF]at*))
 all_goals(try simp only[LRefObj.F0]at*)
 all_goals first|trivial|trace_state
theorem pM (a0:Int)(a1:List (List L))(d:DV)(hp:d=.agg [.v (.int .i64 a0),.s 1 a1]/\Rw [tI] a1/\ao [a1]<=1099511627776):aP Tryz.prog 185 [.agg [.v (.int .i64 a0),.s 1 a1],d] [.one (.v (.bool true))]:=by
 obtain⟨rfl,w0,hlim⟩:=hp;simp only[ao,Nat.add_zero]at hlim;refine ai LRefObj.B ag mixed 16 _ [4] [.tmp 4] Tryz.func185 rfl rfl rfl rfl rfl ?_;intro O r (F:LRefObj.Fns) hO hr (hF:F=LRefObj.F0);cbv
 repeat' first|refine And.intro ?_ ?_|(refine aG (fun hb=>?_) (fun hb=>?_)<;>cbv)
 all_goals(subst hO hr hF;(try simp only[af,SS,sa,az]at*);(try simp only[nc]at*);(try simp only[aF]at*))
 all_goals(try simp only[LRefObj.F0]at*)
 all_goals first|trivial|trace_state
namespace LRefObjS
structure Fns where
 szN:List (List (List L))->Int->Int
 kN:List (List (List L))->Int->Int
 mkN:List (List L)->Int->List (List L)
def F0 :Fns:=⟨aZ,aS,bN⟩
def ct (F:Fns):CT:=fun f ds=>match f,ds with
 |183,[.agg [.v (.int .i64 a0),.s 1 a1],.one (.v (.int .i64 left))]=>some (fun _=>Rw [tI] a1/\0<=left/\left<=1048576,[.one (.v (.int .i64 (F.szN [a1] left)))])
 |184,[.agg [.v (.int .i64 a0),.s 1 a1]]=>some (fun _=>Rw [tI] a1/\ao [a1]<=1048576,[.agg [.v (.int .i64 a0),.s 1 a1]])
 |185,[.agg [.v (.int .i64 a0),.s 1 a1],d]=>some (fun _=>d=.agg [.v (.int .i64 a0),.s 1 a1]/\Rw [tI] a1/\ao [a1]<=1099511627776,[.one (.v (.bool true))])
 |34,[.one (.s 1 ms),.one (.v (.int .i64 k))]=>some (fun _=>∃ es,ms=bN es k/\Rw [tI] es/\aj es<=1099511627776/\0<=k/\aS [ms] k<=1152921504606846976,[.one (.v (.int .i64 (F.kN [ms] k)))])
 |_,_=>none
theorem ak :aW Tryz.prog (ct F0):=by
 intro f ds pre res h hp;unfold ct at h;split at h<;>(try split at h)<;>cases h
 exact qa _ _ _ hp;exact qk _ _ hp;exact pM _ _ _ hp;exact cR _ _ hp
def mt (F:Fns):MT:=fun f=>match f with
 | 33=>some fun ds=>match ds with
   |[.one (.s 1 es),.one (.v (.int .i64 k))]=>some (fun _=>Rw [tI] es/\aj es<=1099511627776/\0<=k/\aS [es] k<=1152921504606846976,[.s 1 (F.mkN es k)],[.one (.v (.int .i64 (F.kN [es] k)))])
   |_=>none
 |_=>none
theorem cL :ga Tryz.prog (mt F0):=by
 intro f mk h ds pre outs res hm hp;unfold mt at h;split at h
 ·cases h;dsimp only at hm;split at hm
  ·cases hm;exact cS _ _ hp
  ·cases hm
 ·cases h
def B :TB Tryz.prog:={Φ:=Fns,F0:=F0,ct:=ct,hc:=ak,mt:=mt,hm:=cL}
end LRefObjS
theorem nL (es:List (List L))(left:Int)(hp:Rw [tI,.sl [tI]] es/\0<=left/\left<=1048576):aP Tryz.prog 80 [.one (.s 2 es),.one (.v (.int .i64 left))] [.one (.v (.int .i64 (aZ [es] left)))]:=by
 obtain⟨hw,h0,h1⟩:=hp;have hwf:Wf [.v (.int .i64 0),.s 1 []] es:=hw.wf;have hm:=hw.1;unfold maxLen at hm;have hs:aV .sub .i64 left es.length=left-es.length:=cH (by omega);have hcE:aj es=es.length+aH es:=rfl;have hn:aZ [es] left=if left<aj es then-1 else left-aj es:=by unfold aZ;rw[cz]
 refine ai LRefObjS.B ag mixed 27 _ [3] [.tmp 4] Tryz.func80 rfl rfl rfl rfl rfl ?_;intro O r (F:LRefObjS.Fns) hO hr (hF:F=LRefObjS.F0);cbv;refine aG (fun hb=>?_) (fun hb=>?_)<;>cbv
 ·repeat' first|refine And.intro ?_ ?_|(refine aG (fun hb=>?_) (fun hb=>?_)<;>cbv)
  all_goals(subst hO hr hF;(try simp only[af,SS,sa,az]at*);(try simp only[nc]at*);(try simp only[aF]at*))
  all_goals(try simp only[hs,LRefObjS.F0]at*)
  all_goals first|trivial|(rw[hn,if_pos (by omega)])|trace_state
 have hb0:0<=left-es.length:=by
  (subst hO hr hF;(try simp only[af,SS,sa,az]at*);(try simp only[nc]at*);(try simp only[aF]at*))
  rw[hs]at hb;exact hb
 clear hb;refine⟨[0,1,5],[],Int×Int,fun s=>match s with|(i,l)=>[.reg 5 (.one (.v (.int .i64 i))),.reg 1 (.one (.v (.int .i64 l)))],fun s=>0<=s.1/\s.1.toNat<=es.length/\0<=s.2/\s.2=left-es.length-aH (es.take s.1.toNat),fun s=>es.length-s.1.toNat,⟨(0,O.ar .sub .i64 left (O.zi (O.ln es))),?_,?_⟩,?_⟩
 ·(subst hO hr hF;(try simp only[af,SS,sa,az]at*);(try simp only[nc]at*);(try simp only[aF]at*))
  rw[hs];exact⟨by omega,Nat.zero_le _,hb0,by simp[aH]⟩
 ·cbv
 ·rintro⟨i,l⟩ hi;replace hi:0<=i/\i.toNat<=es.length/\0<=l/\l=left-es.length-aH (es.take i.toNat):=hi;obtain⟨g0,g1,g2,g3⟩:=hi;cbv
  repeat' first|refine And.intro ?_ ?_|(refine aG (fun hb=>?_) (fun hb=>?_)<;>cbv)|(refine aa (O.ar .add .i64 i 1,F.szN [O.gs es i 1] l) ?_ ?_ ?_;rotate_left 2;focus (cbv;done))
  all_goals(subst hO hr hF;(try simp only[af,SS,sa,az]at*);(try simp only[nc]at*);(try simp only[aF]at*))
  all_goals try have hlt:i<es.length:=by assumption
  all_goals try rw[bP (n:=es.length) g0 hlt (by omega)]
  all_goals(try simp only[LRefObjS.F0]at*)
  all_goals try have he:es.getD i.toNat []=[.v (.int .i64 (ab es i 0)),.s 1 (ay es i 1)]:=(aw hwf g0 hlt).symm
  all_goals try have hr1:Rw [tI] (ay es i 1):=Rw.sub (fs:=[tI,.sl [tI]]) hw (by omega) rfl
  all_goals try have hct:=aX (es:=es) (n:=i.toNat) (by omega);rw[he]at hct;simp only[bR,cv,Nat.add_zero,Nat.zero_add]at hct
  all_goals have hle:=ap (es:=es) (n:=i.toNat)
  all_goals have hle1:=ap (es:=es) (n:=i.toNat+1)
  all_goals have hsz:=eo (a:=[ay es i 1]) (left:=l)
  all_goals have hsz2:0<=aZ [ay es i 1] l->aZ [ay es i 1] l=l-ao [ay es i 1]:=kM
  all_goals simp only[ao,aj,Nat.add_zero]at hsz hsz2
  all_goals first|exact bQ hwf g0 hlt|exact⟨hr1,by omega,by omega⟩|trivial|omega|(rw[hn,if_pos];omega)|(rw[hn,if_neg (by rw[show i.toNat=es.length from by omega,List.take_length]at g3;omega),show l=left-aj es from by rw[show i.toNat=es.length from by omega,List.take_length]at g3;omega])|(rw[show(i+1).toNat=i.toNat+1 from by omega,hct];omega)|trace_state
theorem nO (es:List (List L))(hp:Rw [tI,.sl [tI]] es/\aj es<=1048576):aP Tryz.prog 83 [.one (.s 2 es)] [.one (.s 2 es)]:=by
 obtain⟨hw,hlim⟩:=hp;have hwf:Wf [.v (.int .i64 0),.s 1 []] es:=hw.wf;have hlen:es.length<=1048576:=Nat.le_trans (Nat.le_add_right _ _) hlim;refine ai LRefObjS.B ag mixed 23 _ [90] [.tmp 2] Tryz.func83 rfl rfl rfl rfl rfl ?_;intro O r (F:LRefObjS.Fns) hO hr (hF:F=LRefObjS.F0);cbv;have h0z:bH es [.v (.int .i64 0),.s 1 []] 0=O.rep (O.zi (O.ln es)) [.v (.int .i64 0),.s 1 []]:=by
  subst hO;rw[cf];rfl
 refine⟨?_,?_,[0,3,4],[3],Int×List (List L),fun s=>[.reg 4 (.one (.v (.int .i64 s.1))),.leaf 3 0 ⟨0,0,none,.own (.s 2 s.2)⟩],fun s=>0<=s.1/\s.1.toNat<=es.length/\s.2=bH es [.v (.int .i64 0),.s 1 []] s.1.toNat,fun s=>es.length-s.1.toNat,⟨(0,O.rep (O.zi (O.ln es)) [.v (.int .i64 0),.s 1 []]),?_,?_⟩,?_⟩
 ·subst hO;exact iq (b:=32) (show es.length*_<=_ by omega) (show es.length<=_ by omega)
 ·subst hO;exact⟨rfl,rfl⟩
 ·exact⟨by omega,Nat.zero_le _,h0z.symm⟩
 ·cbv
 ·rintro⟨i,m⟩ hi;replace hi:0<=i/\i.toNat<=es.length/\m=bH es [.v (.int .i64 0),.s 1 []] i.toNat:=hi;obtain⟨g0,g1,hm⟩:=hi;cbv
  repeat' first|refine And.intro ?_ ?_|(refine aG (fun hb=>?_) (fun hb=>?_)<;>cbv)|(refine aa (O.ar .add .i64 i 1,O.up (.s 2 m) [(O.ad 0 i,0)] [.v (.int .i64 (O.gi es i 0)),.s 1 (O.gs es i 1)]) ?_ ?_ ?_;rotate_left 2;focus (cbv;done))
  all_goals(subst hO hr hF;(try simp only[af,SS,sa,az]at*);(try simp only[nc]at*);(try simp only[aF]at*))
  all_goals(try simp only[LRefObjS.F0,lL,List.length_replicate,Int.toNat_natCast]at*)
  all_goals try have hlt:i<es.length:=by assumption
  all_goals try rw[bP (n:=es.length) g0 hlt (by omega)]
  all_goals try have he:es.getD i.toNat []=[.v (.int .i64 (ab es i 0)),.s 1 (ay es i 1)]:=(aw hwf g0 hlt).symm
  all_goals try have hr1:Rw [tI] (ay es i 1):=Rw.sub (fs:=[tI,.sl [tI]]) hw (by omega) rfl
  all_goals try have hct:=aX (es:=es) (n:=i.toNat) (by omega);rw[he]at hct;simp only[bR,cv,Nat.add_zero,Nat.zero_add]at hct
  all_goals have hle1:=ap (es:=es) (n:=i.toNat+1)
  all_goals have hcE:aj es=es.length+aH es:=rfl
  all_goals first|exact bQ hwf g0 hlt|exact⟨g0,hlt⟩|(rw[hm];exact cA (by rw[aI g1];omega) (by rw[aY (by omega)];exact Nat.le_refl _))|omega|(rw[show(i+1).toNat=i.toNat+1 from by omega, <-cJ (by omega), <-hm,dI (by rw[hm,aY (by omega)];rfl),he])|(rw[hm,aI g1];exact⟨trivial,rfl⟩)|(rw[hm,show i.toNat=es.length from by omega,cI])|trivial|(refine⟨hr1,?_⟩;simp only[ao,aj,Nat.add_zero];omega)|trace_state
theorem nE (es:List (List L))(d:DV)(hp:d=.one (.s 2 es)/\Rw [tI,.sl [tI]] es/\aj es<=1099511627776):aP Tryz.prog 85 [.one (.s 2 es),d] [.one (.v (.bool true))]:=by
 obtain⟨rfl,hw,hlim⟩:=hp;have hwf:Wf [.v (.int .i64 0),.s 1 []] es:=hw.wf;have hlen:es.length<=1099511627776:=Nat.le_trans (Nat.le_add_right _ _) hlim;refine ai LRefObjS.B ag mixed 27 _ [4] [.tmp 4] Tryz.func85 rfl rfl rfl rfl rfl ?_;intro O r (F:LRefObjS.Fns) hO hr (hF:F=LRefObjS.F0);cbv;refine aG (fun hb=>?_) (fun hb=>?_)<;>cbv
 ·(subst hO hr hF;(try simp only[af,SS,sa,az]at*);(try simp only[nc]at*);(try simp only[aF]at*));exact absurd rfl hb
 ·clear hb;refine⟨[0,1,5],[],Int,fun i=>[.reg 5 (.one (.v (.int .i64 i)))],fun i=>0<=i/\i.toNat<=es.length,fun i=>es.length-i.toNat,⟨0,?_,?_⟩,?_⟩
  ·exact⟨by omega,Nat.zero_le _⟩
  ·cbv
  ·rintro i hi;replace hi:0<=i/\i.toNat<=es.length:=hi;obtain⟨g0,g1⟩:=hi;cbv
   repeat' first|refine And.intro ?_ ?_|(refine aG (fun hb=>?_) (fun hb=>?_)<;>cbv)|(refine aa (O.ar .add .i64 i 1) ?_ ?_ ?_;rotate_left 2;focus (cbv;done))
   all_goals(subst hO hr hF;(try simp only[af,SS,sa,az]at*);(try simp only[nc]at*);(try simp only[aF]at*))
   all_goals(try simp only[LRefObjS.F0]at*)
   all_goals try have hlt:i<es.length:=by assumption
   all_goals try rw[bP (n:=es.length) g0 hlt (by omega)]
   all_goals try have he:es.getD i.toNat []=[.v (.int .i64 (ab es i 0)),.s 1 (ay es i 1)]:=(aw hwf g0 hlt).symm
   all_goals try have hr1:Rw [tI] (ay es i 1):=Rw.sub (fs:=[tI,.sl [tI]]) hw (by omega) rfl
   all_goals try have hct:=aX (es:=es) (n:=i.toNat) (by omega);rw[he]at hct;simp only[bR,cv,Nat.add_zero,Nat.zero_add]at hct
   all_goals have hle1:=ap (es:=es) (n:=i.toNat+1)
   all_goals have hcE:aj es=es.length+aH es:=rfl
   all_goals first|omega|exact bQ hwf g0 hlt|trivial|(refine⟨trivial,hr1,?_⟩;simp only[ao,aj,Nat.add_zero];omega)|trace_state
namespace LRefHeap
structure Fns where
 szN:List (List (List L))->Int->Int
def F0 :Fns:=⟨aZ⟩
def ct (F:Fns):CT:=fun f ds=>match f,ds with
 |80,[.one (.s 2 es),.one (.v (.int .i64 left))]=>some (fun _=>Rw [tI,.sl [tI]] es/\0<=left/\left<=1048576,[.one (.v (.int .i64 (F.szN [es] left)))])
 |83,[.one (.s 2 es)]=>some (fun _=>Rw [tI,.sl [tI]] es/\aj es<=1048576,[.one (.s 2 es)])
 |85,[.one (.s 2 es),d]=>some (fun _=>d=.one (.s 2 es)/\Rw [tI,.sl [tI]] es/\aj es<=1099511627776,[.one (.v (.bool true))])
 |_,_=>none
theorem ak :aW Tryz.prog (ct F0):=by
 intro f ds pre res h hp;unfold ct at h;split at h<;>(try split at h)<;>cases h
 exact nL _ _ hp;exact nO _ hp;exact nE _ _ hp
def B :TB Tryz.prog:=tb ak
end LRefHeap
theorem nK (a0:Int)(a1:List (List L))(left:Int)(hp:Rw [tI,.sl [tI]] a1/\0<=left/\left<=1048576):aP Tryz.prog 21 [.agg [.v (.int .i64 a0),.s 2 a1],.one (.v (.int .i64 left))] [.one (.v (.int .i64 (aZ [a1] left)))]:=by
 obtain⟨w0,h0,h1⟩:=hp;refine ai LRefHeap.B ag mixed 12 _ [3] [.tmp 4] Tryz.func21 rfl rfl rfl rfl rfl ?_;intro O r (F:LRefHeap.Fns) hO hr (hF:F=LRefHeap.F0);cbv
 repeat' first|refine And.intro ?_ ?_|(refine aG (fun hb=>?_) (fun hb=>?_)<;>cbv)
 all_goals(subst hO hr hF;(try simp only[af,SS,sa,az]at*);(try simp only[nc]at*);(try simp only[aF]at*))
 all_goals(try simp only[LRefHeap.F0]at*)
 all_goals iterate 1 (try simp(disch:=assumption) only[eh,List.cons_append,List.nil_append]at*)
 all_goals first|trivial|(rw[dD (by assumption)])|trace_state
theorem nN (a0:Int)(a1:List (List L))(hp:Rw [tI,.sl [tI]] a1/\ao [a1]<=1048576):aP Tryz.prog 23 [.agg [.v (.int .i64 a0),.s 2 a1]] [.agg [.v (.int .i64 a0),.s 2 a1]]:=by
 obtain⟨w0,hlim⟩:=hp;simp only[ao,Nat.add_zero]at hlim;refine ai LRefHeap.B ag mixed 12 _ [92] [.cell 2 92] Tryz.func23 rfl rfl rfl rfl rfl ?_;intro O r (F:LRefHeap.Fns) hO hr (hF:F=LRefHeap.F0);cbv
 repeat' first|refine And.intro ?_ ?_|(refine aG (fun hb=>?_) (fun hb=>?_)<;>cbv)
 all_goals(subst hO hr hF;(try simp only[af,SS,sa,az]at*);(try simp only[nc]at*);(try simp only[aF]at*))
 all_goals(try simp only[LRefHeap.F0]at*)
 all_goals first|trivial|trace_state
theorem nD (a0:Int)(a1:List (List L))(d:DV)(hp:d=.agg [.v (.int .i64 a0),.s 2 a1]/\Rw [tI,.sl [tI]] a1/\ao [a1]<=1099511627776):aP Tryz.prog 25 [.agg [.v (.int .i64 a0),.s 2 a1],d] [.one (.v (.bool true))]:=by
 obtain⟨rfl,w0,hlim⟩:=hp;simp only[ao,Nat.add_zero]at hlim;refine ai LRefHeap.B ag mixed 16 _ [4] [.tmp 4] Tryz.func25 rfl rfl rfl rfl rfl ?_;intro O r (F:LRefHeap.Fns) hO hr (hF:F=LRefHeap.F0);cbv
 repeat' first|refine And.intro ?_ ?_|(refine aG (fun hb=>?_) (fun hb=>?_)<;>cbv)
 all_goals(subst hO hr hF;(try simp only[af,SS,sa,az]at*);(try simp only[nc]at*);(try simp only[aF]at*))
 all_goals(try simp only[LRefHeap.F0]at*)
 all_goals first|trivial|trace_state
end Go.V