/-
  Contracts, by evaluation.
-/
import Derived.Test.YtniaaknbbceigaaGreatS10
import Derived.Test.YtniaaknbbceigaaGreatLawHAq
import Derived.Test.YtniaaknbbceigaaGreatLawHEq
import Derived.Test.YtniaaknbbceigaaGreatVE
set_option linter.all false
namespace Go.V
open Go Go.Proofs
set_option maxRecDepth 1000000
set_option maxHeartbeats 8000000
namespace LCache
structure Fns where
 szN:List (List (List L))->Int->Int
def F0 :Fns:=⟨aZ⟩
def ct (F:Fns):CT:=fun f ds=>match f,ds with
 |115,[.one (.s 1 es),.one (.v (.int .i64 left))]=>some (fun _=>Rw [.sl [tI]] es/\0<=left/\left<=1048576,[.one (.v (.int .i64 (F.szN [es] left)))])
 |139,[.one (.s 1 es)]=>some (fun _=>Rw [.sl [tI]] es/\aj es<=1048576,[.one (.s 1 es)])
 |163,[.one (.s 1 es),d]=>some (fun _=>d=.one (.s 1 es)/\Rw [.sl [tI]] es/\aj es<=1099511627776,[.one (.v (.bool true))])
 |_,_=>none
theorem ak :aW Tryz.prog (ct F0):=by
 intro f ds pre res h hp;unfold ct at h;split at h<;>(try split at h)<;>cases h
 exact gp _ _ hp;exact gq _ hp;exact gn _ _ hp
def B :TB Tryz.prog:=tb ak
end LCache
theorem rN (a0:List (List L))(left:Int)(hp:Rw [.sl [tI]] a0/\0<=left/\left<=1048576):aP Tryz.prog 113 [.agg [.s 1 a0],.one (.v (.int .i64 left))] [.one (.v (.int .i64 (aZ [a0] left)))]:=by
 obtain⟨w0,h0,h1⟩:=hp;refine ai LCache.B ag mixed 12 _ [3] [.tmp 4] Tryz.func113 rfl rfl rfl rfl rfl ?_;intro O r (F:LCache.Fns) hO hr (hF:F=LCache.F0);cbv
 repeat' first|refine And.intro ?_ ?_|(refine aG (fun hb=>?_) (fun hb=>?_)<;>cbv)
 all_goals(subst hO hr hF;(try simp only[af,SS,sa,az]at*);(try simp only[nc]at*);(try simp only[aF]at*))
 all_goals(try simp only[LCache.F0]at*)
 all_goals iterate 1 (try simp(disch:=assumption) only[eh,List.cons_append,List.nil_append]at*)
 all_goals first|trivial|(rw[dD (by assumption)])|trace_state
theorem rS (a0:List (List L))(hp:Rw [.sl [tI]] a0/\ao [a0]<=1048576):aP Tryz.prog 137 [.agg [.s 1 a0]] [.agg [.s 1 a0]]:=by
 obtain⟨w0,hlim⟩:=hp;simp only[ao,Nat.add_zero]at hlim;refine ai LCache.B ag mixed 9 _ [160] [.cell 2 160] Tryz.func137 rfl rfl rfl rfl rfl ?_;intro O r (F:LCache.Fns) hO hr (hF:F=LCache.F0);cbv
 repeat' first|refine And.intro ?_ ?_|(refine aG (fun hb=>?_) (fun hb=>?_)<;>cbv)
 all_goals(subst hO hr hF;(try simp only[af,SS,sa,az]at*);(try simp only[nc]at*);(try simp only[aF]at*))
 all_goals(try simp only[LCache.F0]at*)
 all_goals first|trivial|trace_state
theorem rD (a0:List (List L))(d:DV)(hp:d=.agg [.s 1 a0]/\Rw [.sl [tI]] a0/\ao [a0]<=1099511627776):aP Tryz.prog 161 [.agg [.s 1 a0],d] [.one (.v (.bool true))]:=by
 obtain⟨rfl,w0,hlim⟩:=hp;simp only[ao,Nat.add_zero]at hlim;refine ai LCache.B ag mixed 11 _ [4] [.tmp 4] Tryz.func161 rfl rfl rfl rfl rfl ?_;intro O r (F:LCache.Fns) hO hr (hF:F=LCache.F0);cbv
 repeat' first|refine And.intro ?_ ?_|(refine aG (fun hb=>?_) (fun hb=>?_)<;>cbv)
 all_goals(subst hO hr hF;(try simp only[af,SS,sa,az]at*);(try simp only[nc]at*);(try simp only[aF]at*))
 all_goals(try simp only[LCache.F0]at*)
 all_goals first|trivial|trace_state
namespace LCacheS
structure Fns where
 szN:List (List (List L))->Int->Int
def F0 :Fns:=⟨aZ⟩
def ct (F:Fns):CT:=fun f ds=>match f,ds with
 |113,[.agg [.s 1 a0],.one (.v (.int .i64 left))]=>some (fun _=>Rw [.sl [tI]] a0/\0<=left/\left<=1048576,[.one (.v (.int .i64 (F.szN [a0] left)))])
 |137,[.agg [.s 1 a0]]=>some (fun _=>Rw [.sl [tI]] a0/\ao [a0]<=1048576,[.agg [.s 1 a0]])
 |161,[.agg [.s 1 a0],d]=>some (fun _=>d=.agg [.s 1 a0]/\Rw [.sl [tI]] a0/\ao [a0]<=1099511627776,[.one (.v (.bool true))])
 |_,_=>none
theorem ak :aW Tryz.prog (ct F0):=by
 intro f ds pre res h hp;unfold ct at h;split at h<;>(try split at h)<;>cases h
 exact rN _ _ hp;exact rS _ hp;exact rD _ _ hp
def B :TB Tryz.prog:=tb ak
end LCacheS
namespace MCacheS
structure Fns where
 kN:List (List (List L))->Int->Int
 mkN:List (List L)->Int->List (List L)
def F0 :Fns:=⟨aS,bN⟩
def mt (F:Fns):MT:=fun f=>match f with
 | 192=>some fun ds=>match ds with
   |[.one (.s 1 es),.one (.v (.int .i64 k))]=>some (fun _=>Rw [.sl [tI]] es/\aj es<=1099511627776/\0<=k/\aS [es] k<=1152921504606846976,[.s 1 (F.mkN es k)],[.one (.v (.int .i64 (F.kN [es] k)))])
   |_=>none
 |_=>none
theorem cL :ga Tryz.prog (mt F0):=by
 intro f mk h ds pre outs res hm hp;unfold mt at h;split at h
 ·cases h;dsimp only at hm;split at hm
  ·cases hm;exact eX _ _ hp
  ·cases hm
 ·cases h
def B :TB Tryz.prog:={Φ:=Fns,F0:=F0,mt:=mt,hm:=cL}
end MCacheS
theorem pT (es:List (List L))(left:Int)(hp:Rw [.sl [.sl [tI]]] es/\0<=left/\left<=1048576):aP Tryz.prog 40 [.one (.s 1 es),.one (.v (.int .i64 left))] [.one (.v (.int .i64 (aZ [es] left)))]:=by
 obtain⟨hw,h0,h1⟩:=hp;have hwf:Wf [.s 1 []] es:=hw.wf;have hm:=hw.1;unfold maxLen at hm;have hs:aV .sub .i64 left es.length=left-es.length:=cH (by omega);have hcE:aj es=es.length+aH es:=rfl;have hn:aZ [es] left=if left<aj es then-1 else left-aj es:=by unfold aZ;rw[cz]
 refine ai LCacheS.B ag mixed 27 _ [3] [.tmp 4] Tryz.func40 rfl rfl rfl rfl rfl ?_;intro O r (F:LCacheS.Fns) hO hr (hF:F=LCacheS.F0);cbv;refine aG (fun hb=>?_) (fun hb=>?_)<;>cbv
 ·repeat' first|refine And.intro ?_ ?_|(refine aG (fun hb=>?_) (fun hb=>?_)<;>cbv)
  all_goals(subst hO hr hF;(try simp only[af,SS,sa,az]at*);(try simp only[nc]at*);(try simp only[aF]at*))
  all_goals(try simp only[hs,LCacheS.F0]at*)
  all_goals first|trivial|(rw[hn,if_pos (by omega)])|trace_state
 have hb0:0<=left-es.length:=by
  (subst hO hr hF;(try simp only[af,SS,sa,az]at*);(try simp only[nc]at*);(try simp only[aF]at*))
  rw[hs]at hb;exact hb
 clear hb;refine⟨[0,1,5],[],Int×Int,fun s=>match s with|(i,l)=>[.reg 5 (.one (.v (.int .i64 i))),.reg 1 (.one (.v (.int .i64 l)))],fun s=>0<=s.1/\s.1.toNat<=es.length/\0<=s.2/\s.2=left-es.length-aH (es.take s.1.toNat),fun s=>es.length-s.1.toNat,⟨(0,O.ar .sub .i64 left (O.zi (O.ln es))),?_,?_⟩,?_⟩
 ·(subst hO hr hF;(try simp only[af,SS,sa,az]at*);(try simp only[nc]at*);(try simp only[aF]at*))
  rw[hs];exact⟨by omega,Nat.zero_le _,hb0,by simp[aH]⟩
 ·cbv
 ·rintro⟨i,l⟩ hi;replace hi:0<=i/\i.toNat<=es.length/\0<=l/\l=left-es.length-aH (es.take i.toNat):=hi;obtain⟨g0,g1,g2,g3⟩:=hi;cbv
  repeat' first|refine And.intro ?_ ?_|(refine aG (fun hb=>?_) (fun hb=>?_)<;>cbv)|(refine aa (O.ar .add .i64 i 1,F.szN [O.gs es i 0] l) ?_ ?_ ?_;rotate_left 2;focus (cbv;done))
  all_goals(subst hO hr hF;(try simp only[af,SS,sa,az]at*);(try simp only[nc]at*);(try simp only[aF]at*))
  all_goals try have hlt:i<es.length:=by assumption
  all_goals try rw[bP (n:=es.length) g0 hlt (by omega)]
  all_goals(try simp only[LCacheS.F0]at*)
  all_goals try have he:es.getD i.toNat []=[.s 1 (ay es i 0)]:=(aw hwf g0 hlt).symm
  all_goals try have hr0:Rw [.sl [tI]] (ay es i 0):=Rw.sub (fs:=[.sl [.sl [tI]]]) hw (by omega) rfl
  all_goals try have hct:=aX (es:=es) (n:=i.toNat) (by omega);rw[he]at hct;simp only[bR,cv,Nat.add_zero,Nat.zero_add]at hct
  all_goals have hle:=ap (es:=es) (n:=i.toNat)
  all_goals have hle1:=ap (es:=es) (n:=i.toNat+1)
  all_goals have hsz:=eo (a:=[ay es i 0]) (left:=l)
  all_goals have hsz2:0<=aZ [ay es i 0] l->aZ [ay es i 0] l=l-ao [ay es i 0]:=kM
  all_goals simp only[ao,aj,Nat.add_zero]at hsz hsz2
  all_goals first|exact bQ hwf g0 hlt|exact⟨hr0,by omega,by omega⟩|trivial|omega|(rw[hn,if_pos];omega)|(rw[hn,if_neg (by rw[show i.toNat=es.length from by omega,List.take_length]at g3;omega),show l=left-aj es from by rw[show i.toNat=es.length from by omega,List.take_length]at g3;omega])|(rw[show(i+1).toNat=i.toNat+1 from by omega,hct];omega)|trace_state
theorem qd (es:List (List L))(hp:Rw [.sl [.sl [tI]]] es/\aj es<=1048576):aP Tryz.prog 51 [.one (.s 1 es)] [.one (.s 1 es)]:=by
 obtain⟨hw,hlim⟩:=hp;have hwf:Wf [.s 1 []] es:=hw.wf;have hlen:es.length<=1048576:=Nat.le_trans (Nat.le_add_right _ _) hlim;refine ai LCacheS.B ag mixed 23 _ [65] [.tmp 2] Tryz.func51 rfl rfl rfl rfl rfl ?_;intro O r (F:LCacheS.Fns) hO hr (hF:F=LCacheS.F0);cbv;have h0z:bH es [.s 1 []] 0=O.rep (O.zi (O.ln es)) [.s 1 []]:=by
  subst hO;rw[cf];rfl
 refine⟨?_,?_,[0,3,4],[3],Int×List (List L),fun s=>[.reg 4 (.one (.v (.int .i64 s.1))),.leaf 3 0 ⟨0,0,none,.own (.s 1 s.2)⟩],fun s=>0<=s.1/\s.1.toNat<=es.length/\s.2=bH es [.s 1 []] s.1.toNat,fun s=>es.length-s.1.toNat,⟨(0,O.rep (O.zi (O.ln es)) [.s 1 []]),?_,?_⟩,?_⟩
 ·subst hO;exact iq (b:=24) (show es.length*_<=_ by omega) (show es.length<=_ by omega)
 ·subst hO;exact⟨rfl,rfl⟩
 ·exact⟨by omega,Nat.zero_le _,h0z.symm⟩
 ·cbv
 ·rintro⟨i,m⟩ hi;replace hi:0<=i/\i.toNat<=es.length/\m=bH es [.s 1 []] i.toNat:=hi;obtain⟨g0,g1,hm⟩:=hi;cbv
  repeat' first|refine And.intro ?_ ?_|(refine aG (fun hb=>?_) (fun hb=>?_)<;>cbv)|(refine aa (O.ar .add .i64 i 1,O.up (.s 1 m) [(O.ad 0 i,0)] [.s 1 (O.gs es i 0)]) ?_ ?_ ?_;rotate_left 2;focus (cbv;done))
  all_goals(subst hO hr hF;(try simp only[af,SS,sa,az]at*);(try simp only[nc]at*);(try simp only[aF]at*))
  all_goals(try simp only[LCacheS.F0,lL,List.length_replicate,Int.toNat_natCast]at*)
  all_goals try have hlt:i<es.length:=by assumption
  all_goals try rw[bP (n:=es.length) g0 hlt (by omega)]
  all_goals try have he:es.getD i.toNat []=[.s 1 (ay es i 0)]:=(aw hwf g0 hlt).symm
  all_goals try have hr0:Rw [.sl [tI]] (ay es i 0):=Rw.sub (fs:=[.sl [.sl [tI]]]) hw (by omega) rfl
  all_goals try have hct:=aX (es:=es) (n:=i.toNat) (by omega);rw[he]at hct;simp only[bR,cv,Nat.add_zero,Nat.zero_add]at hct
  all_goals have hle1:=ap (es:=es) (n:=i.toNat+1)
  all_goals have hcE:aj es=es.length+aH es:=rfl
  all_goals first|exact bQ hwf g0 hlt|exact⟨g0,hlt⟩|(rw[hm];exact cA (by rw[aI g1];omega) (by rw[aY (by omega)];exact Nat.le_refl _))|omega|(rw[show(i+1).toNat=i.toNat+1 from by omega, <-cJ (by omega), <-hm,dI (by rw[hm,aY (by omega)];rfl),he])|(rw[hm,aI g1];exact⟨trivial,rfl⟩)|(rw[hm,show i.toNat=es.length from by omega,cI])|trivial|(refine⟨hr0,?_⟩;simp only[ao,aj,Nat.add_zero];omega)|trace_state
theorem pF (es:List (List L))(d:DV)(hp:d=.one (.s 1 es)/\Rw [.sl [.sl [tI]]] es/\aj es<=1099511627776):aP Tryz.prog 62 [.one (.s 1 es),d] [.one (.v (.bool true))]:=by
 obtain⟨rfl,hw,hlim⟩:=hp;have hwf:Wf [.s 1 []] es:=hw.wf;have hlen:es.length<=1099511627776:=Nat.le_trans (Nat.le_add_right _ _) hlim;refine ai LCacheS.B ag mixed 27 _ [4] [.tmp 4] Tryz.func62 rfl rfl rfl rfl rfl ?_;intro O r (F:LCacheS.Fns) hO hr (hF:F=LCacheS.F0);cbv;refine aG (fun hb=>?_) (fun hb=>?_)<;>cbv
 ·(subst hO hr hF;(try simp only[af,SS,sa,az]at*);(try simp only[nc]at*);(try simp only[aF]at*));exact absurd rfl hb
 ·clear hb;refine⟨[0,1,5],[],Int,fun i=>[.reg 5 (.one (.v (.int .i64 i)))],fun i=>0<=i/\i.toNat<=es.length,fun i=>es.length-i.toNat,⟨0,?_,?_⟩,?_⟩
  ·exact⟨by omega,Nat.zero_le _⟩
  ·cbv
  ·rintro i hi;replace hi:0<=i/\i.toNat<=es.length:=hi;obtain⟨g0,g1⟩:=hi;cbv
   repeat' first|refine And.intro ?_ ?_|(refine aG (fun hb=>?_) (fun hb=>?_)<;>cbv)|(refine aa (O.ar .add .i64 i 1) ?_ ?_ ?_;rotate_left 2;focus (cbv;done))
   all_goals(subst hO hr hF;(try simp only[af,SS,sa,az]at*);(try simp only[nc]at*);(try simp only[aF]at*))
   all_goals(try simp only[LCacheS.F0]at*)
   all_goals try have hlt:i<es.length:=by assumption
   all_goals try rw[bP (n:=es.length) g0 hlt (by omega)]
   all_goals try have he:es.getD i.toNat []=[.s 1 (ay es i 0)]:=(aw hwf g0 hlt).symm
   all_goals try have hr0:Rw [.sl [tI]] (ay es i 0):=Rw.sub (fs:=[.sl [.sl [tI]]]) hw (by omega) rfl
   all_goals try have hct:=aX (es:=es) (n:=i.toNat) (by omega);rw[he]at hct;simp only[bR,cv,Nat.add_zero,Nat.zero_add]at hct
   all_goals have hle1:=ap (es:=es) (n:=i.toNat+1)
   all_goals have hcE:aj es=es.length+aH es:=rfl
   all_goals first|omega|exact bQ hwf g0 hlt|trivial|(refine⟨trivial,hr0,?_⟩;simp only[ao,aj,Nat.add_zero];omega)|trace_state
theorem l7 (es:List (List L))(k:Int)(hp:Rw [.sl [.sl [tI]]] es/\aj es<=1099511627776/\0<=k/\aS [es] k<=1152921504606846976):eF Tryz.prog 107 [.one (.s 1 es),.one (.v (.int .i64 k))] [.s 1 (bN es k)] [.one (.v (.int .i64 (aS [es] k)))]:=by
 obtain⟨hw,hlim,hk0,hkb⟩:=hp;have hwf:Wf [.s 1 []] es:=hw.wf;have hlen:es.length<=1099511627776:=Nat.le_trans (Nat.le_add_right _ _) hlim;refine dd MCacheS.B ag mixed 20 _ [3] [.tmp 4] [(0,0)] Tryz.func107 rfl rfl rfl rfl rfl rfl rfl ?_;intro O r os (F:MCacheS.Fns) hO hr hos (hF:F=MCacheS.F0);cbv;refine⟨[0,1,5],[0],Int×Int×List (List L),fun s=>match s with|(i,k',cur)=>[.reg 5 (.one (.v (.int .i64 i))),.reg 1 (.one (.v (.int .i64 k'))),.leaf 0 0 ⟨0,0,some 0,.own (.s 1 cur)⟩],fun s=>0<=s.1/\s.1.toNat<=es.length/\s.2.1=gP es k s.1.toNat/\s.2.2=dQ es k s.1.toNat,fun s=>es.length-s.1.toNat,⟨(0,k,es),?_,?_⟩,?_⟩
 ·exact⟨by omega,Nat.zero_le _,bB.symm,cU.symm⟩
 ·cbv
 ·rintro⟨i,k',cur⟩ hi;replace hi:0<=i/\i.toNat<=es.length/\k'=gP es k i.toNat/\cur=dQ es k i.toNat:=hi;obtain⟨g0,g1,hk',hc⟩:=hi;cbv
  repeat' first|refine And.intro ?_ ?_|(refine aG (fun hb=>?_) (fun hb=>?_)<;>cbv)|(refine aa (O.ar .add .i64 i 1,F.kN [O.ps (.s 1 (cur)) [(O.ad 0 i,0)]] (k'),O.up (.s 1 (cur)) [(O.ad 0 i,0)] [.s 1 (F.mkN (O.ps (.s 1 (cur)) [(O.ad 0 i,0)]) (k'))]) ?_ ?_ ?_;rotate_left 2;focus (cbv;done))
  all_goals((try subst hos);subst hO hr hF;(try simp only[af,SS,sa,az]at*);(try simp only[nc]at*);(try simp only[aF]at*))
  all_goals(try simp only[MCacheS.F0]at*)
  all_goals try have hlt:i<es.length:=by assumption
  all_goals try rw[bP (n:=es.length) g0 hlt (by omega)]
  all_goals try have hlt':i.toNat<es.length:=by omega
  all_goals try have he:es.getD i.toNat []=[.s 1 (ay es i 0)]:=(aw hwf g0 hlt).symm
  all_goals try have hr0:Rw [.sl [tI]] (ay es i 0):=Rw.sub (fs:=[.sl [.sl [tI]]]) hw (by omega) rfl
  all_goals try have hct:=aX (es:=es) (n:=i.toNat) (by omega);rw[he]at hct;simp only[bR,cv,Nat.add_zero,Nat.zero_add]at hct
  all_goals try have hks:=cX (es:=es) (k:=k) hlt';rw[he]at hks;simp only[fJ,eT]at hks
  all_goals try have hms:=dA (es:=es) (k:=k) hlt';rw[he]at hms;simp only[fJ,eT]at hms
  all_goals have hle1:=ap (es:=es) (n:=i.toNat+1)
  all_goals have hcE:aj es=es.length+aH es:=rfl
  all_goals have hk1:=bZ (es:=es) (k:=k) (n:=i.toNat)
  all_goals have hk2:=bZ (es:=es) (k:=k) (n:=i.toNat+1)
  all_goals have hk3:=dY (es:=es) (k:=k)
  all_goals have hk4:=bZ (es:=es) (k:=k) (n:=es.length)
  all_goals have hk5:=bu (es:=es) (m:=0) (n:=i.toNat) g1 (Nat.zero_le _)
  all_goals have hk6:=bu (es:=es) (m:=i.toNat) (n:=es.length) (Nat.le_refl _) g1
  all_goals try have hk7:=bu (es:=es) (m:=i.toNat+1) (n:=es.length) (Nat.le_refl _) hlt'
  all_goals rw[bB]at hk5
  all_goals try have hk8:=cW (es:=es) (n:=i.toNat) hlt'
  all_goals try have hcl:i.toNat<cur.length:=by rw[hc,b9 g1];exact hlt'
  all_goals try have hcg:cur.getD i.toNat []=[.s 1 (ay es i 0)]:=by rw[hc,cT g1];exact he
  all_goals have ha1:aV .add .i64 k' 1=k'+1:=aB (by omega)
  all_goals have ha2:aV .add .i64 (k'+1) 1=k'+1+1:=aB (by omega)
  all_goals have ha3:aV .add .i64 (k'+1+1) 1=k'+1+1+1:=aB (by omega)
  all_goals have ha4:aV .add .i64 (k'+1+1+1) 1=k'+1+1+1+1:=aB (by omega)
  all_goals try simp only[ha1,ha2,ha3,ha4]
  all_goals try simp only[az]
  all_goals try simp only[dE,hcg,List.take,List.drop,List.length_cons,List.length_nil,List.nil_append,List.cons_append,List.append_nil,Nat.zero_add,Nat.reduceAdd,aE hcl,List.set_set,List.append_assoc]
  all_goals try simp only[dw,hcg,aE hcl,List.getD_cons_zero,List.getD_cons_succ,tV]
  all_goals try simp only[dX hcl,dp hcl,ef hcl,dy hcl,hcg,List.getElem?_cons_zero,List.getElem?_cons_succ]
  all_goals first|exact⟨g0,hlt⟩|(refine⟨_,_,rfl,by simp,?_⟩;show List.take _ (List.drop _ _)=[L.s _ (pc _ _)];simp only[pm,dw,hcg,aE hcl,List.getD_cons_zero,List.getD_cons_succ,Nat.add_zero,tV];rfl)|exact⟨trivial,_,rfl,rfl⟩|exact⟨_,rfl⟩|omega|(rw[hk',show i.toNat=es.length from by omega,hk3];done)|(rw[hc,show i.toNat=es.length from by omega,dz];rfl)|(rw[show(i+1).toNat=i.toNat+1 from by omega,hks,hk'];rfl)|(rw[show(i+1).toNat=i.toNat+1 from by omega, <-hms,hc,hk'];rfl)|(refine⟨hr0,?_,?_,?_⟩<;>(try simp only[aj,aS])<;>first|omega|(rw[hk'];omega))|trace_state
namespace LPostSS
structure Fns where
 szN:List (List (List L))->Int->Int
def F0 :Fns:=⟨aZ⟩
def ct (F:Fns):CT:=fun f ds=>match f,ds with
 |198,[.one (.s 2 es),.one (.v (.int .i64 left))]=>some (fun _=>Rw [tI,tI] es/\0<=left/\left<=1048576,[.one (.v (.int .i64 (F.szN [es] left)))])
 |212,[.one (.s 2 es)]=>some (fun _=>Rw [tI,tI] es/\aj es<=1048576,[.one (.s 2 es)])
 |231,[.one (.s 2 es),d]=>some (fun _=>d=.one (.s 2 es)/\Rw [tI,tI] es/\aj es<=1099511627776,[.one (.v (.bool true))])
 |_,_=>none
theorem ak :aW Tryz.prog (ct F0):=by
 intro f ds pre res h hp;unfold ct at h;split at h<;>(try split at h)<;>cases h
 exact rO _ _ hp;exact rV _ hp;exact rG _ _ hp
def B :TB Tryz.prog:=tb ak
end LPostSS
namespace MPostSS
structure Fns where
 kN:List (List (List L))->Int->Int
 mkN:List (List L)->Int->List (List L)
def F0 :Fns:=⟨aS,bN⟩
def mt (F:Fns):MT:=fun f=>match f with
 | 241=>some fun ds=>match ds with
   |[.one (.s 2 es),.one (.v (.int .i64 k))]=>some (fun _=>Rw [tI,tI] es/\aj es<=1099511627776/\0<=k/\aS [es] k<=1152921504606846976,[.s 2 (F.mkN es k)],[.one (.v (.int .i64 (F.kN [es] k)))])
   |_=>none
 |_=>none
theorem cL :ga Tryz.prog (mt F0):=by
 intro f mk h ds pre outs res hm hp;unfold mt at h;split at h
 ·cases h;dsimp only at hm;split at hm
  ·cases hm;exact nG _ _ hp
  ·cases hm
 ·cases h
def B :TB Tryz.prog:={Φ:=Fns,F0:=F0,mt:=mt,hm:=cL}
end MPostSS
theorem pY (es:List (List L))(left:Int)(hp:Rw [.sl [tI,tI]] es/\0<=left/\left<=1048576):aP Tryz.prog 114 [.one (.s 1 es),.one (.v (.int .i64 left))] [.one (.v (.int .i64 (aZ [es] left)))]:=by
 obtain⟨hw,h0,h1⟩:=hp;have hwf:Wf [.s 2 []] es:=hw.wf;have hm:=hw.1;unfold maxLen at hm;have hs:aV .sub .i64 left es.length=left-es.length:=cH (by omega);have hcE:aj es=es.length+aH es:=rfl;have hn:aZ [es] left=if left<aj es then-1 else left-aj es:=by unfold aZ;rw[cz]
 refine ai LPostSS.B ag mixed 27 _ [3] [.tmp 4] Tryz.func114 rfl rfl rfl rfl rfl ?_;intro O r (F:LPostSS.Fns) hO hr (hF:F=LPostSS.F0);cbv;refine aG (fun hb=>?_) (fun hb=>?_)<;>cbv
 ·repeat' first|refine And.intro ?_ ?_|(refine aG (fun hb=>?_) (fun hb=>?_)<;>cbv)
  all_goals(subst hO hr hF;(try simp only[af,SS,sa,az]at*);(try simp only[nc]at*);(try simp only[aF]at*))
  all_goals(try simp only[hs,LPostSS.F0]at*)
  all_goals first|trivial|(rw[hn,if_pos (by omega)])|trace_state
 have hb0:0<=left-es.length:=by
  (subst hO hr hF;(try simp only[af,SS,sa,az]at*);(try simp only[nc]at*);(try simp only[aF]at*))
  rw[hs]at hb;exact hb
 clear hb;refine⟨[0,1,5],[],Int×Int,fun s=>match s with|(i,l)=>[.reg 5 (.one (.v (.int .i64 i))),.reg 1 (.one (.v (.int .i64 l)))],fun s=>0<=s.1/\s.1.toNat<=es.length/\0<=s.2/\s.2=left-es.length-aH (es.take s.1.toNat),fun s=>es.length-s.1.toNat,⟨(0,O.ar .sub .i64 left (O.zi (O.ln es))),?_,?_⟩,?_⟩
 ·(subst hO hr hF;(try simp only[af,SS,sa,az]at*);(try simp only[nc]at*);(try simp only[aF]at*))
  rw[hs];exact⟨by omega,Nat.zero_le _,hb0,by simp[aH]⟩
 ·cbv
 ·rintro⟨i,l⟩ hi;replace hi:0<=i/\i.toNat<=es.length/\0<=l/\l=left-es.length-aH (es.take i.toNat):=hi;obtain⟨g0,g1,g2,g3⟩:=hi;cbv
  repeat' first|refine And.intro ?_ ?_|(refine aG (fun hb=>?_) (fun hb=>?_)<;>cbv)|(refine aa (O.ar .add .i64 i 1,F.szN [O.gs es i 0] l) ?_ ?_ ?_;rotate_left 2;focus (cbv;done))
  all_goals(subst hO hr hF;(try simp only[af,SS,sa,az]at*);(try simp only[nc]at*);(try simp only[aF]at*))
  all_goals try have hlt:i<es.length:=by assumption
  all_goals try rw[bP (n:=es.length) g0 hlt (by omega)]
  all_goals(try simp only[LPostSS.F0]at*)
  all_goals try have he:es.getD i.toNat []=[.s 2 (ay es i 0)]:=(aw hwf g0 hlt).symm
  all_goals try have hr0:Rw [tI,tI] (ay es i 0):=Rw.sub (fs:=[.sl [tI,tI]]) hw (by omega) rfl
  all_goals try have hct:=aX (es:=es) (n:=i.toNat) (by omega);rw[he]at hct;simp only[bR,cv,Nat.add_zero,Nat.zero_add]at hct
  all_goals have hle:=ap (es:=es) (n:=i.toNat)
  all_goals have hle1:=ap (es:=es) (n:=i.toNat+1)
  all_goals have hsz:=eo (a:=[ay es i 0]) (left:=l)
  all_goals have hsz2:0<=aZ [ay es i 0] l->aZ [ay es i 0] l=l-ao [ay es i 0]:=kM
  all_goals simp only[ao,aj,Nat.add_zero]at hsz hsz2
  all_goals first|exact bQ hwf g0 hlt|exact⟨hr0,by omega,by omega⟩|trivial|omega|(rw[hn,if_pos];omega)|(rw[hn,if_neg (by rw[show i.toNat=es.length from by omega,List.take_length]at g3;omega),show l=left-aj es from by rw[show i.toNat=es.length from by omega,List.take_length]at g3;omega])|(rw[show(i+1).toNat=i.toNat+1 from by omega,hct];omega)|trace_state
theorem qi (es:List (List L))(hp:Rw [.sl [tI,tI]] es/\aj es<=1048576):aP Tryz.prog 138 [.one (.s 1 es)] [.one (.s 1 es)]:=by
 obtain⟨hw,hlim⟩:=hp;have hwf:Wf [.s 2 []] es:=hw.wf;have hlen:es.length<=1048576:=Nat.le_trans (Nat.le_add_right _ _) hlim;refine ai LPostSS.B ag mixed 23 _ [66] [.tmp 2] Tryz.func138 rfl rfl rfl rfl rfl ?_;intro O r (F:LPostSS.Fns) hO hr (hF:F=LPostSS.F0);cbv;have h0z:bH es [.s 2 []] 0=O.rep (O.zi (O.ln es)) [.s 2 []]:=by
  subst hO;rw[cf];rfl
 refine⟨?_,?_,[0,3,4],[3],Int×List (List L),fun s=>[.reg 4 (.one (.v (.int .i64 s.1))),.leaf 3 0 ⟨0,0,none,.own (.s 1 s.2)⟩],fun s=>0<=s.1/\s.1.toNat<=es.length/\s.2=bH es [.s 2 []] s.1.toNat,fun s=>es.length-s.1.toNat,⟨(0,O.rep (O.zi (O.ln es)) [.s 2 []]),?_,?_⟩,?_⟩
 ·subst hO;exact iq (b:=24) (show es.length*_<=_ by omega) (show es.length<=_ by omega)
 ·subst hO;exact⟨rfl,rfl⟩
 ·exact⟨by omega,Nat.zero_le _,h0z.symm⟩
 ·cbv
 ·rintro⟨i,m⟩ hi;replace hi:0<=i/\i.toNat<=es.length/\m=bH es [.s 2 []] i.toNat:=hi;obtain⟨g0,g1,hm⟩:=hi;cbv
  repeat' first|refine And.intro ?_ ?_|(refine aG (fun hb=>?_) (fun hb=>?_)<;>cbv)|(refine aa (O.ar .add .i64 i 1,O.up (.s 1 m) [(O.ad 0 i,0)] [.s 2 (O.gs es i 0)]) ?_ ?_ ?_;rotate_left 2;focus (cbv;done))
  all_goals(subst hO hr hF;(try simp only[af,SS,sa,az]at*);(try simp only[nc]at*);(try simp only[aF]at*))
  all_goals(try simp only[LPostSS.F0,lL,List.length_replicate,Int.toNat_natCast]at*)
  all_goals try have hlt:i<es.length:=by assumption
  all_goals try rw[bP (n:=es.length) g0 hlt (by omega)]
  all_goals try have he:es.getD i.toNat []=[.s 2 (ay es i 0)]:=(aw hwf g0 hlt).symm
  all_goals try have hr0:Rw [tI,tI] (ay es i 0):=Rw.sub (fs:=[.sl [tI,tI]]) hw (by omega) rfl
  all_goals try have hct:=aX (es:=es) (n:=i.toNat) (by omega);rw[he]at hct;simp only[bR,cv,Nat.add_zero,Nat.zero_add]at hct
  all_goals have hle1:=ap (es:=es) (n:=i.toNat+1)
  all_goals have hcE:aj es=es.length+aH es:=rfl
  all_goals first|exact bQ hwf g0 hlt|exact⟨g0,hlt⟩|(rw[hm];exact cA (by rw[aI g1];omega) (by rw[aY (by omega)];exact Nat.le_refl _))|omega|(rw[show(i+1).toNat=i.toNat+1 from by omega, <-cJ (by omega), <-hm,dI (by rw[hm,aY (by omega)];rfl),he])|(rw[hm,aI g1];exact⟨trivial,rfl⟩)|(rw[hm,show i.toNat=es.length from by omega,cI])|trivial|(refine⟨hr0,?_⟩;simp only[ao,aj,Nat.add_zero];omega)|trace_state
theorem pK (es:List (List L))(d:DV)(hp:d=.one (.s 1 es)/\Rw [.sl [tI,tI]] es/\aj es<=1099511627776):aP Tryz.prog 162 [.one (.s 1 es),d] [.one (.v (.bool true))]:=by
 obtain⟨rfl,hw,hlim⟩:=hp;have hwf:Wf [.s 2 []] es:=hw.wf;have hlen:es.length<=1099511627776:=Nat.le_trans (Nat.le_add_right _ _) hlim;refine ai LPostSS.B ag mixed 27 _ [4] [.tmp 4] Tryz.func162 rfl rfl rfl rfl rfl ?_;intro O r (F:LPostSS.Fns) hO hr (hF:F=LPostSS.F0);cbv;refine aG (fun hb=>?_) (fun hb=>?_)<;>cbv
 ·(subst hO hr hF;(try simp only[af,SS,sa,az]at*);(try simp only[nc]at*);(try simp only[aF]at*));exact absurd rfl hb
 ·clear hb;refine⟨[0,1,5],[],Int,fun i=>[.reg 5 (.one (.v (.int .i64 i)))],fun i=>0<=i/\i.toNat<=es.length,fun i=>es.length-i.toNat,⟨0,?_,?_⟩,?_⟩
  ·exact⟨by omega,Nat.zero_le _⟩
  ·cbv
  ·rintro i hi;replace hi:0<=i/\i.toNat<=es.length:=hi;obtain⟨g0,g1⟩:=hi;cbv
   repeat' first|refine And.intro ?_ ?_|(refine aG (fun hb=>?_) (fun hb=>?_)<;>cbv)|(refine aa (O.ar .add .i64 i 1) ?_ ?_ ?_;rotate_left 2;focus (cbv;done))
   all_goals(subst hO hr hF;(try simp only[af,SS,sa,az]at*);(try simp only[nc]at*);(try simp only[aF]at*))
   all_goals(try simp only[LPostSS.F0]at*)
   all_goals try have hlt:i<es.length:=by assumption
   all_goals try rw[bP (n:=es.length) g0 hlt (by omega)]
   all_goals try have he:es.getD i.toNat []=[.s 2 (ay es i 0)]:=(aw hwf g0 hlt).symm
   all_goals try have hr0:Rw [tI,tI] (ay es i 0):=Rw.sub (fs:=[.sl [tI,tI]]) hw (by omega) rfl
   all_goals try have hct:=aX (es:=es) (n:=i.toNat) (by omega);rw[he]at hct;simp only[bR,cv,Nat.add_zero,Nat.zero_add]at hct
   all_goals have hle1:=ap (es:=es) (n:=i.toNat+1)
   all_goals have hcE:aj es=es.length+aH es:=rfl
   all_goals first|omega|exact bQ hwf g0 hlt|trivial|(refine⟨trivial,hr0,?_⟩;simp only[ao,aj,Nat.add_zero];omega)|trace_state
theorem mf (es:List (List L))(k:Int)(hp:Rw [.sl [tI,tI]] es/\aj es<=1099511627776/\0<=k/\aS [es] k<=1152921504606846976):eF Tryz.prog 193 [.one (.s 1 es),.one (.v (.int .i64 k))] [.s 1 (bN es k)] [.one (.v (.int .i64 (aS [es] k)))]:=by
 obtain⟨hw,hlim,hk0,hkb⟩:=hp;have hwf:Wf [.s 2 []] es:=hw.wf;have hlen:es.length<=1099511627776:=Nat.le_trans (Nat.le_add_right _ _) hlim;refine dd MPostSS.B ag mixed 19 _ [3] [.tmp 4] [(0,0)] Tryz.func193 rfl rfl rfl rfl rfl rfl rfl ?_;intro O r os (F:MPostSS.Fns) hO hr hos (hF:F=MPostSS.F0);cbv;refine⟨[0,1,5],[0],Int×Int×List (List L),fun s=>match s with|(i,k',cur)=>[.reg 5 (.one (.v (.int .i64 i))),.reg 1 (.one (.v (.int .i64 k'))),.leaf 0 0 ⟨0,0,some 0,.own (.s 1 cur)⟩],fun s=>0<=s.1/\s.1.toNat<=es.length/\s.2.1=gP es k s.1.toNat/\s.2.2=dQ es k s.1.toNat,fun s=>es.length-s.1.toNat,⟨(0,k,es),?_,?_⟩,?_⟩
 ·exact⟨by omega,Nat.zero_le _,bB.symm,cU.symm⟩
 ·cbv
 ·rintro⟨i,k',cur⟩ hi;replace hi:0<=i/\i.toNat<=es.length/\k'=gP es k i.toNat/\cur=dQ es k i.toNat:=hi;obtain⟨g0,g1,hk',hc⟩:=hi;cbv
  repeat' first|refine And.intro ?_ ?_|(refine aG (fun hb=>?_) (fun hb=>?_)<;>cbv)|(refine aa (O.ar .add .i64 i 1,F.kN [O.ps (.s 1 (cur)) [(O.ad 0 i,0)]] (k'),O.up (.s 1 (cur)) [(O.ad 0 i,0)] [.s 2 (F.mkN (O.ps (.s 1 (cur)) [(O.ad 0 i,0)]) (k'))]) ?_ ?_ ?_;rotate_left 2;focus (cbv;done))
  all_goals((try subst hos);subst hO hr hF;(try simp only[af,SS,sa,az]at*);(try simp only[nc]at*);(try simp only[aF]at*))
  all_goals(try simp only[MPostSS.F0]at*)
  all_goals try have hlt:i<es.length:=by assumption
  all_goals try rw[bP (n:=es.length) g0 hlt (by omega)]
  all_goals try have hlt':i.toNat<es.length:=by omega
  all_goals try have he:es.getD i.toNat []=[.s 2 (ay es i 0)]:=(aw hwf g0 hlt).symm
  all_goals try have hr0:Rw [tI,tI] (ay es i 0):=Rw.sub (fs:=[.sl [tI,tI]]) hw (by omega) rfl
  all_goals try have hct:=aX (es:=es) (n:=i.toNat) (by omega);rw[he]at hct;simp only[bR,cv,Nat.add_zero,Nat.zero_add]at hct
  all_goals try have hks:=cX (es:=es) (k:=k) hlt';rw[he]at hks;simp only[fJ,eT]at hks
  all_goals try have hms:=dA (es:=es) (k:=k) hlt';rw[he]at hms;simp only[fJ,eT]at hms
  all_goals have hle1:=ap (es:=es) (n:=i.toNat+1)
  all_goals have hcE:aj es=es.length+aH es:=rfl
  all_goals have hk1:=bZ (es:=es) (k:=k) (n:=i.toNat)
  all_goals have hk2:=bZ (es:=es) (k:=k) (n:=i.toNat+1)
  all_goals have hk3:=dY (es:=es) (k:=k)
  all_goals have hk4:=bZ (es:=es) (k:=k) (n:=es.length)
  all_goals have hk5:=bu (es:=es) (m:=0) (n:=i.toNat) g1 (Nat.zero_le _)
  all_goals have hk6:=bu (es:=es) (m:=i.toNat) (n:=es.length) (Nat.le_refl _) g1
  all_goals try have hk7:=bu (es:=es) (m:=i.toNat+1) (n:=es.length) (Nat.le_refl _) hlt'
  all_goals rw[bB]at hk5
  all_goals try have hk8:=cW (es:=es) (n:=i.toNat) hlt'
  all_goals try have hcl:i.toNat<cur.length:=by rw[hc,b9 g1];exact hlt'
  all_goals try have hcg:cur.getD i.toNat []=[.s 2 (ay es i 0)]:=by rw[hc,cT g1];exact he
  all_goals have ha1:aV .add .i64 k' 1=k'+1:=aB (by omega)
  all_goals have ha2:aV .add .i64 (k'+1) 1=k'+1+1:=aB (by omega)
  all_goals have ha3:aV .add .i64 (k'+1+1) 1=k'+1+1+1:=aB (by omega)
  all_goals have ha4:aV .add .i64 (k'+1+1+1) 1=k'+1+1+1+1:=aB (by omega)
  all_goals try simp only[ha1,ha2,ha3,ha4]
  all_goals try simp only[az]
  all_goals try simp only[dE,hcg,List.take,List.drop,List.length_cons,List.length_nil,List.nil_append,List.cons_append,List.append_nil,Nat.zero_add,Nat.reduceAdd,aE hcl,List.set_set,List.append_assoc]
  all_goals try simp only[dw,hcg,aE hcl,List.getD_cons_zero,List.getD_cons_succ,tV]
  all_goals try simp only[dX hcl,dp hcl,ef hcl,dy hcl,hcg,List.getElem?_cons_zero,List.getElem?_cons_succ]
  all_goals first|exact⟨g0,hlt⟩|(refine⟨_,_,rfl,by simp,?_⟩;show List.take _ (List.drop _ _)=[L.s _ (pc _ _)];simp only[pm,dw,hcg,aE hcl,List.getD_cons_zero,List.getD_cons_succ,Nat.add_zero,tV];rfl)|exact⟨trivial,_,rfl,rfl⟩|exact⟨_,rfl⟩|omega|(rw[hk',show i.toNat=es.length from by omega,hk3];done)|(rw[hc,show i.toNat=es.length from by omega,dz];rfl)|(rw[show(i+1).toNat=i.toNat+1 from by omega,hks,hk'];rfl)|(rw[show(i+1).toNat=i.toNat+1 from by omega, <-hms,hc,hk'];rfl)|(refine⟨hr0,?_,?_,?_⟩<;>(try simp only[aj,aS])<;>first|omega|(rw[hk'];omega))|trace_state
namespace LMail
structure Fns where
 szN:List (List (List L))->Int->Int
def F0 :Fns:=⟨aZ⟩
def ct (F:Fns):CT:=fun f ds=>match f,ds with
 |114,[.one (.s 1 es),.one (.v (.int .i64 left))]=>some (fun _=>Rw [.sl [tI,tI]] es/\0<=left/\left<=1048576,[.one (.v (.int .i64 (F.szN [es] left)))])
 |138,[.one (.s 1 es)]=>some (fun _=>Rw [.sl [tI,tI]] es/\aj es<=1048576,[.one (.s 1 es)])
 |162,[.one (.s 1 es),d]=>some (fun _=>d=.one (.s 1 es)/\Rw [.sl [tI,tI]] es/\aj es<=1099511627776,[.one (.v (.bool true))])
 |115,[.one (.s 1 es),.one (.v (.int .i64 left))]=>some (fun _=>Rw [.sl [tI]] es/\0<=left/\left<=1048576,[.one (.v (.int .i64 (F.szN [es] left)))])
 |139,[.one (.s 1 es)]=>some (fun _=>Rw [.sl [tI]] es/\aj es<=1048576,[.one (.s 1 es)])
 |163,[.one (.s 1 es),d]=>some (fun _=>d=.one (.s 1 es)/\Rw [.sl [tI]] es/\aj es<=1099511627776,[.one (.v (.bool true))])
 |_,_=>none
theorem ak :aW Tryz.prog (ct F0):=by
 intro f ds pre res h hp;unfold ct at h;split at h<;>(try split at h)<;>cases h
 exact pY _ _ hp;exact qi _ hp;exact pK _ _ hp;exact gp _ _ hp;exact gq _ hp;exact gn _ _ hp
def B :TB Tryz.prog:=tb ak
end LMail
namespace MMail
structure Fns where
 kN:List (List (List L))->Int->Int
 mkN:List (List L)->Int->List (List L)
def F0 :Fns:=⟨aS,bN⟩
def mt (F:Fns):MT:=fun f=>match f with
 | 193=>some fun ds=>match ds with
   |[.one (.s 1 es),.one (.v (.int .i64 k))]=>some (fun _=>Rw [.sl [tI,tI]] es/\aj es<=1099511627776/\0<=k/\aS [es] k<=1152921504606846976,[.s 1 (F.mkN es k)],[.one (.v (.int .i64 (F.kN [es] k)))])
   |_=>none
 | 192=>some fun ds=>match ds with
   |[.one (.s 1 es),.one (.v (.int .i64 k))]=>some (fun _=>Rw [.sl [tI]] es/\aj es<=1099511627776/\0<=k/\aS [es] k<=1152921504606846976,[.s 1 (F.mkN es k)],[.one (.v (.int .i64 (F.kN [es] k)))])
   |_=>none
 |_=>none
theorem cL :ga Tryz.prog (mt F0):=by
 intro f mk h ds pre outs res hm hp;unfold mt at h;split at h
 ·cases h;dsimp only at hm;split at hm
  ·cases hm;exact mf _ _ hp
  ·cases hm
 ·cases h;dsimp only at hm;split at hm
  ·cases hm;exact eX _ _ hp
  ·cases hm
 ·cases h
def B :TB Tryz.prog:={Φ:=Fns,F0:=F0,mt:=mt,hm:=cL}
end MMail
theorem uo (a0 a1:List (List L))(left:Int)(hp:Rw [.sl [tI,tI]] a0/\Rw [.sl [tI]] a1/\0<=left/\left<=1048576):aP Tryz.prog 41 [.agg [.s 1 a0,.s 1 a1],.one (.v (.int .i64 left))] [.one (.v (.int .i64 (aZ [a0,a1] left)))]:=by
 obtain⟨w0,w1,h0,h1⟩:=hp;refine ai LMail.B ag mixed 18 _ [3] [.tmp 4] Tryz.func41 rfl rfl rfl rfl rfl ?_;intro O r (F:LMail.Fns) hO hr (hF:F=LMail.F0);cbv
 repeat' first|refine And.intro ?_ ?_|(refine aG (fun hb=>?_) (fun hb=>?_)<;>cbv)
 all_goals(subst hO hr hF;(try simp only[af,SS,sa,az]at*);(try simp only[nc]at*);(try simp only[aF]at*))
 all_goals(try simp only[LMail.F0]at*)
 all_goals iterate 1 (try simp(disch:=assumption) only[eh,List.cons_append,List.nil_append]at*)
 all_goals first|trivial|(refine⟨by assumption,by omega,by first|omega|exact Int.le_trans (lO (by assumption)) h1⟩)|(rw[dD (by assumption)])|exact congrArg (fun x=>[DV.one (L.v (Value.int IntKind.i64 x))]) (dC (a:=[a0]) (b:=[a1]) (by assumption)).symm|trace_state
theorem uv (a0 a1:List (List L))(hp:Rw [.sl [tI,tI]] a0/\Rw [.sl [tI]] a1/\ao [a0,a1]<=1048576):aP Tryz.prog 52 [.agg [.s 1 a0,.s 1 a1]] [.agg [.s 1 a0,.s 1 a1]]:=by
 obtain⟨w0,w1,hlim⟩:=hp;simp only[ao,Nat.add_zero]at hlim;refine ai LMail.B ag mixed 13 _ [68] [.cell 2 68] Tryz.func52 rfl rfl rfl rfl rfl ?_;intro O r (F:LMail.Fns) hO hr (hF:F=LMail.F0);cbv
 repeat' first|refine And.intro ?_ ?_|(refine aG (fun hb=>?_) (fun hb=>?_)<;>cbv)
 all_goals(subst hO hr hF;(try simp only[af,SS,sa,az]at*);(try simp only[nc]at*);(try simp only[aF]at*))
 all_goals(try simp only[LMail.F0]at*)
 all_goals first|trivial|(refine⟨by assumption,?_⟩;(try simp only[ao,Nat.add_zero]);omega)|trace_state
theorem uh (a0 a1:List (List L))(d:DV)(hp:d=.agg [.s 1 a0,.s 1 a1]/\Rw [.sl [tI,tI]] a0/\Rw [.sl [tI]] a1/\ao [a0,a1]<=1099511627776):aP Tryz.prog 63 [.agg [.s 1 a0,.s 1 a1],d] [.one (.v (.bool true))]:=by
 obtain⟨rfl,w0,w1,hlim⟩:=hp;simp only[ao,Nat.add_zero]at hlim;refine ai LMail.B ag mixed 17 _ [4] [.tmp 4] Tryz.func63 rfl rfl rfl rfl rfl ?_;intro O r (F:LMail.Fns) hO hr (hF:F=LMail.F0);cbv
 repeat' first|refine And.intro ?_ ?_|(refine aG (fun hb=>?_) (fun hb=>?_)<;>cbv)
 all_goals(subst hO hr hF;(try simp only[af,SS,sa,az]at*);(try simp only[nc]at*);(try simp only[aF]at*))
 all_goals(try simp only[LMail.F0]at*)
 all_goals first|trivial|(refine⟨trivial,by assumption,?_⟩;(try simp only[ao,Nat.add_zero]);omega)|trace_state
theorem pP (a0 a1:List (List L))(k:Int)(hp:Rw [.sl [tI,tI]] a0/\Rw [.sl [tI]] a1/\ao [a0,a1]<=1099511627776/\0<=k/\aS [a0,a1] k<=1152921504606846976):eF Tryz.prog 108 [.agg [.s 1 a0,.s 1 a1],.one (.v (.int .i64 k))] [.s 1 (bN a0 k),.s 1 (bN a1 (aS [a0] k))] [.one (.v (.int .i64 (aS [a0,a1] k)))]:=by
 obtain⟨w0,w1,hlim,hk0,hkb⟩:=hp;simp only[ao,Nat.add_zero]at hlim;have p0:aS [a0] k<=aS [a0,a1] k/\0<=aS [a0] k:=ca (b:=[a1]) hk0;have p1:aS [a0,a1] k<=aS [a0,a1] k/\0<=aS [a0,a1] k:=ca (b:=[]) hk0;refine dd MMail.B ag mixed 14 _ [3] [.tmp 4] [(2,0),(2,1)] Tryz.func108 rfl rfl rfl rfl rfl rfl rfl ?_;intro O r os (F:MMail.Fns) hO hr hos (hF:F=MMail.F0);cbv
 repeat' first|refine And.intro ?_ ?_|(refine aG (fun hb=>?_) (fun hb=>?_)<;>cbv)
 all_goals((try subst hos);subst hO hr hF;(try simp only[af,SS,sa,az]at*);(try simp only[nc]at*);(try simp only[aF]at*))
 all_goals(try simp only[MMail.F0]at*)
 all_goals(try simp only[dO,List.cons_append,List.nil_append,cB]at*)
 all_goals first|trivial|(refine⟨by assumption,?_,?_,?_⟩<;>(try simp only[dO,List.cons_append,List.nil_append,ao,Nat.add_zero])<;>omega)|trace_state
namespace LQuar
structure Fns where
 szN:List (List (List L))->Int->Int
def F0 :Fns:=⟨aZ⟩
def ct (F:Fns):CT:=fun f ds=>match f,ds with
 |116,[.one (.s 3 es),.one (.v (.int .i64 left))]=>some (fun _=>Rw [tI,tI,tI] es/\0<=left/\left<=1048576,[.one (.v (.int .i64 (F.szN [es] left)))])
 |140,[.one (.s 3 es)]=>some (fun _=>Rw [tI,tI,tI] es/\aj es<=1048576,[.one (.s 3 es)])
 |164,[.one (.s 3 es),d]=>some (fun _=>d=.one (.s 3 es)/\Rw [tI,tI,tI] es/\aj es<=1099511627776,[.one (.v (.bool true))])
 |_,_=>none
theorem ak :aW Tryz.prog (ct F0):=by
 intro f ds pre res h hp;unfold ct at h;split at h<;>(try split at h)<;>cases h
 exact qb _ _ hp;exact qm _ hp;exact pN _ _ hp
def B :TB Tryz.prog:=tb ak
end LQuar
namespace MQuar
structure Fns where
 kN:List (List (List L))->Int->Int
 mkN:List (List L)->Int->List (List L)
def F0 :Fns:=⟨aS,bN⟩
def mt (F:Fns):MT:=fun f=>match f with
 | 194=>some fun ds=>match ds with
   |[.one (.s 3 es),.one (.v (.int .i64 k))]=>some (fun _=>Rw [tI,tI,tI] es/\aj es<=1099511627776/\0<=k/\aS [es] k<=1152921504606846976,[.s 3 (F.mkN es k)],[.one (.v (.int .i64 (F.kN [es] k)))])
   |_=>none
 |_=>none
theorem cL :ga Tryz.prog (mt F0):=by
 intro f mk h ds pre outs res hm hp;unfold mt at h;split at h
 ·cases h;dsimp only at hm;split at hm
  ·cases hm;exact mh _ _ hp
  ·cases hm
 ·cases h
def B :TB Tryz.prog:={Φ:=Fns,F0:=F0,mt:=mt,hm:=cL}
end MQuar
theorem uu (a0:Int)(a1:List (List L))(left:Int)(hp:Rw [tI,tI,tI] a1/\0<=left/\left<=1048576):aP Tryz.prog 42 [.agg [.v (.int .i64 a0),.s 3 a1],.one (.v (.int .i64 left))] [.one (.v (.int .i64 (aZ [a1] left)))]:=by
 obtain⟨w0,h0,h1⟩:=hp;refine ai LQuar.B ag mixed 12 _ [3] [.tmp 4] Tryz.func42 rfl rfl rfl rfl rfl ?_;intro O r (F:LQuar.Fns) hO hr (hF:F=LQuar.F0);cbv
 repeat' first|refine And.intro ?_ ?_|(refine aG (fun hb=>?_) (fun hb=>?_)<;>cbv)
 all_goals(subst hO hr hF;(try simp only[af,SS,sa,az]at*);(try simp only[nc]at*);(try simp only[aF]at*))
 all_goals(try simp only[LQuar.F0]at*)
 all_goals iterate 1 (try simp(disch:=assumption) only[eh,List.cons_append,List.nil_append]at*)
 all_goals first|trivial|(rw[dD (by assumption)])|trace_state
theorem uz (a0:Int)(a1:List (List L))(hp:Rw [tI,tI,tI] a1/\ao [a1]<=1048576):aP Tryz.prog 53 [.agg [.v (.int .i64 a0),.s 3 a1]] [.agg [.v (.int .i64 a0),.s 3 a1]]:=by
 obtain⟨w0,hlim⟩:=hp;simp only[ao,Nat.add_zero]at hlim;refine ai LQuar.B ag mixed 12 _ [71] [.cell 2 71] Tryz.func53 rfl rfl rfl rfl rfl ?_;intro O r (F:LQuar.Fns) hO hr (hF:F=LQuar.F0);cbv
 repeat' first|refine And.intro ?_ ?_|(refine aG (fun hb=>?_) (fun hb=>?_)<;>cbv)
 all_goals(subst hO hr hF;(try simp only[af,SS,sa,az]at*);(try simp only[nc]at*);(try simp only[aF]at*))
 all_goals(try simp only[LQuar.F0]at*)
 all_goals first|trivial|trace_state
theorem ul (a0:Int)(a1:List (List L))(d:DV)(hp:d=.agg [.v (.int .i64 a0),.s 3 a1]/\Rw [tI,tI,tI] a1/\ao [a1]<=1099511627776):aP Tryz.prog 64 [.agg [.v (.int .i64 a0),.s 3 a1],d] [.one (.v (.bool true))]:=by
 obtain⟨rfl,w0,hlim⟩:=hp;simp only[ao,Nat.add_zero]at hlim;refine ai LQuar.B ag mixed 16 _ [4] [.tmp 4] Tryz.func64 rfl rfl rfl rfl rfl ?_;intro O r (F:LQuar.Fns) hO hr (hF:F=LQuar.F0);cbv
 repeat' first|refine And.intro ?_ ?_|(refine aG (fun hb=>?_) (fun hb=>?_)<;>cbv)
 all_goals(subst hO hr hF;(try simp only[af,SS,sa,az]at*);(try simp only[nc]at*);(try simp only[aF]at*))
 all_goals(try simp only[LQuar.F0]at*)
 all_goals first|trivial|trace_state
theorem pS (a0:Int)(a1:List (List L))(k:Int)(hp:Rw [tI,tI,tI] a1/\ao [a1]<=1099511627776/\0<=k/\aS [a1] k<=1152921504606846976):eF Tryz.prog 109 [.agg [.v (.int .i64 a0),.s 3 a1],.one (.v (.int .i64 k))] [.s 3 (bN a1 k)] [.one (.v (.int .i64 (aS [a1] k)))]:=by
 obtain⟨w0,hlim,hk0,hkb⟩:=hp;simp only[ao,Nat.add_zero]at hlim;have p0:aS [a1] k<=aS [a1] k/\0<=aS [a1] k:=ca (b:=[]) hk0;refine dd MQuar.B ag mixed 10 _ [3] [.tmp 4] [(2,1)] Tryz.func109 rfl rfl rfl rfl rfl rfl rfl ?_;intro O r os (F:MQuar.Fns) hO hr hos (hF:F=MQuar.F0);cbv
 repeat' first|refine And.intro ?_ ?_|(refine aG (fun hb=>?_) (fun hb=>?_)<;>cbv)
 all_goals((try subst hos);subst hO hr hF;(try simp only[af,SS,sa,az]at*);(try simp only[nc]at*);(try simp only[aF]at*))
 all_goals(try simp only[MQuar.F0]at*)
 all_goals(try simp only[dO,List.cons_append,List.nil_append,cB]at*)
 all_goals first|trivial|trace_state
namespace LPlan
structure Fns where
 szN:List (List (List L))->Int->Int
def F0 :Fns:=⟨aZ⟩
def ct (F:Fns):CT:=fun f ds=>match f,ds with
 |112,[.one (.s 1 es),.one (.v (.int .i64 left))]=>some (fun _=>Rw [tI] es/\0<=left/\left<=1048576,[.one (.v (.int .i64 (F.szN [es] left)))])
 |132,[.one (.s 1 es)]=>some (fun _=>Rw [tI] es/\aj es<=1048576,[.one (.s 1 es)])
 |31,[.one (.s 1 es),d]=>some (fun _=>d=.one (.s 1 es)/\Rw [tI] es/\aj es<=1099511627776,[.one (.v (.bool true))])
 |_,_=>none
theorem ak :aW Tryz.prog (ct F0):=by
 intro f ds pre res h hp;unfold ct at h;split at h<;>(try split at h)<;>cases h
 exact fj _ _ hp;exact fm _ hp;exact d9 _ _ hp
def B :TB Tryz.prog:=tb ak
end LPlan
namespace MPlan
structure Fns where
 kN:List (List (List L))->Int->Int
 mkN:List (List L)->Int->List (List L)
def F0 :Fns:=⟨aS,bN⟩
def ct (F:Fns):CT:=fun f ds=>match f,ds with
 |34,[.one (.s 1 ms),.one (.v (.int .i64 k))]=>some (fun _=>∃ es,ms=bN es k/\Rw [tI] es/\aj es<=1099511627776/\0<=k/\aS [ms] k<=1152921504606846976,[.one (.v (.int .i64 (F.kN [ms] k)))])
 |_,_=>none
theorem ak :aW Tryz.prog (ct F0):=by
 intro f ds pre res h hp;unfold ct at h;split at h<;>(try split at h)<;>cases h
 exact cR _ _ hp
def mt (F:Fns):MT:=fun f=>match f with
 | 33=>some fun ds=>match ds with
   |[.one (.s 1 es),.one (.v (.int .i64 k))]=>some (fun _=>Rw [tI] es/\aj es<=1099511627776/\0<=k/\aS [es] k<=1152921504606846976,[.s 1 (F.mkN es k)],[.one (.v (.int .i64 (F.kN [es] k)))])
   |_=>none
 |_=>none
theorem cL :ga Tryz.prog (mt F0):=by
 intro f mk h ds pre outs res hm hp;unfold mt at h;split at h
 ·cases h;dsimp only at hm;split at hm
  ·cases hm;exact cS _ _ hp
  ·cases hm
 ·cases h
def B :TB Tryz.prog:={Φ:=Fns,F0:=F0,ct:=ct,hc:=ak,mt:=mt,hm:=cL}
end MPlan
theorem ut (a0 a1:Int)(a2:List (List L))(left:Int)(hp:Rw [tI] a2/\0<=left/\left<=1048576):aP Tryz.prog 117 [.agg [.v (.int .i64 a0),.v (.int .i64 a1),.s 1 a2],.one (.v (.int .i64 left))] [.one (.v (.int .i64 (aZ [a2] left)))]:=by
 obtain⟨w0,h0,h1⟩:=hp;refine ai LPlan.B ag mixed 12 _ [3] [.tmp 4] Tryz.func117 rfl rfl rfl rfl rfl ?_;intro O r (F:LPlan.Fns) hO hr (hF:F=LPlan.F0);cbv
 repeat' first|refine And.intro ?_ ?_|(refine aG (fun hb=>?_) (fun hb=>?_)<;>cbv)
 all_goals(subst hO hr hF;(try simp only[af,SS,sa,az]at*);(try simp only[nc]at*);(try simp only[aF]at*))
 all_goals(try simp only[LPlan.F0]at*)
 all_goals iterate 2 (try simp(disch:=assumption) only[eh,List.cons_append,List.nil_append]at*)
 all_goals first|trivial|(rw[dD (by assumption)])|trace_state
theorem ux (a0 a1:Int)(a2:List (List L))(hp:Rw [tI] a2/\ao [a2]<=1048576):aP Tryz.prog 141 [.agg [.v (.int .i64 a0),.v (.int .i64 a1),.s 1 a2]] [.agg [.v (.int .i64 a0),.v (.int .i64 a1),.s 1 a2]]:=by
 obtain⟨w0,hlim⟩:=hp;simp only[ao,Nat.add_zero]at hlim;refine ai LPlan.B ag mixed 15 _ [72] [.cell 2 72] Tryz.func141 rfl rfl rfl rfl rfl ?_;intro O r (F:LPlan.Fns) hO hr (hF:F=LPlan.F0);cbv
 repeat' first|refine And.intro ?_ ?_|(refine aG (fun hb=>?_) (fun hb=>?_)<;>cbv)
 all_goals(subst hO hr hF;(try simp only[af,SS,sa,az]at*);(try simp only[nc]at*);(try simp only[aF]at*))
 all_goals(try simp only[LPlan.F0]at*)
 all_goals first|trivial|trace_state
theorem uj (a0 a1:Int)(a2:List (List L))(d:DV)(hp:d=.agg [.v (.int .i64 a0),.v (.int .i64 a1),.s 1 a2]/\Rw [tI] a2/\ao [a2]<=1099511627776):aP Tryz.prog 165 [.agg [.v (.int .i64 a0),.v (.int .i64 a1),.s 1 a2],d] [.one (.v (.bool true))]:=by
 obtain⟨rfl,w0,hlim⟩:=hp;simp only[ao,Nat.add_zero]at hlim;refine ai LPlan.B ag mixed 21 _ [4] [.tmp 4] Tryz.func165 rfl rfl rfl rfl rfl ?_;intro O r (F:LPlan.Fns) hO hr (hF:F=LPlan.F0);cbv
 repeat' first|refine And.intro ?_ ?_|(refine aG (fun hb=>?_) (fun hb=>?_)<;>cbv)
 all_goals(subst hO hr hF;(try simp only[af,SS,sa,az]at*);(try simp only[nc]at*);(try simp only[aF]at*))
 all_goals(try simp only[LPlan.F0]at*)
 all_goals first|trivial|trace_state
theorem pR (a0 a1:Int)(a2:List (List L))(k:Int)(hp:Rw [tI] a2/\ao [a2]<=1099511627776/\0<=k/\aS [a2] k<=1152921504606846976):eF Tryz.prog 195 [.agg [.v (.int .i64 a0),.v (.int .i64 a1),.s 1 a2],.one (.v (.int .i64 k))] [.s 1 (bN a2 k)] [.one (.v (.int .i64 (aS [a2] k)))]:=by
 obtain⟨w0,hlim,hk0,hkb⟩:=hp;simp only[ao,Nat.add_zero]at hlim;have p0:aS [a2] k<=aS [a2] k/\0<=aS [a2] k:=ca (b:=[]) hk0;refine dd MPlan.B ag mixed 10 _ [3] [.tmp 4] [(2,2)] Tryz.func195 rfl rfl rfl rfl rfl rfl rfl ?_;intro O r os (F:MPlan.Fns) hO hr hos (hF:F=MPlan.F0);cbv
 repeat' first|refine And.intro ?_ ?_|(refine aG (fun hb=>?_) (fun hb=>?_)<;>cbv)
 all_goals((try subst hos);subst hO hr hF;(try simp only[af,SS,sa,az]at*);(try simp only[nc]at*);(try simp only[aF]at*))
 all_goals(try simp only[MPlan.F0]at*)
 all_goals(try simp only[dO,List.cons_append,List.nil_append,cB]at*)
 all_goals first|trivial|trace_state
namespace LJob
structure Fns where
 szN:List (List (List L))->Int->Int
def F0 :Fns:=⟨aZ⟩
def ct (F:Fns):CT:=fun f ds=>match f,ds with
 |117,[.agg [.v (.int .i64 a0),.v (.int .i64 a1),.s 1 a2],.one (.v (.int .i64 left))]=>some (fun _=>Rw [tI] a2/\0<=left/\left<=1048576,[.one (.v (.int .i64 (F.szN [a2] left)))])
 |141,[.agg [.v (.int .i64 a0),.v (.int .i64 a1),.s 1 a2]]=>some (fun _=>Rw [tI] a2/\ao [a2]<=1048576,[.agg [.v (.int .i64 a0),.v (.int .i64 a1),.s 1 a2]])
 |165,[.agg [.v (.int .i64 a0),.v (.int .i64 a1),.s 1 a2],d]=>some (fun _=>d=.agg [.v (.int .i64 a0),.v (.int .i64 a1),.s 1 a2]/\Rw [tI] a2/\ao [a2]<=1099511627776,[.one (.v (.bool true))])
 |_,_=>none
theorem ak :aW Tryz.prog (ct F0):=by
 intro f ds pre res h hp;unfold ct at h;split at h<;>(try split at h)<;>cases h
 exact ut _ _ _ _ hp;exact ux _ _ _ hp;exact uj _ _ _ _ hp
def B :TB Tryz.prog:=tb ak
end LJob
namespace MJob
structure Fns where
 kN:List (List (List L))->Int->Int
 mkN:List (List L)->Int->List (List L)
def F0 :Fns:=⟨aS,bN⟩
def mt (F:Fns):MT:=fun f=>match f with
 | 195=>some fun ds=>match ds with
   |[.agg [.v (.int .i64 a0),.v (.int .i64 a1),.s 1 a2],.one (.v (.int .i64 k))]=>some (fun _=>Rw [tI] a2/\ao [a2]<=1099511627776/\0<=k/\aS [a2] k<=1152921504606846976,[.s 1 (F.mkN a2 k)],[.one (.v (.int .i64 (F.kN [a2] k)))])
   |_=>none
 |_=>none
theorem cL :ga Tryz.prog (mt F0):=by
 intro f mk h ds pre outs res hm hp;unfold mt at h;split at h
 ·cases h;dsimp only at hm;split at hm
  ·cases hm;exact pR _ _ _ _ hp
  ·cases hm
 ·cases h
def B :TB Tryz.prog:={Φ:=Fns,F0:=F0,mt:=mt,hm:=cL}
end MJob
theorem vQ (a0 a1:Int)(a2:List (List L))(a3 a4 left:Int)(hp:Rw [tI] a2/\0<=left/\left<=1048576):aP Tryz.prog 43 [.agg [.v (.int .i64 a0),.v (.int .i64 a1),.s 1 a2,.v (.int .i64 a3),.v (.int .i64 a4)],.one (.v (.int .i64 left))] [.one (.v (.int .i64 (aZ [a2] left)))]:=by
 obtain⟨w0,h0,h1⟩:=hp;refine ai LJob.B ag mixed 12 _ [3] [.tmp 4] Tryz.func43 rfl rfl rfl rfl rfl ?_;intro O r (F:LJob.Fns) hO hr (hF:F=LJob.F0);cbv
 repeat' first|refine And.intro ?_ ?_|(refine aG (fun hb=>?_) (fun hb=>?_)<;>cbv)
 all_goals(subst hO hr hF;(try simp only[af,SS,sa,az]at*);(try simp only[nc]at*);(try simp only[aF]at*))
 all_goals(try simp only[LJob.F0]at*)
 all_goals iterate 2 (try simp(disch:=assumption) only[eh,List.cons_append,List.nil_append]at*)
 all_goals first|trivial|(rw[dD (by assumption)])|trace_state
theorem vR (a0 a1:Int)(a2:List (List L))(a3 a4:Int)(hp:Rw [tI] a2/\ao [a2]<=1048576):aP Tryz.prog 54 [.agg [.v (.int .i64 a0),.v (.int .i64 a1),.s 1 a2,.v (.int .i64 a3),.v (.int .i64 a4)]] [.agg [.v (.int .i64 a0),.v (.int .i64 a1),.s 1 a2,.v (.int .i64 a3),.v (.int .i64 a4)]]:=by
 obtain⟨w0,hlim⟩:=hp;simp only[ao,Nat.add_zero]at hlim;refine ai LJob.B ag mixed 15 _ [74] [.cell 2 74] Tryz.func54 rfl rfl rfl rfl rfl ?_;intro O r (F:LJob.Fns) hO hr (hF:F=LJob.F0);cbv
 repeat' first|refine And.intro ?_ ?_|(refine aG (fun hb=>?_) (fun hb=>?_)<;>cbv)
 all_goals(subst hO hr hF;(try simp only[af,SS,sa,az]at*);(try simp only[nc]at*);(try simp only[aF]at*))
 all_goals(try simp only[LJob.F0]at*)
 all_goals first|trivial|trace_state
theorem vO (a0 a1:Int)(a2:List (List L))(a3 a4:Int)(d:DV)(hp:d=.agg [.v (.int .i64 a0),.v (.int .i64 a1),.s 1 a2,.v (.int .i64 a3),.v (.int .i64 a4)]/\Rw [tI] a2/\ao [a2]<=1099511627776):aP Tryz.prog 65 [.agg [.v (.int .i64 a0),.v (.int .i64 a1),.s 1 a2,.v (.int .i64 a3),.v (.int .i64 a4)],d] [.one (.v (.bool true))]:=by
 obtain⟨rfl,w0,hlim⟩:=hp;simp only[ao,Nat.add_zero]at hlim;refine ai LJob.B ag mixed 21 _ [4] [.tmp 4] Tryz.func65 rfl rfl rfl rfl rfl ?_;intro O r (F:LJob.Fns) hO hr (hF:F=LJob.F0);cbv
 repeat' first|refine And.intro ?_ ?_|(refine aG (fun hb=>?_) (fun hb=>?_)<;>cbv)
 all_goals(subst hO hr hF;(try simp only[af,SS,sa,az]at*);(try simp only[nc]at*);(try simp only[aF]at*))
 all_goals(try simp only[LJob.F0]at*)
 all_goals first|trivial|trace_state
theorem rL (a0 a1:Int)(a2:List (List L))(a3 a4 k:Int)(hp:Rw [tI] a2/\ao [a2]<=1099511627776/\0<=k/\aS [a2] k<=1152921504606846976):eF Tryz.prog 110 [.agg [.v (.int .i64 a0),.v (.int .i64 a1),.s 1 a2,.v (.int .i64 a3),.v (.int .i64 a4)],.one (.v (.int .i64 k))] [.s 1 (bN a2 k)] [.one (.v (.int .i64 (aS [a2] k)))]:=by
 obtain⟨w0,hlim,hk0,hkb⟩:=hp;simp only[ao,Nat.add_zero]at hlim;have p0:aS [a2] k<=aS [a2] k/\0<=aS [a2] k:=ca (b:=[]) hk0;refine dd MJob.B ag mixed 10 _ [3] [.tmp 4] [(2,2)] Tryz.func110 rfl rfl rfl rfl rfl rfl rfl ?_;intro O r os (F:MJob.Fns) hO hr hos (hF:F=MJob.F0);cbv
 repeat' first|refine And.intro ?_ ?_|(refine aG (fun hb=>?_) (fun hb=>?_)<;>cbv)
 all_goals((try subst hos);subst hO hr hF;(try simp only[af,SS,sa,az]at*);(try simp only[nc]at*);(try simp only[aF]at*))
 all_goals(try simp only[MJob.F0]at*)
 all_goals(try simp only[dO,List.cons_append,List.nil_append,cB]at*)
 all_goals first|trivial|trace_state
end Go.V