/- Contracts. -/
import Derived.Test.YtniaaknbbceigaaGreatLawHAq
set_option linter.all false
namespace Go.V
open Go Go.Proofs
set_option maxRecDepth 1000000
set_option maxHeartbeats 8000000
namespace LRefObj
structure av where
 szN:List aa->Int->Int
 kN:List aa->Int->Int
 mkN:aa->Int->aa
abbrev F0 :av:=⟨bi,bc,bV⟩
def ct (F:av):CT:=fun f ds=>match f,ds with
 |112,[.one (.s 1 es),.one (.v (.int .i64 left))]=>some (fun _=>Rw [tI] es/\0<=left/\left<=1048576,[.j (F.szN [es] left)])
 |132,[.one (.s 1 es)]=>some (fun _=>Rw [tI] es/\ak es<=1048576,[.one (.s 1 es)])
 |31,[.one (.s 1 es),d]=>some (fun _=>d=.one (.s 1 es)/\Rw [tI] es/\ak es<=1099511627776,[.k true])
 |34,[.one (.s 1 ms),.one (.v (.int .i64 k))]=>some (fun _=>∃ es,ms=bV es k/\Rw [tI] es/\ak es<=1099511627776/\0<=k/\bc [ms] k<=1152921504606846976,[.j (F.kN [ms] k)])
 |_,_=>none
theorem ah :aO (ct F0):=by
 intro f ds pre res h hp;unfold ct at h;split at h<;>cases h
 exact fk hp;exact fm hp;exact ed hp;exact cX hp
def mt (F:av):MT:=fun f=>match f with
 | 33=>some fun ds=>match ds with
   |[.one (.s 1 es),.one (.v (.int .i64 k))]=>some (fun _=>Rw [tI] es/\ak es<=1099511627776/\0<=k/\bc [es] k<=1152921504606846976,[.s 1 (F.mkN es k)],[.j (F.kN [es] k)])
   |_=>none
 |_=>none
theorem cQ :fQ (mt F0):=by
 intro f mk h ds pre outs res hm hp;unfold mt at h;split at h
 ·cases h;dsimp only at hm;split at hm
  ·cases hm;exact cY hp
  ·cases hm
 ·cases h
abbrev B :ce:={Φ:=av,F0:=F0,ct:=ct,hc:=ah,mt:=mt,hm:=cQ}
end LRefObj
theorem qG {a0:Int}{a1:aa}{left:Int}(hp:Rw [tI] a1/\0<=left/\left<=1048576):ap 183 [.agg [.i a0,.s 1 a1],.j left] [.j (bi [a1] left)]:=by
 obtain⟨w0,h0,h1⟩:=hp;refine cb LRefObj.B Tryz.func183 ?_
 exact I3
theorem qP {a0:Int}{a1:aa}(hp:Rw [tI] a1/\ao [a1]<=1048576):ap 184 [.agg [.i a0,.s 1 a1]] [.agg [.i a0,.s 1 a1]]:=by
 obtain⟨w0,hlim⟩:=hp;simp only[ao,Nat.add_zero]at hlim;refine cb LRefObj.B Tryz.func184 ?_
 exact mh
theorem qn {a0:Int}{a1:aa}{d:DV}(hp:d=.agg [.i a0,.s 1 a1]/\Rw [tI] a1/\ao [a1]<=1099511627776):ap 185 [.agg [.i a0,.s 1 a1],d] [.k true]:=by
 obtain⟨rfl,w0,hlim⟩:=hp;simp only[ao,Nat.add_zero]at hlim;refine cb LRefObj.B Tryz.func185 ?_
 exact mh
namespace LRefObjS
structure av where
 szN:List aa->Int->Int
 kN:List aa->Int->Int
 mkN:aa->Int->aa
abbrev F0 :av:=⟨bi,bc,bV⟩
def ct (F:av):CT:=fun f ds=>match f,ds with
 |183,[.agg [.v (.int .i64 a0),.s 1 a1],.one (.v (.int .i64 left))]=>some (fun _=>Rw [tI] a1/\0<=left/\left<=1048576,[.j (F.szN [a1] left)])
 |184,[.agg [.v (.int .i64 a0),.s 1 a1]]=>some (fun _=>Rw [tI] a1/\ao [a1]<=1048576,[.agg [.i a0,.s 1 a1]])
 |185,[.agg [.v (.int .i64 a0),.s 1 a1],d]=>some (fun _=>d=.agg [.i a0,.s 1 a1]/\Rw [tI] a1/\ao [a1]<=1099511627776,[.k true])
 |34,[.one (.s 1 ms),.one (.v (.int .i64 k))]=>some (fun _=>∃ es,ms=bV es k/\Rw [tI] es/\ak es<=1099511627776/\0<=k/\bc [ms] k<=1152921504606846976,[.j (F.kN [ms] k)])
 |_,_=>none
theorem ah :aO (ct F0):=by
 intro f ds pre res h hp;unfold ct at h;split at h<;>cases h
 exact qG hp;exact qP hp;exact qn hp;exact cX hp
def mt (F:av):MT:=fun f=>match f with
 | 33=>some fun ds=>match ds with
   |[.one (.s 1 es),.one (.v (.int .i64 k))]=>some (fun _=>Rw [tI] es/\ak es<=1099511627776/\0<=k/\bc [es] k<=1152921504606846976,[.s 1 (F.mkN es k)],[.j (F.kN [es] k)])
   |_=>none
 |_=>none
theorem cQ :fQ (mt F0):=by
 intro f mk h ds pre outs res hm hp;unfold mt at h;split at h
 ·cases h;dsimp only at hm;split at hm
  ·cases hm;exact cY hp
  ·cases hm
 ·cases h
abbrev B :ce:={Φ:=av,F0:=F0,ct:=ct,hc:=ah,mt:=mt,hm:=cQ}
end LRefObjS
theorem om {es:aa}{left:Int}(hp:Rw [tI,.sl [tI]] es/\0<=left/\left<=1048576):ap 80 [.one (.s 2 es),.j left] [.j (bi [es] left)]:=by
 obtain⟨hw,h0,h1⟩:=hp;have hwf:Wf [.i 0,.s 1 []] es:=hw.wf;have hm:=hw.1;unfold maxLen at hm;have hs:bu .sub .i64 left es.length=left-es.length:=cL (by omega);have hcE:ak es=es.length+bA es:=rfl;have hn:bi [es] left=if left<ak es then-1 else left-ak es:=by unfold bi;rw[cE]
 refine cb LRefObjS.B Tryz.func80 ?_
 intro O r F hO hr hF;cbv
 apply be<;>intro hb<;>cbv
 ·repeat' first|apply And.intro|(apply be<;>intro hb<;>cbv)
  all_goals exact I6
 have hb0:0<=left-es.length:=by
  (subst hO hr hF;(try simp only[nc]at*);(try simp only[ai,SS,sa,az]at*))
  rw[hs]at hb;exact hb
 clear hb;refine⟨[0,1,5],[],Int×Int,fun s=>match s with|(i,l)=>[.reg 5 (.j i),.reg 1 (.j l)],fun s=>0<=s.1/\s.1.toNat<=es.length/\0<=s.2/\s.2=left-es.length-bA (es.take s.1.toNat),fun s=>es.length-s.1.toNat,⟨(0,O.ar .sub .i64 left (O.zi (O.ln es))),?_,?_⟩,?_⟩
 ·(subst hO hr hF;(try simp only[nc]at*);(try simp only[ai,SS,sa,az]at*))
  rw[hs];exact⟨by omega,Nat.zero_le _,hb0,by simp[bA]⟩
 ·cbv
 ·rintro⟨i,l⟩ hi;replace hi:0<=i/\i.toNat<=es.length/\0<=l/\l=left-es.length-bA (es.take i.toNat):=hi;obtain⟨g0,g1,g2,g3⟩:=hi;cbv
  repeat' first|apply And.intro|(apply be<;>intro hb<;>cbv)|(refine ab (O.ar .add .i64 i 1,F.szN [O.gs es i 1] l) ?_ ?_ ?_;focus (cbv;done))
  all_goals(subst hO hr hF;(try simp only[nc]at*);(try simp only[ai,SS,sa,az]at*);(try have hlt:i<es.length:=by assumption);(try rw[ee (n:=es.length) g0 hlt (by omega)]);(try have he:es.getD i.toNat []=[.i (af es i 0),.s 1 (ax es i 1)]:=(aw hwf g0 hlt).symm);(try have hr1:Rw [tI] (ax es i 1):=Rw.sub (fs:=[tI,.sl [tI]]) hw (by omega) rfl);(try have hct:=dT (es:=es) (n:=i.toNat) (by omega);rw[he]at hct;simp only[dV,gN,Nat.add_zero,Nat.zero_add]at hct))
  all_goals have hle:=bF (es:=es) (n:=i.toNat)
  all_goals have hle1:=bF (es:=es) (n:=i.toNat+1)
  all_goals have hsz:=dB (a:=[ax es i 1]) (left:=l)
  all_goals have hsz2:0<=bi [ax es i 1] l->bi [ax es i 1] l=l-ao [ax es i 1]:=lq
  all_goals simp only[ao,ak,Nat.add_zero]at hsz hsz2
  all_goals first|exact gG hwf g0 hlt|exact⟨hr1,by omega,by omega⟩|trivial|omega|(rw[hn,if_pos];omega)|(rw[hn,if_neg (by rw[show i.toNat=es.length from by omega,List.take_length]at g3;omega),show l=left-ak es from by rw[show i.toNat=es.length from by omega,List.take_length]at g3;omega])|(rw[show(i+1).toNat=i.toNat+1 from by omega,hct];omega)|trace_state
theorem ox {es:aa}(hp:Rw [tI,.sl [tI]] es/\ak es<=1048576):ap 83 [.one (.s 2 es)] [.one (.s 2 es)]:=by
 obtain⟨hw,hlim⟩:=hp;have hwf:Wf [.i 0,.s 1 []] es:=hw.wf;have hlen:=dA hlim;refine cb LRefObjS.B Tryz.func83 ?_
 intro O r F hO hr hF;cbv
 have h0z:bO es [.i 0,.s 1 []] 0=O.rep (O.zi (O.ln es)) [.i 0,.s 1 []]:=by
  subst hO;rw[cv];rfl
 refine⟨?_,?_,[0,3,4],[3],Int×aa,fun s=>[.reg 4 (.j s.1),.leaf 3 0 ⟨0,0,none,.own (.s 2 s.2)⟩],fun s=>0<=s.1/\s.1.toNat<=es.length/\s.2=bO es [.i 0,.s 1 []] s.1.toNat,fun s=>es.length-s.1.toNat,⟨(0,O.rep (O.zi (O.ln es)) [.i 0,.s 1 []]),?_,?_⟩,?_⟩
 ·subst hO;exact iE (b:=32) (show es.length*_<=_ by omega) (show es.length<=_ by omega)
 ·subst hO;exact⟨rfl,rfl⟩
 ·exact⟨by omega,Nat.zero_le _,h0z.symm⟩
 ·cbv
 ·rintro⟨i,m⟩ hi;replace hi:0<=i/\i.toNat<=es.length/\m=bO es [.i 0,.s 1 []] i.toNat:=hi;obtain⟨g0,g1,hm⟩:=hi;cbv
  repeat' first|apply And.intro|(apply be<;>intro hb<;>cbv)|(refine ab (O.ar .add .i64 i 1,O.up (.s 2 m) [(O.ad 0 i,0)] [.i (O.gi es i 0),.s 1 (O.gs es i 1)]) ?_ ?_ ?_;focus (cbv;done))
  all_goals(subst hO hr hF;(try simp only[nc]at*);(try simp only[ai,SS,sa,az]at*);(try simp only[l9,List.length_replicate,Int.toNat_natCast]at*);(try have hlt:i<es.length:=by assumption);(try rw[ee (n:=es.length) g0 hlt (by omega)]);(try have he:es.getD i.toNat []=[.i (af es i 0),.s 1 (ax es i 1)]:=(aw hwf g0 hlt).symm);(try have hr1:Rw [tI] (ax es i 1):=Rw.sub (fs:=[tI,.sl [tI]]) hw (by omega) rfl);(try have hct:=dT (es:=es) (n:=i.toNat) (by omega);rw[he]at hct;simp only[dV,gN,Nat.add_zero,Nat.zero_add]at hct))
  all_goals have hle1:=bF (es:=es) (n:=i.toNat+1)
  all_goals have hcE:ak es=es.length+bA es:=rfl
  all_goals first|exact gG hwf g0 hlt|exact⟨g0,hlt⟩|(rw[hm];exact kW (by rw[dW g1];omega) (by rw[eY (by omega)];exact Nat.le_refl _))|omega|(rw[show(i+1).toNat=i.toNat+1 from by omega, <-oH (by omega), <-hm,rS (by rw[hm,eY (by omega)];rfl),he])|(rw[hm,dW g1];exact⟨trivial,rfl⟩)|(rw[hm,show i.toNat=es.length from by omega,oG])|trivial|(refine⟨hr1,?_⟩;simp only[ao,ak,Nat.add_zero];omega)|trace_state
theorem oa {es:aa}{d:DV}(hp:d=.one (.s 2 es)/\Rw [tI,.sl [tI]] es/\ak es<=1099511627776):ap 85 [.one (.s 2 es),d] [.k true]:=by
 obtain⟨rfl,hw,hlim⟩:=hp;have hwf:Wf [.i 0,.s 1 []] es:=hw.wf;have hlen:=dA hlim;refine cb LRefObjS.B Tryz.func85 ?_
 intro O r F hO hr hF;cbv
 apply be<;>intro hb<;>cbv
 ·(subst hO hr hF;(try simp only[nc]at*);(try simp only[ai,SS,sa,az]at*));exact absurd rfl hb
 ·clear hb;refine⟨[0,1,5],[],Int,fun i=>[.reg 5 (.j i)],fun i=>0<=i/\i.toNat<=es.length,fun i=>es.length-i.toNat,⟨0,?_,?_⟩,?_⟩
  ·exact⟨by omega,Nat.zero_le _⟩
  ·cbv
  ·rintro i hi;replace hi:0<=i/\i.toNat<=es.length:=hi;obtain⟨g0,g1⟩:=hi;cbv
   repeat' first|apply And.intro|(apply be<;>intro hb<;>cbv)|(refine ab (O.ar .add .i64 i 1) ?_ ?_ ?_;focus (cbv;done))
   all_goals(subst hO hr hF;(try simp only[nc]at*);(try simp only[ai,SS,sa,az]at*);(try have hlt:i<es.length:=by assumption);(try rw[ee (n:=es.length) g0 hlt (by omega)]);(try have he:es.getD i.toNat []=[.i (af es i 0),.s 1 (ax es i 1)]:=(aw hwf g0 hlt).symm);(try have hr1:Rw [tI] (ax es i 1):=Rw.sub (fs:=[tI,.sl [tI]]) hw (by omega) rfl);(try have hct:=dT (es:=es) (n:=i.toNat) (by omega);rw[he]at hct;simp only[dV,gN,Nat.add_zero,Nat.zero_add]at hct))
   all_goals have hle1:=bF (es:=es) (n:=i.toNat+1)
   all_goals have hcE:ak es=es.length+bA es:=rfl
   all_goals first|omega|exact gG hwf g0 hlt|trivial|(refine⟨trivial,hr1,?_⟩;simp only[ao,ak,Nat.add_zero];omega)|trace_state
namespace LRefHeap
structure av where
 szN:List aa->Int->Int
abbrev F0 :av:=⟨bi⟩
def ct (F:av):CT:=fun f ds=>match f,ds with
 |80,[.one (.s 2 es),.one (.v (.int .i64 left))]=>some (fun _=>Rw [tI,.sl [tI]] es/\0<=left/\left<=1048576,[.j (F.szN [es] left)])
 |83,[.one (.s 2 es)]=>some (fun _=>Rw [tI,.sl [tI]] es/\ak es<=1048576,[.one (.s 2 es)])
 |85,[.one (.s 2 es),d]=>some (fun _=>d=.one (.s 2 es)/\Rw [tI,.sl [tI]] es/\ak es<=1099511627776,[.k true])
 |_,_=>none
theorem ah :aO (ct F0):=by
 intro f ds pre res h hp;unfold ct at h;split at h<;>cases h
 exact om hp;exact ox hp;exact oa hp
abbrev B :ce:=tb ah
end LRefHeap
theorem oj {a0:Int}{a1:aa}{left:Int}(hp:Rw [tI,.sl [tI]] a1/\0<=left/\left<=1048576):ap 21 [.agg [.i a0,.s 2 a1],.j left] [.j (bi [a1] left)]:=by
 obtain⟨w0,h0,h1⟩:=hp;refine cb LRefHeap.B Tryz.func21 ?_
 exact I3
theorem ou {a0:Int}{a1:aa}(hp:Rw [tI,.sl [tI]] a1/\ao [a1]<=1048576):ap 23 [.agg [.i a0,.s 2 a1]] [.agg [.i a0,.s 2 a1]]:=by
 obtain⟨w0,hlim⟩:=hp;simp only[ao,Nat.add_zero]at hlim;refine cb LRefHeap.B Tryz.func23 ?_
 exact mh
theorem nZ {a0:Int}{a1:aa}{d:DV}(hp:d=.agg [.i a0,.s 2 a1]/\Rw [tI,.sl [tI]] a1/\ao [a1]<=1099511627776):ap 25 [.agg [.i a0,.s 2 a1],d] [.k true]:=by
 obtain⟨rfl,w0,hlim⟩:=hp;simp only[ao,Nat.add_zero]at hlim;refine cb LRefHeap.B Tryz.func25 ?_
 exact mh
end Go.V