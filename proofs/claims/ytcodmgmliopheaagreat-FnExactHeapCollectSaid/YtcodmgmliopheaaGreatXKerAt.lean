/- Contracts. -/
import Derived.Test.YtcodmgmliopheaaGreatXHeapBt
set_option linter.all false
open Go
open And renaming intro->By
namespace Go.V
open Go Go.Proofs
set_option maxRecDepth 1000000
set_option maxHeartbeats 8000000
abbrev KA1 :cW:=eF (fun F f=>match f with|91=>aj F|89=>aj F|_=>fun _=>none) (by
 intro f;dsimp only;split;exact bu;exact bC;exact cX)
def eJ :EC:=fun F=>fun
 |[.agg [.s 1 cs,.s 1 us]]=>some (fun _=>Rw [.sl [tI]] cs/\Rw [tB] us,[.k (F.framesOk cs us)])
 |_=>none
theorem xd :ec 379 eJ:=by
 intro _ _ _ h hp;dsimp only[eJ,F0]at h;split at h<;>cases h
 rename_i cs us;obtain⟨hc,hu⟩:=hp;have hcw:=hc.wf;have huw:=hu.wf;have hlen:=hc.1;unfold maxLen at hlen;refine cb KA1 Tryz.func379 ?_
 intro O r F hO hr hF;cbv
 repeat' first|apply By|(apply bD<;>intro hb<;>cbv)|(refine⟨[1,22,23,24],[1],Int,fun i=>[.reg 24 (.j i)],fun i=>0<=i/\i<=((cs.length:Nat):Int)/\upto (ie cs us) i,fun i=>(cs.length)-i.toNat,⟨0,?_,?_⟩,?_⟩;rotate_left;(focus (cbv;done));intro i hi;replace hi:0<=i/\i<=((cs.length:Nat):Int)/\upto (ie cs us) i:=hi;obtain⟨i0,i1,i2⟩:=hi;cbv)|(refine ab (O.ar .add .i64 i 1) ?_ ?_ ?_;focus (cbv;done))|(refine⟨[1,3,22,23,24,32,33,34],[1],Int,fun k=>[.reg 34 (.j k)],fun k=>0<=k/\k<=(((O.gs cs i 0).length:Nat):Int)/\upto (nP cs us i) k,fun k=>((O.gs cs i 0).length)-k.toNat,⟨0,?_,?_⟩,?_⟩;rotate_left;(focus (cbv;done));intro k hk;replace hk:0<=k/\k<=(((O.gs cs i 0).length:Nat):Int)/\upto (nP cs us i) k:=hk;obtain⟨k0,k1,k2⟩:=hk;cbv)|(refine ab (O.ar .add .i64 k 1) ?_ ?_ ?_;focus (cbv;done))
 all_goals exact aaJ
theorem x8 :ec 366 eJ:=by
 intro _ _ _ h hp;dsimp only[eJ,F0]at h;split at h<;>cases h
 rename_i cs us;obtain⟨hc,hu⟩:=hp;have hlen:=hc.1;unfold maxLen at hlen;refine cb KA1 Tryz.func366 ?_
 intro O r F hO hr hF;cbv
 repeat' first|apply By|(apply bD<;>intro hb<;>cbv)|(refine⟨[1,3],[1],Int,fun i=>[.reg 3 (.j i)],fun i=>0<=i/\i<=((cs.length:Nat):Int)/\upto (ie cs us) i,fun i=>(cs.length)-i.toNat,⟨0,?_,?_⟩,?_⟩;rotate_left;(focus (cbv;done));intro i hi;replace hi:0<=i/\i<=((cs.length:Nat):Int)/\upto (ie cs us) i:=hi;obtain⟨i0,i1,i2⟩:=hi;cbv)|(refine ab (O.ar .add .i64 i 1) ?_ ?_ ?_;focus (cbv;done))|(refine⟨[1,3,4],[1],Int,fun k=>[.reg 4 (.j k)],fun k=>0<=k/\k<=((16:Nat):Int)/\upto (nP cs us i) k,fun k=>(16)-k.toNat,⟨0,?_,?_⟩,?_⟩;rotate_left;(focus (cbv;done));intro k hk;replace hk:0<=k/\k<=((16:Nat):Int)/\upto (nP cs us i) k:=hk;obtain⟨k0,k1,k2⟩:=hk;cbv)|(refine ab (O.ar .add .i64 k 1) ?_ ?_ ?_;focus (cbv;done))
 all_goals exact aaJ
def ft :EC:=fun F=>fun
 |[.agg [.s 2 es],.one (.v (.int .i64 n))]=>some (fun _=>Rw [tI,tI] es,[.k (F.tableOk es n)])
 |_=>none
theorem za :ec 380 ft:=by
 intro _ _ _ h hp;dsimp only[ft,F0]at h;split at h<;>cases h
 rename_i es n;have hlen:=hp.1;unfold maxLen at hlen;refine cb KA1 Tryz.func380 ?_
 intro O r F hO hr hF;cbv
 repeat' first|apply By|(apply bD<;>intro hb<;>cbv)|(refine⟨[1,2,8,9,10],[2],Int,fun i=>[.reg 10 (.j i)],fun i=>0<=i/\i<=((es.length:Nat):Int)/\upto (qM es n) i,fun i=>(es.length)-i.toNat,⟨0,?_,?_⟩,?_⟩;rotate_left;(focus (cbv;done));intro i hi;replace hi:0<=i/\i<=((es.length:Nat):Int)/\upto (qM es n) i:=hi;obtain⟨i0,i1,i2⟩:=hi;cbv)|(refine ab (O.ar .add .i64 i 1) ?_ ?_ ?_;focus (cbv;done))
 all_goals exact aaS
theorem zU :ec 367 ft:=by
 intro _ _ _ h hp;dsimp only[ft,F0]at h;split at h<;>cases h
 rename_i es n;have hlen:=hp.1;unfold maxLen at hlen;refine cb KA1 Tryz.func367 ?_
 intro O r F hO hr hF;cbv
 repeat' first|apply By|(apply bD<;>intro hb<;>cbv)|(refine⟨[1,2,5],[2],Int,fun i=>[.reg 5 (.j i)],fun i=>0<=i/\i<=((es.length:Nat):Int)/\upto (qM es n) i,fun i=>(es.length)-i.toNat,⟨0,?_,?_⟩,?_⟩;rotate_left;(focus (cbv;done));intro i hi;replace hi:0<=i/\i<=((es.length:Nat):Int)/\upto (qM es n) i:=hi;obtain⟨i0,i1,i2⟩:=hi;cbv)|(refine ab (O.ar .add .i64 i 1) ?_ ?_ ?_;focus (cbv;done))
 all_goals exact aaS
def dT :EC:=fun F=>fun
 |[.one (.s 1 es)]=>some (fun _=>Rw [tI] es/\es.length<=1099511627776,[.one (.s 1 es)])
 |_=>none
theorem fP :ec 222 dT:=by
 intro _ _ _ h hp;dsimp only[dT,F0]at h;split at h<;>cases h
 rename_i es;obtain⟨hw,hl⟩:=hp;have hs:=hw.scal rfl;refine cb nB Tryz.func222 ?_
 intro O r F hO hr hF;cbv
 repeat' first|apply By|(apply bD<;>intro hb<;>cbv)
 all_goals(subst hO hr hF;(try simp only[nc]at*);(try simp only[ah,SS,sa,az]at*))
 all_goals first|exact hs|trivial|(simp only[List.length_nil];omega)|trace_state
abbrev KD4 :cW:=eF (fun F f=>match f with|379=>eJ F|380=>ft F|312=>cK F|_=>fun _=>none) (by
 intro f;dsimp only;split;exact xd;exact za;exact lO;exact cX)
def eb :EC:=fun F=>fun
 |[.agg [.s 1 cs,.s 1 us,.s 2 es]]=>some (fun _=>Rw [.sl [tI]] cs/\Rw [tB] us/\Rw [tI,tI] es,[.k (F.machOk cs us es)])
 |_=>none
theorem vf :ec 284 eb:=by
 intro _ _ _ h hp;dsimp only[eb,F0]at h;split at h<;>cases h
 rename_i cs us es;obtain⟨hc,hu,ht⟩:=hp;have hm:=hu.1;unfold maxLen at hm;refine cb KD4 Tryz.func284 ?_
 intro O r F hO hr hF;cbv
 repeat' first|apply By|(apply bD<;>intro hb<;>cbv)|(refine⟨[1,21,22,23],[1],Int,fun i=>[.reg 23 (.j i)],fun i=>0<=i/\i<=((us.length:Nat):Int)/\upto (oA us es) i,fun i=>(us.length)-i.toNat,⟨0,?_,?_⟩,?_⟩;rotate_left;(focus (cbv;done));intro i hi;replace hi:0<=i/\i<=((us.length:Nat):Int)/\upto (oA us es) i:=hi;obtain⟨i0,i1,i2⟩:=hi;cbv)|(refine ab (O.ar .add .i64 i 1) ?_ ?_ ?_;focus (cbv;done))
 all_goals(subst hO hr hF;(try simp only[nc]at*);(try simp only[ah,SS,sa,az]at*);(try simp only[JH]at*);(try rw[di (by omega) (by omega)]);(try(have hfl:=AD (cs:=cs) (us:=us) (by assumption)));(try(have htl:=BC (es:=es) (n:=(us.length:Int)) (by assumption)));(try(have htl:=BC (es:=es) (n:=(cs.length:Int)) (by assumption))))
 all_goals first|omega|exact gp|exact bM|exact⟨hc,hu⟩|exact⟨ht,by omega⟩|exact ai (JM (.inl (by assumption))).symm|exact ai (Vi (by assumption) (by assumption)).symm|exact ai (Nf i0 (by omega) (by assumption)).symm|exact bj i2 (Nc (by assumption))|exact ai (H5 (by assumption) (by assumption) i2 (by omega)).symm|trace_state
abbrev KD5 :cW:=eF (fun F f=>match f with|366=>eJ F|367=>ft F|368=>cK F|_=>fun _=>none) (by
 intro f;dsimp only;split;exact x8;exact zU;exact lW;exact cX)
theorem vG :ec 263 eb:=by
 intro _ _ _ h hp;dsimp only[eb,F0]at h;split at h<;>cases h
 rename_i cs us es;obtain⟨hc,hu,ht⟩:=hp;have hm:=hu.1;unfold maxLen at hm;refine cb KD5 Tryz.func263 ?_
 intro O r F hO hr hF;cbv
 repeat' first|apply By|(apply bD<;>intro hb<;>cbv)|(refine⟨[1,3],[1],Int,fun i=>[.reg 3 (.j i)],fun i=>0<=i/\i<=((us.length:Nat):Int)/\upto (oA us es) i,fun i=>(us.length)-i.toNat,⟨0,?_,?_⟩,?_⟩;rotate_left;(focus (cbv;done));intro i hi;replace hi:0<=i/\i<=((us.length:Nat):Int)/\upto (oA us es) i:=hi;obtain⟨i0,i1,i2⟩:=hi;cbv)|(refine ab (O.ar .add .i64 i 1) ?_ ?_ ?_;focus (cbv;done))
 all_goals(subst hO hr hF;(try simp only[nc]at*);(try simp only[ah,SS,sa,az]at*);(try simp only[JH]at*);(try rw[di (by omega) (by omega)]);(try(have hfl:=AD (cs:=cs) (us:=us) (by assumption)));(try(have htl:=BC (es:=es) (n:=(us.length:Int)) (by assumption)));(try(have htl:=BC (es:=es) (n:=(cs.length:Int)) (by assumption))))
 all_goals first|omega|exact gp|(show aP _ _=true;kernel_rfl)|exact bM|exact⟨hc,hu⟩|exact⟨ht,by omega⟩|exact ai (JM (.inl (by assumption))).symm|exact ai (JM (.inr (by assumption))).symm|exact ai (Nf i0 (by omega) (by assumption)).symm|exact bj i2 (Nc (by assumption))|(refine ai (H5 (by assumption) ?_ i2 (by omega)).symm;rw[hfl.1];assumption)|trace_state
end Go.V