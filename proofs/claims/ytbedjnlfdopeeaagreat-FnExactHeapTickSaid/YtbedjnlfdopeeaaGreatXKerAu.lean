/- Contracts. -/
import Derived.Test.YtbedjnlfdopeeaaGreatXHeapBu
set_option linter.all false
open Go
open And renaming intro->Zb
open IntKind renaming i64->Za
namespace Go.V
open Go Go.Proofs
set_option maxRecDepth 1000000
set_option maxHeartbeats 8000000
namespace KA1
structure aP where
 inR:Int->Int->Int->Bool
abbrev F0:aP:=⟨inR⟩
def ct (F:aP):CT:=fun f ds=>match f,ds with
 |41,[.one (.v (.int Za x)),.one (.v (.int Za a)),.one (.v (.int Za b))]=>some (fun _=>True,[.k (F.inR x a b)])
 |28,[.one (.v (.int Za x)),.one (.v (.int Za a)),.one (.v (.int Za b))]=>some (fun _=>True,[.k (F.inR x a b)])
 |_,_=>none
theorem aj:aT (ct F0):=by
 intro f ds pre res h hp;unfold ct at h;split at h<;>cases h
 exact bc hp;exact be hp
abbrev B:cF:=tb aj
end KA1
theorem qd {cs us:aa}(hp:Rw [.sl [tI]] cs/\Rw [tB] us):ap 313 [.agg [.s 1 cs,.s 1 us]] [.k (framesOk cs us)]:=by
 obtain⟨hc,hu⟩:=hp;have hcw:=hc.wf;have huw:=hu.wf;have hlen:=hc.1;unfold maxLen at hlen;refine cb KA1.B Tryz.func313 ?_
 intro O r F hO hr hF;cbv
 repeat' first|apply Zb|(apply bu<;>intro hb<;>cbv)|(refine⟨[1,22,23,24],[1],Int,fun i=>[.reg 24 (.j i)],fun i=>0<=i/\i<=((cs.length:Nat):Int)/\upto (eD cs us) i,fun i=>(cs.length)-i.toNat,⟨0,?_,?_⟩,?_⟩;rotate_left;(focus (cbv;done));intro i hi;replace hi:0<=i/\i<=((cs.length:Nat):Int)/\upto (eD cs us) i:=hi;obtain⟨i0,i1,i2⟩:=hi;cbv)|(refine ab (O.ar .add Za i 1) ?_ ?_ ?_;focus (cbv;done))|(refine⟨[1,3,22,23,24,32,33,34],[1],Int,fun k=>[.reg 34 (.j k)],fun k=>0<=k/\k<=(((O.gs cs i 0).length:Nat):Int)/\upto (ip cs us i) k,fun k=>((O.gs cs i 0).length)-k.toNat,⟨0,?_,?_⟩,?_⟩;rotate_left;(focus (cbv;done));intro k hk;replace hk:0<=k/\k<=(((O.gs cs i 0).length:Nat):Int)/\upto (ip cs us i) k:=hk;obtain⟨k0,k1,k2⟩:=hk;cbv)|(refine ab (O.ar .add Za k 1) ?_ ?_ ?_;focus (cbv;done))
 all_goals exact SA
theorem rt {cs us:aa}(hp:Rw [.sl [tI]] cs/\Rw [tB] us):ap 329 [.agg [.s 1 cs,.s 1 us]] [.k (framesOk cs us)]:=by
 obtain⟨hc,hu⟩:=hp;have hlen:=hc.1;unfold maxLen at hlen;refine cb KA1.B Tryz.func329 ?_
 intro O r F hO hr hF;cbv
 repeat' first|apply Zb|(apply bu<;>intro hb<;>cbv)|(refine⟨[1,3],[1],Int,fun i=>[.reg 3 (.j i)],fun i=>0<=i/\i<=((cs.length:Nat):Int)/\upto (eD cs us) i,fun i=>(cs.length)-i.toNat,⟨0,?_,?_⟩,?_⟩;rotate_left;(focus (cbv;done));intro i hi;replace hi:0<=i/\i<=((cs.length:Nat):Int)/\upto (eD cs us) i:=hi;obtain⟨i0,i1,i2⟩:=hi;cbv)|(refine ab (O.ar .add Za i 1) ?_ ?_ ?_;focus (cbv;done))|(refine⟨[1,3,4],[1],Int,fun k=>[.reg 4 (.j k)],fun k=>0<=k/\k<=((16:Nat):Int)/\upto (ip cs us i) k,fun k=>(16)-k.toNat,⟨0,?_,?_⟩,?_⟩;rotate_left;(focus (cbv;done));intro k hk;replace hk:0<=k/\k<=((16:Nat):Int)/\upto (ip cs us i) k:=hk;obtain⟨k0,k1,k2⟩:=hk;cbv)|(refine ab (O.ar .add Za k 1) ?_ ?_ ?_;focus (cbv;done))
 all_goals exact SA
theorem sM {es:aa}{n:Int}(hp:Rw [tI,tI] es):ap 314 [.agg [.s 2 es],.j n] [.k (tableOk es n)]:=by
 have hlen:=hp.1;unfold maxLen at hlen;refine cb KA1.B Tryz.func314 ?_
 intro O r F hO hr hF;cbv
 repeat' first|apply Zb|(apply bu<;>intro hb<;>cbv)|(refine⟨[1,2,8,9,10],[2],Int,fun i=>[.reg 10 (.j i)],fun i=>0<=i/\i<=((es.length:Nat):Int)/\upto (kh es n) i,fun i=>(es.length)-i.toNat,⟨0,?_,?_⟩,?_⟩;rotate_left;(focus (cbv;done));intro i hi;replace hi:0<=i/\i<=((es.length:Nat):Int)/\upto (kh es n) i:=hi;obtain⟨i0,i1,i2⟩:=hi;cbv)|(refine ab (O.ar .add Za i 1) ?_ ?_ ?_;focus (cbv;done))
 all_goals exact SH
theorem tF {es:aa}{n:Int}(hp:Rw [tI,tI] es):ap 330 [.agg [.s 2 es],.j n] [.k (tableOk es n)]:=by
 have hlen:=hp.1;unfold maxLen at hlen;refine cb KA1.B Tryz.func330 ?_
 intro O r F hO hr hF;cbv
 repeat' first|apply Zb|(apply bu<;>intro hb<;>cbv)|(refine⟨[1,2,5],[2],Int,fun i=>[.reg 5 (.j i)],fun i=>0<=i/\i<=((es.length:Nat):Int)/\upto (kh es n) i,fun i=>(es.length)-i.toNat,⟨0,?_,?_⟩,?_⟩;rotate_left;(focus (cbv;done));intro i hi;replace hi:0<=i/\i<=((es.length:Nat):Int)/\upto (kh es n) i:=hi;obtain⟨i0,i1,i2⟩:=hi;cbv)|(refine ab (O.ar .add Za i 1) ?_ ?_ ?_;focus (cbv;done))
 all_goals exact SH
theorem fR {es:aa}(hp:Rw [tI] es/\es.length<=1099511627776):ap 222 [.one (.s 1 es)] [.one (.s 1 es)]:=by
 obtain⟨hw,hl⟩:=hp;have hs:=hw.scal rfl;refine cb nB Tryz.func222 ?_
 intro O r F hO hr hF;cbv
 repeat' first|apply Zb|(apply bu<;>intro hb<;>cbv)
 all_goals(subst hO hr hF;(try simp only[nc]at*);(try simp only[ak,SS,sa,az]at*))
 all_goals first|exact hs|trivial|(simp only[List.length_nil];omega)|trace_state
namespace KD4
structure aP where
 framesOk:aa->aa->Bool
 tableOk:aa->Int->Bool
 pagesOn:aa->Int->aa
abbrev F0:aP:=⟨framesOk,tableOk,pagesOn⟩
def ct (F:aP):CT:=fun f ds=>match f,ds with
 |313,[.agg [.s 1 cs,.s 1 us]]=>some (fun _=>Rw [.sl [tI]] cs/\Rw [tB] us,[.k (F.framesOk cs us)])
 |314,[.agg [.s 2 es],.one (.v (.int Za n))]=>some (fun _=>Rw [tI,tI] es,[.k (F.tableOk es n)])
 |315,[.agg [.s 2 es],.one (.v (.int Za f))]=>some (fun _=>Rw [tI,tI] es/\es.length<=1099511627776,[.one (.s 1 (F.pagesOn es f))])
 |_,_=>none
theorem aj:aT (ct F0):=by
 intro f ds pre res h hp;unfold ct at h;split at h<;>cases h
 exact qd hp;exact sM hp;exact gq hp
abbrev B:cF:=tb aj
end KD4
theorem ox {cs us es:aa}(hp:Rw [.sl [tI]] cs/\Rw [tB] us/\Rw [tI,tI] es):ap 224 [.agg [.s 1 cs,.s 1 us,.s 2 es]] [.k (machOk cs us es)]:=by
 obtain⟨hc,hu,ht⟩:=hp;have hm:=hu.1;unfold maxLen at hm;refine cb KD4.B Tryz.func224 ?_
 intro O r F hO hr hF;cbv
 repeat' first|apply Zb|(apply bu<;>intro hb<;>cbv)|(refine⟨[1,21,22,23],[1],Int,fun i=>[.reg 23 (.j i)],fun i=>0<=i/\i<=((us.length:Nat):Int)/\upto (iw us es) i,fun i=>(us.length)-i.toNat,⟨0,?_,?_⟩,?_⟩;rotate_left;(focus (cbv;done));intro i hi;replace hi:0<=i/\i<=((us.length:Nat):Int)/\upto (iw us es) i:=hi;obtain⟨i0,i1,i2⟩:=hi;cbv)|(refine ab (O.ar .add Za i 1) ?_ ?_ ?_;focus (cbv;done))
 all_goals(subst hO hr hF;(try simp only[nc]at*);(try simp only[ak,SS,sa,az]at*);(try simp only[C8]at*);(try rw[cy (by omega) (by omega)]);(try(have hfl:=uo (cs:=cs) (us:=us) (by assumption)));(try(have htl:=vz (es:=es) (n:=(us.length:Int)) (by assumption)));(try(have htl:=vz (es:=es) (n:=(cs.length:Int)) (by assumption))))
 all_goals first|omega|exact eF|exact bC|exact⟨hc,hu⟩|exact⟨ht,by omega⟩|exact ai (Dd (.inl (by assumption))).symm|exact ai (M3 (by assumption) (by assumption)).symm|exact ai (Gq i0 (by omega) (by assumption)).symm|exact aW i2 (Gp (by assumption))|exact ai (BL (by assumption) (by assumption) i2 (by omega)).symm|trace_state
namespace KD5
structure aP where
 framesOk:aa->aa->Bool
 tableOk:aa->Int->Bool
 pagesOn:aa->Int->aa
abbrev F0:aP:=⟨framesOk,tableOk,pagesOn⟩
def ct (F:aP):CT:=fun f ds=>match f,ds with
 |329,[.agg [.s 1 cs,.s 1 us]]=>some (fun _=>Rw [.sl [tI]] cs/\Rw [tB] us,[.k (F.framesOk cs us)])
 |330,[.agg [.s 2 es],.one (.v (.int Za n))]=>some (fun _=>Rw [tI,tI] es,[.k (F.tableOk es n)])
 |331,[.agg [.s 2 es],.one (.v (.int Za f))]=>some (fun _=>Rw [tI,tI] es/\es.length<=1099511627776,[.one (.s 1 (F.pagesOn es f))])
 |_,_=>none
theorem aj:aT (ct F0):=by
 intro f ds pre res h hp;unfold ct at h;split at h<;>cases h
 exact rt hp;exact tF hp;exact gB hp
abbrev B:cF:=tb aj
end KD5
theorem oP {cs us es:aa}(hp:Rw [.sl [tI]] cs/\Rw [tB] us/\Rw [tI,tI] es):ap 257 [.agg [.s 1 cs,.s 1 us,.s 2 es]] [.k (machOk cs us es)]:=by
 obtain⟨hc,hu,ht⟩:=hp;have hm:=hu.1;unfold maxLen at hm;refine cb KD5.B Tryz.func257 ?_
 intro O r F hO hr hF;cbv
 repeat' first|apply Zb|(apply bu<;>intro hb<;>cbv)|(refine⟨[1,3],[1],Int,fun i=>[.reg 3 (.j i)],fun i=>0<=i/\i<=((us.length:Nat):Int)/\upto (iw us es) i,fun i=>(us.length)-i.toNat,⟨0,?_,?_⟩,?_⟩;rotate_left;(focus (cbv;done));intro i hi;replace hi:0<=i/\i<=((us.length:Nat):Int)/\upto (iw us es) i:=hi;obtain⟨i0,i1,i2⟩:=hi;cbv)|(refine ab (O.ar .add Za i 1) ?_ ?_ ?_;focus (cbv;done))
 all_goals(subst hO hr hF;(try simp only[nc]at*);(try simp only[ak,SS,sa,az]at*);(try simp only[C8]at*);(try rw[cy (by omega) (by omega)]);(try(have hfl:=uo (cs:=cs) (us:=us) (by assumption)));(try(have htl:=vz (es:=es) (n:=(us.length:Int)) (by assumption)));(try(have htl:=vz (es:=es) (n:=(cs.length:Int)) (by assumption))))
 all_goals first|omega|exact eF|(show aV _ _=true;kernel_rfl)|exact bC|exact⟨hc,hu⟩|exact⟨ht,by omega⟩|exact ai (Dd (.inl (by assumption))).symm|exact ai (Dd (.inr (by assumption))).symm|exact ai (Gq i0 (by omega) (by assumption)).symm|exact aW i2 (Gp (by assumption))|(refine ai (BL (by assumption) ?_ i2 (by omega)).symm;rw[hfl.1];assumption)|trace_state
end Go.V