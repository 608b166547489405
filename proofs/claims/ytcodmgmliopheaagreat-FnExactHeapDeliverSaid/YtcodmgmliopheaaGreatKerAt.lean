/- Contracts. -/
import Derived.Test.YtcodmgmliopheaaGreatHeapBt
set_option linter.all false
namespace Go.V
open Go Go.Proofs
set_option maxRecDepth 1000000
set_option maxHeartbeats 8000000
namespace KA1
structure aQ where
 inR:Int->Int->Int->Bool
abbrev F0 :aQ:=⟨inR⟩
def ct (F:aQ):CT:=fun f ds=>match f,ds with
 |91,[.one (.v (.int .i64 x)),.one (.v (.int .i64 a)),.one (.v (.int .i64 b))]=>some (fun _=>True,[.k (F.inR x a b)])
 |89,[.one (.v (.int .i64 x)),.one (.v (.int .i64 a)),.one (.v (.int .i64 b))]=>some (fun _=>True,[.k (F.inR x a b)])
 |_,_=>none
theorem ah :aR (ct F0):=by
 intro f ds pre res h hp;unfold ct at h;split at h<;>cases h
 exact aU hp;exact bc hp
abbrev B :cq:=tb ah
end KA1
theorem qj {cs us:aa}(hp:Rw [.sl [tI]] cs/\Rw [tB] us):ap 379 [.agg [.s 1 cs,.s 1 us]] [.k (framesOk cs us)]:=by
 obtain⟨hc,hu⟩:=hp;have hcw:=hc.wf;have huw:=hu.wf;have hlen:=hc.1;unfold maxLen at hlen;refine cb KA1.B Tryz.func379 ?_
 intro O r F hO hr hF;cbv
 repeat' first|apply And.intro|(apply bi<;>intro hb<;>cbv)|(refine⟨[1,22,23,24],[1],Int,fun i=>[.reg 24 (.j i)],fun i=>0<=i/\i<=((cs.length:Nat):Int)/\upto (fo cs us) i,fun i=>(cs.length)-i.toNat,⟨0,?_,?_⟩,?_⟩;rotate_left;(focus (cbv;done));intro i hi;replace hi:0<=i/\i<=((cs.length:Nat):Int)/\upto (fo cs us) i:=hi;obtain⟨i0,i1,i2⟩:=hi;cbv)|(refine ab (O.ar .add .i64 i 1) ?_ ?_ ?_;focus (cbv;done))|(refine⟨[1,3,22,23,24,32,33,34],[1],Int,fun k=>[.reg 34 (.j k)],fun k=>0<=k/\k<=(((O.gs cs i 0).length:Nat):Int)/\upto (iK cs us i) k,fun k=>((O.gs cs i 0).length)-k.toNat,⟨0,?_,?_⟩,?_⟩;rotate_left;(focus (cbv;done));intro k hk;replace hk:0<=k/\k<=(((O.gs cs i 0).length:Nat):Int)/\upto (iK cs us i) k:=hk;obtain⟨k0,k1,k2⟩:=hk;cbv)|(refine ab (O.ar .add .i64 k 1) ?_ ?_ ?_;focus (cbv;done))
 all_goals exact SH
theorem rr {cs us:aa}(hp:Rw [.sl [tI]] cs/\Rw [tB] us):ap 366 [.agg [.s 1 cs,.s 1 us]] [.k (framesOk cs us)]:=by
 obtain⟨hc,hu⟩:=hp;have hlen:=hc.1;unfold maxLen at hlen;refine cb KA1.B Tryz.func366 ?_
 intro O r F hO hr hF;cbv
 repeat' first|apply And.intro|(apply bi<;>intro hb<;>cbv)|(refine⟨[1,3],[1],Int,fun i=>[.reg 3 (.j i)],fun i=>0<=i/\i<=((cs.length:Nat):Int)/\upto (fo cs us) i,fun i=>(cs.length)-i.toNat,⟨0,?_,?_⟩,?_⟩;rotate_left;(focus (cbv;done));intro i hi;replace hi:0<=i/\i<=((cs.length:Nat):Int)/\upto (fo cs us) i:=hi;obtain⟨i0,i1,i2⟩:=hi;cbv)|(refine ab (O.ar .add .i64 i 1) ?_ ?_ ?_;focus (cbv;done))|(refine⟨[1,3,4],[1],Int,fun k=>[.reg 4 (.j k)],fun k=>0<=k/\k<=((16:Nat):Int)/\upto (iK cs us i) k,fun k=>(16)-k.toNat,⟨0,?_,?_⟩,?_⟩;rotate_left;(focus (cbv;done));intro k hk;replace hk:0<=k/\k<=((16:Nat):Int)/\upto (iK cs us i) k:=hk;obtain⟨k0,k1,k2⟩:=hk;cbv)|(refine ab (O.ar .add .i64 k 1) ?_ ?_ ?_;focus (cbv;done))
 all_goals exact SH
theorem sO {es:aa}{n:Int}(hp:Rw [tI,tI] es):ap 380 [.agg [.s 2 es],.j n] [.k (tableOk es n)]:=by
 have hlen:=hp.1;unfold maxLen at hlen;refine cb KA1.B Tryz.func380 ?_
 intro O r F hO hr hF;cbv
 repeat' first|apply And.intro|(apply bi<;>intro hb<;>cbv)|(refine⟨[1,2,8,9,10],[2],Int,fun i=>[.reg 10 (.j i)],fun i=>0<=i/\i<=((es.length:Nat):Int)/\upto (lp es n) i,fun i=>(es.length)-i.toNat,⟨0,?_,?_⟩,?_⟩;rotate_left;(focus (cbv;done));intro i hi;replace hi:0<=i/\i<=((es.length:Nat):Int)/\upto (lp es n) i:=hi;obtain⟨i0,i1,i2⟩:=hi;cbv)|(refine ab (O.ar .add .i64 i 1) ?_ ?_ ?_;focus (cbv;done))
 all_goals exact SR
theorem tJ {es:aa}{n:Int}(hp:Rw [tI,tI] es):ap 367 [.agg [.s 2 es],.j n] [.k (tableOk es n)]:=by
 have hlen:=hp.1;unfold maxLen at hlen;refine cb KA1.B Tryz.func367 ?_
 intro O r F hO hr hF;cbv
 repeat' first|apply And.intro|(apply bi<;>intro hb<;>cbv)|(refine⟨[1,2,5],[2],Int,fun i=>[.reg 5 (.j i)],fun i=>0<=i/\i<=((es.length:Nat):Int)/\upto (lp es n) i,fun i=>(es.length)-i.toNat,⟨0,?_,?_⟩,?_⟩;rotate_left;(focus (cbv;done));intro i hi;replace hi:0<=i/\i<=((es.length:Nat):Int)/\upto (lp es n) i:=hi;obtain⟨i0,i1,i2⟩:=hi;cbv)|(refine ab (O.ar .add .i64 i 1) ?_ ?_ ?_;focus (cbv;done))
 all_goals exact SR
theorem fH {es:aa}(hp:Rw [tI] es/\es.length<=1099511627776):ap 222 [.one (.s 1 es)] [.one (.s 1 es)]:=by
 obtain⟨hw,hl⟩:=hp;have hs:=hw.scal rfl;refine cb nB Tryz.func222 ?_
 intro O r F hO hr hF;cbv
 repeat' first|apply And.intro|(apply bi<;>intro hb<;>cbv)
 all_goals(subst hO hr hF;(try simp only[nc]at*);(try simp only[ai,SS,sa,az]at*))
 all_goals first|exact hs|trivial|(simp only[List.length_nil];omega)|trace_state
namespace KD4
structure aQ where
 framesOk:aa->aa->Bool
 tableOk:aa->Int->Bool
 pagesOn:aa->Int->aa
abbrev F0 :aQ:=⟨framesOk,tableOk,pagesOn⟩
def ct (F:aQ):CT:=fun f ds=>match f,ds with
 |379,[.agg [.s 1 cs,.s 1 us]]=>some (fun _=>Rw [.sl [tI]] cs/\Rw [tB] us,[.k (F.framesOk cs us)])
 |380,[.agg [.s 2 es],.one (.v (.int .i64 n))]=>some (fun _=>Rw [tI,tI] es,[.k (F.tableOk es n)])
 |312,[.agg [.s 2 es],.one (.v (.int .i64 f))]=>some (fun _=>Rw [tI,tI] es/\es.length<=1099511627776,[.one (.s 1 (F.pagesOn es f))])
 |_,_=>none
theorem ah :aR (ct F0):=by
 intro f ds pre res h hp;unfold ct at h;split at h<;>cases h
 exact qj hp;exact sO hp;exact jS hp
abbrev B :cq:=tb ah
end KD4
theorem oy {cs us es:aa}(hp:Rw [.sl [tI]] cs/\Rw [tB] us/\Rw [tI,tI] es):ap 284 [.agg [.s 1 cs,.s 1 us,.s 2 es]] [.k (machOk cs us es)]:=by
 obtain⟨hc,hu,ht⟩:=hp;have hm:=hu.1;unfold maxLen at hm;refine cb KD4.B Tryz.func284 ?_
 intro O r F hO hr hF;cbv
 repeat' first|apply And.intro|(apply bi<;>intro hb<;>cbv)|(refine⟨[1,21,22,23],[1],Int,fun i=>[.reg 23 (.j i)],fun i=>0<=i/\i<=((us.length:Nat):Int)/\upto (iV us es) i,fun i=>(us.length)-i.toNat,⟨0,?_,?_⟩,?_⟩;rotate_left;(focus (cbv;done));intro i hi;replace hi:0<=i/\i<=((us.length:Nat):Int)/\upto (iV us es) i:=hi;obtain⟨i0,i1,i2⟩:=hi;cbv)|(refine ab (O.ar .add .i64 i 1) ?_ ?_ ?_;focus (cbv;done))
 all_goals(subst hO hr hF;(try simp only[nc]at*);(try simp only[ai,SS,sa,az]at*);(try simp only[CW]at*);(try rw[cp (by omega) (by omega)]);(try(have hfl:=yf (cs:=cs) (us:=us) (by assumption)));(try(have htl:=yR (es:=es) (n:=(us.length:Int)) (by assumption)));(try(have htl:=yR (es:=es) (n:=(cs.length:Int)) (by assumption))))
 all_goals first|omega|exact eQ|exact bj|exact⟨hc,hu⟩|exact⟨ht,by omega⟩|exact aj (C0 (.inl (by assumption))).symm|exact aj (M5 (by assumption) (by assumption)).symm|exact aj (Gg i0 (by omega) (by assumption)).symm|exact aW i2 (KH (by assumption))|exact aj (Gi (by assumption) (by assumption) i2 (by omega)).symm|trace_state
namespace KD5
structure aQ where
 framesOk:aa->aa->Bool
 tableOk:aa->Int->Bool
 pagesOn:aa->Int->aa
abbrev F0 :aQ:=⟨framesOk,tableOk,pagesOn⟩
def ct (F:aQ):CT:=fun f ds=>match f,ds with
 |366,[.agg [.s 1 cs,.s 1 us]]=>some (fun _=>Rw [.sl [tI]] cs/\Rw [tB] us,[.k (F.framesOk cs us)])
 |367,[.agg [.s 2 es],.one (.v (.int .i64 n))]=>some (fun _=>Rw [tI,tI] es,[.k (F.tableOk es n)])
 |368,[.agg [.s 2 es],.one (.v (.int .i64 f))]=>some (fun _=>Rw [tI,tI] es/\es.length<=1099511627776,[.one (.s 1 (F.pagesOn es f))])
 |_,_=>none
theorem ah :aR (ct F0):=by
 intro f ds pre res h hp;unfold ct at h;split at h<;>cases h
 exact rr hp;exact tJ hp;exact jV hp
abbrev B :cq:=tb ah
end KD5
theorem oT {cs us es:aa}(hp:Rw [.sl [tI]] cs/\Rw [tB] us/\Rw [tI,tI] es):ap 263 [.agg [.s 1 cs,.s 1 us,.s 2 es]] [.k (machOk cs us es)]:=by
 obtain⟨hc,hu,ht⟩:=hp;have hm:=hu.1;unfold maxLen at hm;refine cb KD5.B Tryz.func263 ?_
 intro O r F hO hr hF;cbv
 repeat' first|apply And.intro|(apply bi<;>intro hb<;>cbv)|(refine⟨[1,3],[1],Int,fun i=>[.reg 3 (.j i)],fun i=>0<=i/\i<=((us.length:Nat):Int)/\upto (iV us es) i,fun i=>(us.length)-i.toNat,⟨0,?_,?_⟩,?_⟩;rotate_left;(focus (cbv;done));intro i hi;replace hi:0<=i/\i<=((us.length:Nat):Int)/\upto (iV us es) i:=hi;obtain⟨i0,i1,i2⟩:=hi;cbv)|(refine ab (O.ar .add .i64 i 1) ?_ ?_ ?_;focus (cbv;done))
 all_goals(subst hO hr hF;(try simp only[nc]at*);(try simp only[ai,SS,sa,az]at*);(try simp only[CW]at*);(try rw[cp (by omega) (by omega)]);(try(have hfl:=yf (cs:=cs) (us:=us) (by assumption)));(try(have htl:=yR (es:=es) (n:=(us.length:Int)) (by assumption)));(try(have htl:=yR (es:=es) (n:=(cs.length:Int)) (by assumption))))
 all_goals first|omega|exact eQ|(show aZ _ _=true;kernel_rfl)|exact bj|exact⟨hc,hu⟩|exact⟨ht,by omega⟩|exact aj (C0 (.inl (by assumption))).symm|exact aj (C0 (.inr (by assumption))).symm|exact aj (Gg i0 (by omega) (by assumption)).symm|exact aW i2 (KH (by assumption))|(refine aj (Gi (by assumption) ?_ i2 (by omega)).symm;rw[hfl.1];assumption)|trace_state
end Go.V