/- Contracts. -/
import Derived.Test.YticfhgfgobafbaaGreatHeapBm
set_option linter.all false
namespace Go.V
open Go Go.Proofs
set_option maxRecDepth 1000000
set_option maxHeartbeats 8000000
namespace KA1
structure aO where
 inR:Int->Int->Int->Bool
abbrev F0 :aO:=⟨inR⟩
def ct (F:aO):CT:=fun f ds=>match f,ds with
 |87,[.one (.v (.int .i64 x)),.one (.v (.int .i64 a)),.one (.v (.int .i64 b))]=>some (fun _=>True,[.k (F.inR x a b)])
 |71,[.one (.v (.int .i64 x)),.one (.v (.int .i64 a)),.one (.v (.int .i64 b))]=>some (fun _=>True,[.k (F.inR x a b)])
 |_,_=>none
theorem aj :aR (ct F0):=by
 intro f ds pre res h hp;unfold ct at h;split at h<;>cases h
 exact aU hp;exact ba hp
abbrev B :cD:=tb aj
end KA1
theorem nM {cs us:aa}(hp:Rw [.sl [tI]] cs/\Rw [tB] us):ao 203 [.agg [.s 1 cs,.s 1 us]] [.k (framesOk cs us)]:=by
 obtain⟨hc,hu⟩:=hp;have hcw:=hc.wf;have huw:=hu.wf;have hlen:=hc.1;unfold maxLen at hlen;refine cb KA1.B Tryz.func203 ?_
 intro O r F hO hr hF;cbv
 repeat' first|apply And.intro|(apply bi<;>intro hb<;>cbv)|(refine⟨[1,22,23,24],[1],Int,fun i=>[.reg 24 (.j i)],fun i=>0<=i/\i<=((cs.length:Nat):Int)/\upto (eI cs us) i,fun i=>(cs.length)-i.toNat,⟨0,?_,?_⟩,?_⟩;rotate_left;(focus (cbv;done));intro i hi;replace hi:0<=i/\i<=((cs.length:Nat):Int)/\upto (eI cs us) i:=hi;obtain⟨i0,i1,i2⟩:=hi;cbv)|(refine ab (O.ar .add .i64 i 1) ?_ ?_ ?_;focus (cbv;done))|(refine⟨[1,3,22,23,24,32,33,34],[1],Int,fun k=>[.reg 34 (.j k)],fun k=>0<=k/\k<=(((O.gs cs i 0).length:Nat):Int)/\upto (gN cs us i) k,fun k=>((O.gs cs i 0).length)-k.toNat,⟨0,?_,?_⟩,?_⟩;rotate_left;(focus (cbv;done));intro k hk;replace hk:0<=k/\k<=(((O.gs cs i 0).length:Nat):Int)/\upto (gN cs us i) k:=hk;obtain⟨k0,k1,k2⟩:=hk;cbv)|(refine ab (O.ar .add .i64 k 1) ?_ ?_ ?_;focus (cbv;done))
 all_goals exact LA
theorem oM {cs us:aa}(hp:Rw [.sl [tI]] cs/\Rw [tB] us):ao 196 [.agg [.s 1 cs,.s 1 us]] [.k (framesOk cs us)]:=by
 obtain⟨hc,hu⟩:=hp;have hlen:=hc.1;unfold maxLen at hlen;refine cb KA1.B Tryz.func196 ?_
 intro O r F hO hr hF;cbv
 repeat' first|apply And.intro|(apply bi<;>intro hb<;>cbv)|(refine⟨[1,3],[1],Int,fun i=>[.reg 3 (.j i)],fun i=>0<=i/\i<=((cs.length:Nat):Int)/\upto (eI cs us) i,fun i=>(cs.length)-i.toNat,⟨0,?_,?_⟩,?_⟩;rotate_left;(focus (cbv;done));intro i hi;replace hi:0<=i/\i<=((cs.length:Nat):Int)/\upto (eI cs us) i:=hi;obtain⟨i0,i1,i2⟩:=hi;cbv)|(refine ab (O.ar .add .i64 i 1) ?_ ?_ ?_;focus (cbv;done))|(refine⟨[1,3,4],[1],Int,fun k=>[.reg 4 (.j k)],fun k=>0<=k/\k<=((16:Nat):Int)/\upto (gN cs us i) k,fun k=>(16)-k.toNat,⟨0,?_,?_⟩,?_⟩;rotate_left;(focus (cbv;done));intro k hk;replace hk:0<=k/\k<=((16:Nat):Int)/\upto (gN cs us i) k:=hk;obtain⟨k0,k1,k2⟩:=hk;cbv)|(refine ab (O.ar .add .i64 k 1) ?_ ?_ ?_;focus (cbv;done))
 all_goals exact LA
theorem pQ {es:aa}{n:Int}(hp:Rw [tI,tI] es):ao 204 [.agg [.s 2 es],.j n] [.k (tableOk es n)]:=by
 have hlen:=hp.1;unfold maxLen at hlen;refine cb KA1.B Tryz.func204 ?_
 intro O r F hO hr hF;cbv
 repeat' first|apply And.intro|(apply bi<;>intro hb<;>cbv)|(refine⟨[1,2,8,9,10],[2],Int,fun i=>[.reg 10 (.j i)],fun i=>0<=i/\i<=((es.length:Nat):Int)/\upto (j9 es n) i,fun i=>(es.length)-i.toNat,⟨0,?_,?_⟩,?_⟩;rotate_left;(focus (cbv;done));intro i hi;replace hi:0<=i/\i<=((es.length:Nat):Int)/\upto (j9 es n) i:=hi;obtain⟨i0,i1,i2⟩:=hi;cbv)|(refine ab (O.ar .add .i64 i 1) ?_ ?_ ?_;focus (cbv;done))
 all_goals exact LE
theorem qD {es:aa}{n:Int}(hp:Rw [tI,tI] es):ao 197 [.agg [.s 2 es],.j n] [.k (tableOk es n)]:=by
 have hlen:=hp.1;unfold maxLen at hlen;refine cb KA1.B Tryz.func197 ?_
 intro O r F hO hr hF;cbv
 repeat' first|apply And.intro|(apply bi<;>intro hb<;>cbv)|(refine⟨[1,2,5],[2],Int,fun i=>[.reg 5 (.j i)],fun i=>0<=i/\i<=((es.length:Nat):Int)/\upto (j9 es n) i,fun i=>(es.length)-i.toNat,⟨0,?_,?_⟩,?_⟩;rotate_left;(focus (cbv;done));intro i hi;replace hi:0<=i/\i<=((es.length:Nat):Int)/\upto (j9 es n) i:=hi;obtain⟨i0,i1,i2⟩:=hi;cbv)|(refine ab (O.ar .add .i64 i 1) ?_ ?_ ?_;focus (cbv;done))
 all_goals exact LE
namespace KD4
structure aO where
 framesOk:aa->aa->Bool
 tableOk:aa->Int->Bool
 pagesOn:aa->Int->aa
abbrev F0 :aO:=⟨framesOk,tableOk,pagesOn⟩
def ct (F:aO):CT:=fun f ds=>match f,ds with
 |203,[.agg [.s 1 cs,.s 1 us]]=>some (fun _=>Rw [.sl [tI]] cs/\Rw [tB] us,[.k (F.framesOk cs us)])
 |204,[.agg [.s 2 es],.one (.v (.int .i64 n))]=>some (fun _=>Rw [tI,tI] es,[.k (F.tableOk es n)])
 |205,[.agg [.s 2 es],.one (.v (.int .i64 f))]=>some (fun _=>Rw [tI,tI] es/\es.length<=1099511627776,[.one (.s 1 (F.pagesOn es f))])
 |_,_=>none
theorem aj :aR (ct F0):=by
 intro f ds pre res h hp;unfold ct at h;split at h<;>cases h
 exact nM hp;exact pQ hp;exact iO hp
abbrev B :cD:=tb aj
end KD4
theorem ma {cs us es:aa}(hp:Rw [.sl [tI]] cs/\Rw [tB] us/\Rw [tI,tI] es):ao 150 [.agg [.s 1 cs,.s 1 us,.s 2 es]] [.k (machOk cs us es)]:=by
 obtain⟨hc,hu,ht⟩:=hp;have hm:=hu.1;unfold maxLen at hm;refine cb KD4.B Tryz.func150 ?_
 intro O r F hO hr hF;cbv
 repeat' first|apply And.intro|(apply bi<;>intro hb<;>cbv)|(refine⟨[1,21,22,23],[1],Int,fun i=>[.reg 23 (.j i)],fun i=>0<=i/\i<=((us.length:Nat):Int)/\upto (gY us es) i,fun i=>(us.length)-i.toNat,⟨0,?_,?_⟩,?_⟩;rotate_left;(focus (cbv;done));intro i hi;replace hi:0<=i/\i<=((us.length:Nat):Int)/\upto (gY us es) i:=hi;obtain⟨i0,i1,i2⟩:=hi;cbv)|(refine ab (O.ar .add .i64 i 1) ?_ ?_ ?_;focus (cbv;done))
 all_goals(subst hO hr hF;(try simp only[nc]at*);(try simp only[ai,SS,sa,az]at*);(try simp only[y9]at*);(try rw[cB (by omega) (by omega)]);(try(have hfl:=uz (cs:=cs) (us:=us) (by assumption)));(try(have htl:=vi (es:=es) (n:=(us.length:Int)) (by assumption)));(try(have htl:=vi (es:=es) (n:=(cs.length:Int)) (by assumption))))
 all_goals first|omega|exact eZ|exact aY|exact⟨hc,hu⟩|exact⟨ht,by omega⟩|exact ag (zd (.inl (by assumption))).symm|exact ag (HK (by assumption) (by assumption)).symm|exact ag (B7 i0 (by omega) (by assumption)).symm|exact aP i2 (FO (by assumption))|exact ag (B8 (by assumption) (by assumption) i2 (by omega)).symm|trace_state
namespace KD5
structure aO where
 framesOk:aa->aa->Bool
 tableOk:aa->Int->Bool
 pagesOn:aa->Int->aa
abbrev F0 :aO:=⟨framesOk,tableOk,pagesOn⟩
def ct (F:aO):CT:=fun f ds=>match f,ds with
 |196,[.agg [.s 1 cs,.s 1 us]]=>some (fun _=>Rw [.sl [tI]] cs/\Rw [tB] us,[.k (F.framesOk cs us)])
 |197,[.agg [.s 2 es],.one (.v (.int .i64 n))]=>some (fun _=>Rw [tI,tI] es,[.k (F.tableOk es n)])
 |198,[.agg [.s 2 es],.one (.v (.int .i64 f))]=>some (fun _=>Rw [tI,tI] es/\es.length<=1099511627776,[.one (.s 1 (F.pagesOn es f))])
 |_,_=>none
theorem aj :aR (ct F0):=by
 intro f ds pre res h hp;unfold ct at h;split at h<;>cases h
 exact oM hp;exact qD hp;exact iS hp
abbrev B :cD:=tb aj
end KD5
theorem mr {cs us es:aa}(hp:Rw [.sl [tI]] cs/\Rw [tB] us/\Rw [tI,tI] es):ao 136 [.agg [.s 1 cs,.s 1 us,.s 2 es]] [.k (machOk cs us es)]:=by
 obtain⟨hc,hu,ht⟩:=hp;have hm:=hu.1;unfold maxLen at hm;refine cb KD5.B Tryz.func136 ?_
 intro O r F hO hr hF;cbv
 repeat' first|apply And.intro|(apply bi<;>intro hb<;>cbv)|(refine⟨[1,3],[1],Int,fun i=>[.reg 3 (.j i)],fun i=>0<=i/\i<=((us.length:Nat):Int)/\upto (gY us es) i,fun i=>(us.length)-i.toNat,⟨0,?_,?_⟩,?_⟩;rotate_left;(focus (cbv;done));intro i hi;replace hi:0<=i/\i<=((us.length:Nat):Int)/\upto (gY us es) i:=hi;obtain⟨i0,i1,i2⟩:=hi;cbv)|(refine ab (O.ar .add .i64 i 1) ?_ ?_ ?_;focus (cbv;done))
 all_goals(subst hO hr hF;(try simp only[nc]at*);(try simp only[ai,SS,sa,az]at*);(try simp only[y9]at*);(try rw[cB (by omega) (by omega)]);(try(have hfl:=uz (cs:=cs) (us:=us) (by assumption)));(try(have htl:=vi (es:=es) (n:=(us.length:Int)) (by assumption)));(try(have htl:=vi (es:=es) (n:=(cs.length:Int)) (by assumption))))
 all_goals first|omega|exact eZ|(show bz _ _=true;kernel_rfl)|exact aY|exact⟨hc,hu⟩|exact⟨ht,by omega⟩|exact ag (zd (.inl (by assumption))).symm|exact ag (zd (.inr (by assumption))).symm|exact ag (B7 i0 (by omega) (by assumption)).symm|exact aP i2 (FO (by assumption))|(refine ag (B8 (by assumption) ?_ i2 (by omega)).symm;rw[hfl.1];assumption)|trace_state
end Go.V