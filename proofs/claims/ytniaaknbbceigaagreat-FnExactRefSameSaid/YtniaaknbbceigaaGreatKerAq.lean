/-
  Contracts, by evaluation.
-/
import Derived.Test.YtniaaknbbceigaaGreatS10
import Derived.Test.YtniaaknbbceigaaGreatHA
import Derived.Test.YtniaaknbbceigaaGreatHeapBq
set_option linter.all false
namespace Go.V
open Go Go.Proofs
set_option maxRecDepth 1000000
set_option maxHeartbeats 8000000
namespace KA1
structure Fns where
 inR:Int->Int->Int->Bool
def F0 :Fns:=⟨inR⟩
def ct (F:Fns):CT:=fun f ds=>match f,ds with
 |152,[.one (.v (.int .i64 x)),.one (.v (.int .i64 a)),.one (.v (.int .i64 b))]=>some (fun _=>True,[.one (.v (.bool (F.inR x a b)))])
 |126,[.one (.v (.int .i64 x)),.one (.v (.int .i64 a)),.one (.v (.int .i64 b))]=>some (fun _=>True,[.one (.v (.bool (F.inR x a b)))])
 |_,_=>none
theorem ak :aW Tryz.prog (ct F0):=by
 intro f ds pre res h hp;unfold ct at h;split at h<;>(try split at h)<;>cases h
 exact aN _ _ _ hp;exact aU _ _ _ hp
def B :TB Tryz.prog:=tb ak
end KA1
theorem jh (cs us:List (List L))(hp:Rw [.sl [tI]] cs/\Rw [tB] us):aP Tryz.prog 167 [.agg [.s 1 cs,.s 1 us]] [.one (.v (.bool (framesOk cs us)))]:=by
 obtain⟨hc,hu⟩:=hp;have hcw:=hc.wf;have huw:=hu.wf;have hlen:=hc.1;unfold maxLen at hlen;refine ai KA1.B ag mixed 55 _ [4] [.tmp 2] Tryz.func167 rfl rfl rfl rfl rfl ?_;intro O r (F:KA1.Fns) hO hr (hF:F=KA1.F0);cbv
 repeat' first|refine And.intro ?_ ?_|(refine aG (fun hb=>?_) (fun hb=>?_)<;>cbv)|(refine⟨[1,22,23,24],[1],Int,fun i=>[.reg 24 (.one (.v (.int .i64 i)))],fun i=>0<=i/\i<=((cs.length:Nat):Int)/\upto (eM cs us) i,fun i=>(cs.length)-i.toNat,⟨0,?_,?_⟩,?_⟩;rotate_left;(focus (cbv;done));intro i hi;replace hi:0<=i/\i<=((cs.length:Nat):Int)/\upto (eM cs us) i:=hi;obtain⟨i0,i1,i2⟩:=hi;cbv)|(refine aa (O.ar .add .i64 i 1) ?_ ?_ ?_;rotate_left 2;focus (cbv;done))|(refine⟨[1,3,22,23,24,32,33,34],[1],Int,fun k=>[.reg 34 (.one (.v (.int .i64 k)))],fun k=>0<=k/\k<=(((O.gs cs i 0).length:Nat):Int)/\upto (iG cs us i) k,fun k=>((O.gs cs i 0).length)-k.toNat,⟨0,?_,?_⟩,?_⟩;rotate_left;(focus (cbv;done));intro k hk;replace hk:0<=k/\k<=(((O.gs cs i 0).length:Nat):Int)/\upto (iG cs us i) k:=hk;obtain⟨k0,k1,k2⟩:=hk;cbv)|(refine aa (O.ar .add .i64 k 1) ?_ ?_ ?_;rotate_left 2;focus (cbv;done))
 all_goals(subst hO hr hF;(try simp only[af,SS,sa,az]at*);(try simp only[nc]at*);(try simp only[aF]at*))
 all_goals(try simp only[KA1.F0]at*)
 all_goals try rw[bD (by omega) (by omega)]
 all_goals first|omega|(refine⟨by omega,by omega,(Rw.eta (by first|assumption|exact Rw.sub (by first|assumption|exact Rw.sub (by assumption) (by omega) rfl) (by omega) rfl) (by omega) (by omega)).trans ?_⟩;rfl)|exact aL|contradiction|exact ah (Ef (by assumption)).symm|exact ah (Eg (by omega)).symm|exact ah (Eh i0 (by omega) (by omega)).symm|exact ah (wc i0 (by omega) k0 (by omega) (.inl (by assumption))).symm|exact ah (wc i0 (by omega) k0 (by omega) (.inr ⟨by assumption,by assumption⟩)).symm|exact ah (Ei (by assumption) (by omega) i2 (by omega)).symm|exact ax i2 (Jk (by omega) k2 (by omega))|exact ax k2 (I3 (by assumption) (by first|exact .inl (by assumption)|exact .inr (by assumption)))|trace_state
theorem jm (cs us:List (List L))(hp:Rw [.sl [tI]] cs/\Rw [tB] us):aP Tryz.prog 166 [.agg [.s 1 cs,.s 1 us]] [.one (.v (.bool (framesOk cs us)))]:=by
 obtain⟨hc,hu⟩:=hp;have hlen:=hc.1;unfold maxLen at hlen;refine ai KA1.B ag mixed 61 _ [4] [.tmp 2] Tryz.func166 rfl rfl rfl rfl rfl ?_;intro O r (F:KA1.Fns) hO hr (hF:F=KA1.F0);cbv
 repeat' first|refine And.intro ?_ ?_|(refine aG (fun hb=>?_) (fun hb=>?_)<;>cbv)|(refine⟨[1,3],[1],Int,fun i=>[.reg 3 (.one (.v (.int .i64 i)))],fun i=>0<=i/\i<=((cs.length:Nat):Int)/\upto (eM cs us) i,fun i=>(cs.length)-i.toNat,⟨0,?_,?_⟩,?_⟩;rotate_left;(focus (cbv;done));intro i hi;replace hi:0<=i/\i<=((cs.length:Nat):Int)/\upto (eM cs us) i:=hi;obtain⟨i0,i1,i2⟩:=hi;cbv)|(refine aa (O.ar .add .i64 i 1) ?_ ?_ ?_;rotate_left 2;focus (cbv;done))|(refine⟨[1,3,4],[1],Int,fun k=>[.reg 4 (.one (.v (.int .i64 k)))],fun k=>0<=k/\k<=((16:Nat):Int)/\upto (iG cs us i) k,fun k=>(16)-k.toNat,⟨0,?_,?_⟩,?_⟩;rotate_left;(focus (cbv;done));intro k hk;replace hk:0<=k/\k<=((16:Nat):Int)/\upto (iG cs us i) k:=hk;obtain⟨k0,k1,k2⟩:=hk;cbv)|(refine aa (O.ar .add .i64 k 1) ?_ ?_ ?_;rotate_left 2;focus (cbv;done))
 all_goals(subst hO hr hF;(try simp only[af,SS,sa,az]at*);(try simp only[nc]at*);(try simp only[aF]at*))
 all_goals(try simp only[KA1.F0]at*)
 all_goals try rw[bD (by omega) (by omega)]
 all_goals first|omega|(refine⟨by omega,by omega,(Rw.eta (by first|assumption|exact Rw.sub (by first|assumption|exact Rw.sub (by assumption) (by omega) rfl) (by omega) rfl) (by omega) (by omega)).trans ?_⟩;rfl)|exact aL|contradiction|exact ah (Ef (by assumption)).symm|exact ah (Eg (by omega)).symm|exact ah (Eh i0 (by omega) (by omega)).symm|exact ah (wc i0 (by omega) k0 (by omega) (.inl (by assumption))).symm|exact ah (wc i0 (by omega) k0 (by omega) (.inr ⟨by assumption,by assumption⟩)).symm|exact ah (Ei (by assumption) (by omega) i2 (by omega)).symm|exact ax i2 (Jk (by omega) k2 (by omega))|exact ax k2 (I3 (by assumption) (by first|exact .inl (by assumption)|exact .inr (by assumption)))|trace_state
theorem rr (es:List (List L))(n:Int)(hp:Rw [tI,tI] es):aP Tryz.prog 235 [.agg [.s 2 es],.one (.v (.int .i64 n))] [.one (.v (.bool (tableOk es n)))]:=by
 have hlen:=hp.1;unfold maxLen at hlen;refine ai KA1.B ag mixed 49 _ [4] [.tmp 4] Tryz.func235 rfl rfl rfl rfl rfl ?_;intro O r (F:KA1.Fns) hO hr (hF:F=KA1.F0);cbv
 repeat' first|refine And.intro ?_ ?_|(refine aG (fun hb=>?_) (fun hb=>?_)<;>cbv)|(refine⟨[1,2,8,9,10],[2],Int,fun i=>[.reg 10 (.one (.v (.int .i64 i)))],fun i=>0<=i/\i<=((es.length:Nat):Int)/\upto (jY es n) i,fun i=>(es.length)-i.toNat,⟨0,?_,?_⟩,?_⟩;rotate_left;(focus (cbv;done));intro i hi;replace hi:0<=i/\i<=((es.length:Nat):Int)/\upto (jY es n) i:=hi;obtain⟨i0,i1,i2⟩:=hi;cbv)|(refine aa (O.ar .add .i64 i 1) ?_ ?_ ?_;rotate_left 2;focus (cbv;done))
 all_goals(subst hO hr hF;(try simp only[af,SS,sa,az]at*);(try simp only[nc]at*);(try simp only[aF]at*))
 all_goals(try simp only[KA1.F0]at*)
 all_goals try rw[bD (by omega) (by omega)]
 all_goals first|omega|(refine⟨by omega,by omega,(Rw.eta (by first|assumption|exact Rw.sub (by first|assumption|exact Rw.sub (by assumption) (by omega) rfl) (by omega) rfl) (by omega) (by omega)).trans ?_⟩;rfl)|exact aL|contradiction|exact ah (Gv i2 (by omega)).symm|(simp only[bh,kY]at*;first|exact ah (Kt i0 (by omega) (by omega)).symm|exact ax i2 (Ks (by omega)))|trace_state
theorem sf (es:List (List L))(n:Int)(hp:Rw [tI,tI] es):aP Tryz.prog 233 [.agg [.s 2 es],.one (.v (.int .i64 n))] [.one (.v (.bool (tableOk es n)))]:=by
 have hlen:=hp.1;unfold maxLen at hlen;refine ai KA1.B ag mixed 54 _ [4] [.tmp 4] Tryz.func233 rfl rfl rfl rfl rfl ?_;intro O r (F:KA1.Fns) hO hr (hF:F=KA1.F0);cbv
 repeat' first|refine And.intro ?_ ?_|(refine aG (fun hb=>?_) (fun hb=>?_)<;>cbv)|(refine⟨[1,2,5],[2],Int,fun i=>[.reg 5 (.one (.v (.int .i64 i)))],fun i=>0<=i/\i<=((es.length:Nat):Int)/\upto (jY es n) i,fun i=>(es.length)-i.toNat,⟨0,?_,?_⟩,?_⟩;rotate_left;(focus (cbv;done));intro i hi;replace hi:0<=i/\i<=((es.length:Nat):Int)/\upto (jY es n) i:=hi;obtain⟨i0,i1,i2⟩:=hi;cbv)|(refine aa (O.ar .add .i64 i 1) ?_ ?_ ?_;rotate_left 2;focus (cbv;done))
 all_goals(subst hO hr hF;(try simp only[af,SS,sa,az]at*);(try simp only[nc]at*);(try simp only[aF]at*))
 all_goals(try simp only[KA1.F0]at*)
 all_goals try rw[bD (by omega) (by omega)]
 all_goals first|omega|(refine⟨by omega,by omega,(Rw.eta (by first|assumption|exact Rw.sub (by first|assumption|exact Rw.sub (by assumption) (by omega) rfl) (by omega) rfl) (by omega) (by omega)).trans ?_⟩;rfl)|exact aL|contradiction|exact ah (Gv i2 (by omega)).symm|(simp only[bh,kY]at*;first|exact ah (Kt i0 (by omega) (by omega)).symm|exact ax i2 (Ks (by omega)))|trace_state
namespace KD0
structure Fns where
 no:Unit
def F0 :Fns:=⟨()⟩
def B :TB Tryz.prog:={Φ:=Fns,F0:=F0}
end KD0
theorem pC (es:List (List L))(hp:Rw [tI] es/\es.length<=1099511627776):aP Tryz.prog 178 [.one (.s 1 es)] [.one (.s 1 es)]:=by
 obtain⟨hw,hl⟩:=hp;have hs:=hw.scal rfl;refine ai KD0.B ag mixed 6 _ [31] [.tmp 2] Tryz.func178 rfl rfl rfl rfl rfl ?_;intro O r (F:KD0.Fns) hO hr (hF:F=KD0.F0);cbv
 repeat' first|refine And.intro ?_ ?_|(refine aG (fun hb=>?_) (fun hb=>?_)<;>cbv)
 all_goals(subst hO hr hF;(try simp only[af,SS,sa,az]at*);(try simp only[nc]at*);(try simp only[aF]at*))
 all_goals first|exact hs|trivial|(simp only[List.length_nil];omega)|trace_state
namespace KD4
structure Fns where
 framesOk:List (List L)->List (List L)->Bool
 tableOk:List (List L)->Int->Bool
 pagesOn:List (List L)->Int->List (List L)
def F0 :Fns:=⟨framesOk,tableOk,pagesOn⟩
def ct (F:Fns):CT:=fun f ds=>match f,ds with
 |167,[.agg [.s 1 cs,.s 1 us]]=>some (fun _=>Rw [.sl [tI]] cs/\Rw [tB] us,[.one (.v (.bool (F.framesOk cs us)))])
 |235,[.agg [.s 2 es],.one (.v (.int .i64 n))]=>some (fun _=>Rw [tI,tI] es,[.one (.v (.bool (F.tableOk es n)))])
 |236,[.agg [.s 2 es],.one (.v (.int .i64 f))]=>some (fun _=>Rw [tI,tI] es/\es.length<=1099511627776,[.one (.s 1 (F.pagesOn es f))])
 |_,_=>none
theorem ak :aW Tryz.prog (ct F0):=by
 intro f ds pre res h hp;unfold ct at h;split at h<;>(try split at h)<;>cases h
 exact jh _ _ hp;exact rr _ _ hp;exact jO _ _ hp
def B :TB Tryz.prog:=tb ak
end KD4
theorem ia (cs us es:List (List L))(hp:Rw [.sl [tI]] cs/\Rw [tB] us/\Rw [tI,tI] es):aP Tryz.prog 177 [.agg [.s 1 cs,.s 1 us,.s 2 es]] [.one (.v (.bool (machOk cs us es)))]:=by
 obtain⟨hc,hu,ht⟩:=hp;have hm:=hu.1;unfold maxLen at hm;refine ai KD4.B ag mixed 37 _ [4] [.tmp 2] Tryz.func177 rfl rfl rfl rfl rfl ?_;intro O r (F:KD4.Fns) hO hr (hF:F=KD4.F0);cbv
 repeat' first|refine And.intro ?_ ?_|(refine aG (fun hb=>?_) (fun hb=>?_)<;>cbv)|(refine⟨[1,21,22,23],[1],Int,fun i=>[.reg 23 (.one (.v (.int .i64 i)))],fun i=>0<=i/\i<=((us.length:Nat):Int)/\upto (hD us es) i,fun i=>(us.length)-i.toNat,⟨0,?_,?_⟩,?_⟩;rotate_left;(focus (cbv;done));intro i hi;replace hi:0<=i/\i<=((us.length:Nat):Int)/\upto (hD us es) i:=hi;obtain⟨i0,i1,i2⟩:=hi;cbv)|(refine aa (O.ar .add .i64 i 1) ?_ ?_ ?_;rotate_left 2;focus (cbv;done))
 all_goals(subst hO hr hF;(try simp only[af,SS,sa,az]at*);(try simp only[nc]at*);(try simp only[aF]at*))
 all_goals(try simp only[KD4.F0,Bg]at*)
 all_goals try rw[bD (by omega) (by omega)]
 all_goals try(have hfl:=v9 (cs:=cs) (us:=us) (by assumption))
 all_goals try(have htl:=wT (es:=es) (n:=(us.length:Int)) (by assumption))
 all_goals try(have htl:=wT (es:=es) (n:=(cs.length:Int)) (by assumption))
 all_goals first|omega|(refine⟨by omega,by omega,(Rw.eta (by first|assumption|exact Rw.sub (by first|assumption|exact Rw.sub (by assumption) (by omega) rfl) (by omega) rfl) (by omega) (by omega)).trans ?_⟩;rfl)|exact aL|exact⟨hc,hu⟩|exact⟨ht,by omega⟩|exact ah (Bp (.inl (by assumption))).symm|exact ah (LM (by assumption) (by assumption)).symm|exact ah (E1 i0 (by omega) (by assumption)).symm|exact ax i2 (JH (by assumption))|exact ah (E2 (by assumption) (by assumption) i2 (by omega)).symm|trace_state
namespace KD5
structure Fns where
 framesOk:List (List L)->List (List L)->Bool
 tableOk:List (List L)->Int->Bool
 pagesOn:List (List L)->Int->List (List L)
def F0 :Fns:=⟨framesOk,tableOk,pagesOn⟩
def ct (F:Fns):CT:=fun f ds=>match f,ds with
 |166,[.agg [.s 1 cs,.s 1 us]]=>some (fun _=>Rw [.sl [tI]] cs/\Rw [tB] us,[.one (.v (.bool (F.framesOk cs us)))])
 |233,[.agg [.s 2 es],.one (.v (.int .i64 n))]=>some (fun _=>Rw [tI,tI] es,[.one (.v (.bool (F.tableOk es n)))])
 |234,[.agg [.s 2 es],.one (.v (.int .i64 f))]=>some (fun _=>Rw [tI,tI] es/\es.length<=1099511627776,[.one (.s 1 (F.pagesOn es f))])
 |_,_=>none
theorem ak :aW Tryz.prog (ct F0):=by
 intro f ds pre res h hp;unfold ct at h;split at h<;>(try split at h)<;>cases h
 exact jm _ _ hp;exact sf _ _ hp;exact jS _ _ hp
def B :TB Tryz.prog:=tb ak
end KD5
theorem nS (cs us es:List (List L))(hp:Rw [.sl [tI]] cs/\Rw [tB] us/\Rw [tI,tI] es):aP Tryz.prog 169 [.agg [.s 1 cs,.s 1 us,.s 2 es]] [.one (.v (.bool (machOk cs us es)))]:=by
 obtain⟨hc,hu,ht⟩:=hp;have hm:=hu.1;unfold maxLen at hm;refine ai KD5.B ag mixed 39 _ [4] [.tmp 2] Tryz.func169 rfl rfl rfl rfl rfl ?_;intro O r (F:KD5.Fns) hO hr (hF:F=KD5.F0);cbv
 repeat' first|refine And.intro ?_ ?_|(refine aG (fun hb=>?_) (fun hb=>?_)<;>cbv)|(refine⟨[1,3],[1],Int,fun i=>[.reg 3 (.one (.v (.int .i64 i)))],fun i=>0<=i/\i<=((us.length:Nat):Int)/\upto (hD us es) i,fun i=>(us.length)-i.toNat,⟨0,?_,?_⟩,?_⟩;rotate_left;(focus (cbv;done));intro i hi;replace hi:0<=i/\i<=((us.length:Nat):Int)/\upto (hD us es) i:=hi;obtain⟨i0,i1,i2⟩:=hi;cbv)|(refine aa (O.ar .add .i64 i 1) ?_ ?_ ?_;rotate_left 2;focus (cbv;done))
 all_goals(subst hO hr hF;(try simp only[af,SS,sa,az]at*);(try simp only[nc]at*);(try simp only[aF]at*))
 all_goals(try simp only[KD5.F0,Bg]at*)
 all_goals try rw[bD (by omega) (by omega)]
 all_goals try(have hfl:=v9 (cs:=cs) (us:=us) (by assumption))
 all_goals try(have htl:=wT (es:=es) (n:=(us.length:Int)) (by assumption))
 all_goals try(have htl:=wT (es:=es) (n:=(cs.length:Int)) (by assumption))
 all_goals first|omega|(refine⟨by omega,by omega,(Rw.eta (by first|assumption|exact Rw.sub (by first|assumption|exact Rw.sub (by assumption) (by omega) rfl) (by omega) rfl) (by omega) (by omega)).trans ?_⟩;rfl)|(show aK _ _=true;kernel_rfl)|exact aL|exact⟨hc,hu⟩|exact⟨ht,by omega⟩|exact ah (Bp (.inl (by assumption))).symm|exact ah (Bp (.inr (by assumption))).symm|exact ah (E1 i0 (by omega) (by assumption)).symm|exact ax i2 (JH (by assumption))|(refine ah (E2 (by assumption) ?_ i2 (by omega)).symm;rw[hfl.1];assumption)|trace_state
end Go.V