/- Contracts. -/
import Derived.Test.YtcodmgmliopheaaGreatKerAt
set_option linter.all false
namespace Go.V
open Go Go.Proofs
set_option maxRecDepth 1000000
set_option maxHeartbeats 8000000
namespace N3
structure aQ where
 inR:Int->Int->Int->Bool
 machOk:aa->aa->aa->Bool
abbrev F0 :aQ:=⟨inR,machOk⟩
def ct (F:aQ):CT:=fun f ds=>match f,ds with
 |91,[.one (.v (.int .i64 x)),.one (.v (.int .i64 a)),.one (.v (.int .i64 b))]=>some (fun _=>True,[.k (F.inR x a b)])
 |89,[.one (.v (.int .i64 x)),.one (.v (.int .i64 a)),.one (.v (.int .i64 b))]=>some (fun _=>True,[.k (F.inR x a b)])
 |284,[.agg [.s 1 cs,.s 1 us,.s 2 es]]=>some (fun _=>Rw [.sl [tI]] cs/\Rw [tB] us/\Rw [tI,tI] es,[.k (F.machOk cs us es)])
 |263,[.agg [.s 1 cs,.s 1 us,.s 2 es]]=>some (fun _=>Rw [.sl [tI]] cs/\Rw [tB] us/\Rw [tI,tI] es,[.k (F.machOk cs us es)])
 |_,_=>none
theorem ah :aR (ct F0):=by
 intro f ds pre res h hp;unfold ct at h;split at h<;>cases h
 exact aU hp;exact bc hp;exact oy hp;exact oT hp
abbrev B :cq:=tb ah
end N3
theorem qm {cs us es:aa}{c:Int}{rs:aa}(hp:Rw [.sl [tI]] cs/\Rw [tB] us/\Rw [tI,tI] es/\Rw [tI] rs):ap 166 [.agg [.s 1 cs,.s 1 us,.s 2 es,.i c,.s 1 rs]] [.k (kerOk cs us es c rs)]:=by
 obtain⟨hc,hu,ht,hr⟩:=hp;have hm:=hr.1;unfold maxLen at hm;refine cb N3.B Tryz.func166 ?_
 intro O r F hO hr hF;cbv
 repeat' first|apply And.intro|(apply bi<;>intro hb<;>cbv)|(refine⟨[1,6,7,8],[1],Int,fun i=>[.reg 8 (.j i)],fun i=>0<=i/\i<=((rs.length:Nat):Int)/\upto (Ao rs) i,fun i=>(rs.length)-i.toNat,⟨0,?_,?_⟩,?_⟩;rotate_left;(focus (cbv;done));intro i hi;replace hi:0<=i/\i<=((rs.length:Nat):Int)/\upto (Ao rs) i:=hi;obtain⟨i0,i1,i2⟩:=hi;cbv)|(refine ab (O.ar .add .i64 i 1) ?_ ?_ ?_;focus (cbv;done))
 all_goals(subst hO hr hF;(try simp only[nc]at*);(try simp only[ai,SS,sa,az]at*);(try rw[cp (by omega) (by omega)]))
 all_goals first
  | (show(_:List DV)=_
     first
      |exact aj (Hf i0 (by assumption) (by assumption)).symm
      |exact aj (CM (by assumption)).symm
      |exact aj (IV (Jg (by omega))).symm
      |(refine aj ?_;unfold kerOk;rw[show inR c 0 100000=true from by assumption,Jh i2 (by omega) (by omega)];simp)
      |done)
  |omega
  |exact eQ
  |exact bj
  |exact aW i2 (He (by omega))
  |exact⟨hc,hu,ht⟩
  |trace_state
theorem ry {cs us es:aa}{c:Int}{rs:aa}(hp:Rw [.sl [tI]] cs/\Rw [tB] us/\Rw [tI,tI] es/\Rw [tI] rs):ap 134 [.agg [.s 1 cs,.s 1 us,.s 2 es,.i c,.s 1 rs]] [.k (kerOk cs us es c rs)]:=by
 obtain⟨hc,hu,ht,hr⟩:=hp;have hm:=hr.1;unfold maxLen at hm;refine cb N3.B Tryz.func134 ?_
 intro O r F hO hr hF;cbv
 repeat' first|apply And.intro|(apply bi<;>intro hb<;>cbv)|(refine⟨[1,3],[1],Int,fun i=>[.reg 3 (.j i)],fun i=>0<=i/\i<=((rs.length:Nat):Int)/\upto (Ao rs) i,fun i=>(rs.length)-i.toNat,⟨0,?_,?_⟩,?_⟩;rotate_left;(focus (cbv;done));intro i hi;replace hi:0<=i/\i<=((rs.length:Nat):Int)/\upto (Ao rs) i:=hi;obtain⟨i0,i1,i2⟩:=hi;cbv)|(refine ab (O.ar .add .i64 i 1) ?_ ?_ ?_;focus (cbv;done))
 all_goals(subst hO hr hF;(try simp only[nc]at*);(try simp only[ai,SS,sa,az]at*);(try rw[cp (by omega) (by omega)]))
 all_goals first
  | (show(_:List DV)=_
     first
      |exact aj (Hf i0 (by assumption) (by assumption)).symm
      |exact aj (IU (by assumption)).symm
      |exact aj (CM (by assumption)).symm
      |(refine aj ?_;unfold kerOk qe;rw[show machOk cs us es=true from by assumption,show inR c 0 100000=true from by assumption,bp i2 (by omega)];refine eh ?_;simp only[SS,Bool.true_and,decide_eq_true_eq];omega)
      |done)
  |omega
  |exact eQ
  |exact bj
  |exact aW i2 (He (by omega))
  |exact⟨hc,hu,ht⟩
  |trace_state
end Go.V