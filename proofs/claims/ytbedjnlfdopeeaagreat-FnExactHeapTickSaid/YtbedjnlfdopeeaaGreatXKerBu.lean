/- Contracts. -/
import Derived.Test.YtbedjnlfdopeeaaGreatXKerAu
set_option linter.all false
open Go
open And renaming intro->Zb
open IntKind renaming i64->Za
namespace Go.V
open Go Go.Proofs
set_option maxRecDepth 1000000
set_option maxHeartbeats 8000000
namespace N3
structure aP where
 inR:Int->Int->Int->Bool
 machOk:aa->aa->aa->Bool
abbrev F0:aP:=⟨inR,machOk⟩
def ct (F:aP):CT:=fun f ds=>match f,ds with
 |41,[.one (.v (.int Za x)),.one (.v (.int Za a)),.one (.v (.int Za b))]=>some (fun _=>True,[.k (F.inR x a b)])
 |28,[.one (.v (.int Za x)),.one (.v (.int Za a)),.one (.v (.int Za b))]=>some (fun _=>True,[.k (F.inR x a b)])
 |224,[.agg [.s 1 cs,.s 1 us,.s 2 es]]=>some (fun _=>Rw [.sl [tI]] cs/\Rw [tB] us/\Rw [tI,tI] es,[.k (F.machOk cs us es)])
 |257,[.agg [.s 1 cs,.s 1 us,.s 2 es]]=>some (fun _=>Rw [.sl [tI]] cs/\Rw [tB] us/\Rw [tI,tI] es,[.k (F.machOk cs us es)])
 |_,_=>none
theorem aj:aT (ct F0):=by
 intro f ds pre res h hp;unfold ct at h;split at h<;>cases h
 exact bc hp;exact be hp;exact ox hp;exact oP hp
abbrev B:cF:=tb aj
end N3
theorem jD {cs us es:aa}{c:Int}{rs:aa}(hp:Rw [.sl [tI]] cs/\Rw [tB] us/\Rw [tI,tI] es/\Rw [tI] rs):ap 124 [.agg [.s 1 cs,.s 1 us,.s 2 es,.i c,.s 1 rs]] [.k (kerOk cs us es c rs)]:=by
 obtain⟨hc,hu,ht,hr⟩:=hp;have hm:=hr.1;unfold maxLen at hm;refine cb N3.B Tryz.func124 ?_
 intro O r F hO hr hF;cbv
 repeat' first|apply Zb|(apply bu<;>intro hb<;>cbv)|(refine⟨[1,6,7,8],[1],Int,fun i=>[.reg 8 (.j i)],fun i=>0<=i/\i<=((rs.length:Nat):Int)/\upto (Ay rs) i,fun i=>(rs.length)-i.toNat,⟨0,?_,?_⟩,?_⟩;rotate_left;(focus (cbv;done));intro i hi;replace hi:0<=i/\i<=((rs.length:Nat):Int)/\upto (Ay rs) i:=hi;obtain⟨i0,i1,i2⟩:=hi;cbv)|(refine ab (O.ar .add Za i 1) ?_ ?_ ?_;focus (cbv;done))
 all_goals(subst hO hr hF;(try simp only[nc]at*);(try simp only[ak,SS,sa,az]at*);(try rw[cy (by omega) (by omega)]))
 all_goals first
  | (show(_:List DV)=_
     first
      |exact ai (G3 i0 (by assumption) (by assumption)).symm
      |exact ai (CZ (by assumption)).symm
      |exact ai (IG (I8 (by omega))).symm
      |(refine ai ?_;unfold kerOk;rw[show inR c 0 100000=true from by assumption,I9 i2 (by omega) (by omega)];simp)
      |done)
  |omega
  |exact eF
  |exact bC
  |exact aW i2 (G0 (by omega))
  |exact⟨hc,hu,ht⟩
  |trace_state
theorem jJ {cs us es:aa}{c:Int}{rs:aa}(hp:Rw [.sl [tI]] cs/\Rw [tB] us/\Rw [tI,tI] es/\Rw [tI] rs):ap 164 [.agg [.s 1 cs,.s 1 us,.s 2 es,.i c,.s 1 rs]] [.k (kerOk cs us es c rs)]:=by
 obtain⟨hc,hu,ht,hr⟩:=hp;have hm:=hr.1;unfold maxLen at hm;refine cb N3.B Tryz.func164 ?_
 intro O r F hO hr hF;cbv
 repeat' first|apply Zb|(apply bu<;>intro hb<;>cbv)|(refine⟨[1,3],[1],Int,fun i=>[.reg 3 (.j i)],fun i=>0<=i/\i<=((rs.length:Nat):Int)/\upto (Ay rs) i,fun i=>(rs.length)-i.toNat,⟨0,?_,?_⟩,?_⟩;rotate_left;(focus (cbv;done));intro i hi;replace hi:0<=i/\i<=((rs.length:Nat):Int)/\upto (Ay rs) i:=hi;obtain⟨i0,i1,i2⟩:=hi;cbv)|(refine ab (O.ar .add Za i 1) ?_ ?_ ?_;focus (cbv;done))
 all_goals(subst hO hr hF;(try simp only[nc]at*);(try simp only[ak,SS,sa,az]at*);(try rw[cy (by omega) (by omega)]))
 all_goals first
  | (show(_:List DV)=_
     first
      |exact ai (G3 i0 (by assumption) (by assumption)).symm
      |exact ai (IF (by assumption)).symm
      |exact ai (CZ (by assumption)).symm
      |(refine ai ?_;unfold kerOk kE;rw[show machOk cs us es=true from by assumption,show inR c 0 100000=true from by assumption,bD i2 (by omega)];refine er ?_;simp only[SS,Bool.true_and,aa2];omega)
      |done)
  |omega
  |exact eF
  |exact bC
  |exact aW i2 (G0 (by omega))
  |exact⟨hc,hu,ht⟩
  |trace_state
end Go.V