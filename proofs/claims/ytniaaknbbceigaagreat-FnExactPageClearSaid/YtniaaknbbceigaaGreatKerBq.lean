/-
  Contracts, by evaluation.
-/
import Derived.Test.YtniaaknbbceigaaGreatS10
import Derived.Test.YtniaaknbbceigaaGreatHA
import Derived.Test.YtniaaknbbceigaaGreatKerAq
set_option linter.all false
namespace Go.V
open Go Go.Proofs
set_option maxRecDepth 1000000
set_option maxHeartbeats 8000000
namespace N3
structure Fns where
 inR:Int->Int->Int->Bool
 machOk:List (List L)->List (List L)->List (List L)->Bool
def F0 :Fns:=⟨inR,machOk⟩
def ct (F:Fns):CT:=fun f ds=>match f,ds with
 |152,[.one (.v (.int .i64 x)),.one (.v (.int .i64 a)),.one (.v (.int .i64 b))]=>some (fun _=>True,[.one (.v (.bool (F.inR x a b)))])
 |126,[.one (.v (.int .i64 x)),.one (.v (.int .i64 a)),.one (.v (.int .i64 b))]=>some (fun _=>True,[.one (.v (.bool (F.inR x a b)))])
 |177,[.agg [.s 1 cs,.s 1 us,.s 2 es]]=>some (fun _=>Rw [.sl [tI]] cs/\Rw [tB] us/\Rw [tI,tI] es,[.one (.v (.bool (F.machOk cs us es)))])
 |169,[.agg [.s 1 cs,.s 1 us,.s 2 es]]=>some (fun _=>Rw [.sl [tI]] cs/\Rw [tB] us/\Rw [tI,tI] es,[.one (.v (.bool (F.machOk cs us es)))])
 |_,_=>none
theorem ak :aW Tryz.prog (ct F0):=by
 intro f ds pre res h hp;unfold ct at h;split at h<;>(try split at h)<;>cases h
 exact aN _ _ _ hp;exact aU _ _ _ hp;exact ia _ _ _ hp;exact nS _ _ _ hp
def B :TB Tryz.prog:=tb ak
end N3
theorem pp (cs us es:List (List L))(c:Int)(rs:List (List L))(hp:Rw [.sl [tI]] cs/\Rw [tB] us/\Rw [tI,tI] es/\Rw [tI] rs):aP Tryz.prog 142 [.agg [.s 1 cs,.s 1 us,.s 2 es,.v (.int .i64 c),.s 1 rs]] [.one (.v (.bool (kerOk cs us es c rs)))]:=by
 obtain⟨hc,hu,ht,hr⟩:=hp;have hm:=hr.1;unfold maxLen at hm;refine ai N3.B ag mixed 29 _ [4] [.tmp 2] Tryz.func142 rfl rfl rfl rfl rfl ?_;intro O r (F:N3.Fns) hO hr (hF:F=N3.F0);cbv
 repeat' first|refine And.intro ?_ ?_|(refine aG (fun hb=>?_) (fun hb=>?_)<;>cbv)|(refine⟨[1,6,7,8],[1],Int,fun i=>[.reg 8 (.one (.v (.int .i64 i)))],fun i=>0<=i/\i<=((rs.length:Nat):Int)/\upto (yg rs) i,fun i=>(rs.length)-i.toNat,⟨0,?_,?_⟩,?_⟩;rotate_left;(focus (cbv;done));intro i hi;replace hi:0<=i/\i<=((rs.length:Nat):Int)/\upto (yg rs) i:=hi;obtain⟨i0,i1,i2⟩:=hi;cbv)|(refine aa (O.ar .add .i64 i 1) ?_ ?_ ?_;rotate_left 2;focus (cbv;done))
 all_goals(subst hO hr hF;(try simp only[af,SS,sa,az]at*);(try simp only[nc]at*);(try simp only[aF]at*))
 all_goals(try simp only[N3.F0]at*)
 all_goals try rw[bD (by omega) (by omega)]
 all_goals first
  | (show(_:List DV)=_
     first
      |exact ah (F2 i0 (by assumption) (by assumption)).symm
      |exact ah (A9 (by assumption)).symm
      |exact ah (HF (H7 (by omega))).symm
      |(refine ah ?_;unfold kerOk;rw[show inR c 0 100000=true from by assumption,H8 i2 (by omega) (by omega)];simp)
      |done)
  |omega
  |(refine⟨by omega,by omega,(Rw.eta (by first|assumption|exact Rw.sub (by first|assumption|exact Rw.sub (by assumption) (by omega) rfl) (by omega) rfl) (by omega) (by omega)).trans ?_⟩;rfl)
  |exact aL
  |exact ax i2 (F1 (by omega))
  |exact⟨hc,hu,ht⟩
  |trace_state
theorem qp (cs us es:List (List L))(c:Int)(rs:List (List L))(hp:Rw [.sl [tI]] cs/\Rw [tB] us/\Rw [tI,tI] es/\Rw [tI] rs):aP Tryz.prog 118 [.agg [.s 1 cs,.s 1 us,.s 2 es,.v (.int .i64 c),.s 1 rs]] [.one (.v (.bool (kerOk cs us es c rs)))]:=by
 obtain⟨hc,hu,ht,hr⟩:=hp;have hm:=hr.1;unfold maxLen at hm;refine ai N3.B ag mixed 31 _ [4] [.tmp 2] Tryz.func118 rfl rfl rfl rfl rfl ?_;intro O r (F:N3.Fns) hO hr (hF:F=N3.F0);cbv
 repeat' first|refine And.intro ?_ ?_|(refine aG (fun hb=>?_) (fun hb=>?_)<;>cbv)|(refine⟨[1,3],[1],Int,fun i=>[.reg 3 (.one (.v (.int .i64 i)))],fun i=>0<=i/\i<=((rs.length:Nat):Int)/\upto (yg rs) i,fun i=>(rs.length)-i.toNat,⟨0,?_,?_⟩,?_⟩;rotate_left;(focus (cbv;done));intro i hi;replace hi:0<=i/\i<=((rs.length:Nat):Int)/\upto (yg rs) i:=hi;obtain⟨i0,i1,i2⟩:=hi;cbv)|(refine aa (O.ar .add .i64 i 1) ?_ ?_ ?_;rotate_left 2;focus (cbv;done))
 all_goals(subst hO hr hF;(try simp only[af,SS,sa,az]at*);(try simp only[nc]at*);(try simp only[aF]at*))
 all_goals(try simp only[N3.F0]at*)
 all_goals try rw[bD (by omega) (by omega)]
 all_goals first
  | (show(_:List DV)=_
     first
      |exact ah (F2 i0 (by assumption) (by assumption)).symm
      |exact ah (HE (by assumption)).symm
      |exact ah (A9 (by assumption)).symm
      |(refine ah ?_;unfold kerOk pd;rw[show machOk cs us es=true from by assumption,show inR c 0 100000=true from by assumption,aT i2 (by omega)];refine dJ ?_;simp only[SS,Bool.true_and,decide_eq_true_eq];omega)
      |done)
  |omega
  |(refine⟨by omega,by omega,(Rw.eta (by first|assumption|exact Rw.sub (by first|assumption|exact Rw.sub (by assumption) (by omega) rfl) (by omega) rfl) (by omega) (by omega)).trans ?_⟩;rfl)
  |exact aL
  |exact ax i2 (F1 (by omega))
  |exact⟨hc,hu,ht⟩
  |trace_state
end Go.V