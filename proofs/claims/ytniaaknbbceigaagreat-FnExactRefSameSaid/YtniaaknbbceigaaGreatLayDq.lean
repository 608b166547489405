/-
  Contracts, by evaluation.
-/
import Derived.Test.YtniaaknbbceigaaGreatS10
import Derived.Test.YtniaaknbbceigaaGreatHA
import Derived.Test.YtniaaknbbceigaaGreatLayCq
set_option linter.all false
namespace Go.V
open Go Go.Proofs
set_option maxRecDepth 1000000
set_option maxHeartbeats 8000000
namespace Ld1
structure Fns where
 saS:Int->Int->Int->Int->Int
 saO:Int->Int->Int->Int->Int
 hsB:Int->Int->Bool
 lhB:Int->Int->Int->Int->Bool
 loI:Int->Int->Int->Int->Int
 layOk:List (List L)->List (List L)->Bool
def F0 :Fns:=⟨saS,saO,hsB,lhB,loI,layOk⟩
def ct (F:Fns):CT:=fun f ds=>match f,ds with
 |188,[.agg [.v (.int .i64 p),.v (.int .i64 k),.v (.int .i64 b)],.one (.v (.int .i64 a))]=>some (fun _=>True,[.one (.v (.int .i64 (F.saS p k b a))),.one (.v (.int .i64 (F.saO p k b a)))])
 |189,[.one (.v (.int .i64 b)),.one (.v (.int .i64 i))]=>some (fun _=>True,[.one (.v (.bool (F.hsB b i)))])
 |182,[.agg [.v (.int .i64 p),.v (.int .i64 n),.v (.int .i64 s)],.one (.v (.int .i64 a))]=>some (fun _=>True,[.one (.v (.bool (F.lhB p n s a)))])
 |190,[.agg [.v (.int .i64 p),.v (.int .i64 n),.v (.int .i64 s)],.one (.v (.int .i64 a))]=>some (fun _=>True,[.one (.v (.int .i64 (F.loI p n s a)))])
 |120,[.one (.s 3 sp),.one (.s 3 lg)]=>some (fun _=>Rw [tI,tI,tI] sp/\Rw [tI,tI,tI] lg/\sp.length<=1073741824/\lg.length<=1073741824,[.one (.v (.bool (F.layOk sp lg)))])
 |173,[.agg [.v (.int .i64 p),.v (.int .i64 k),.v (.int .i64 b)],.one (.v (.int .i64 a))]=>some (fun _=>(-9223372036854775808<=a/\a<=9223372036854775807),[.one (.v (.int .i64 (F.saS p k b a))),.one (.v (.int .i64 (F.saO p k b a)))])
 |75,[.one (.v (.int .i64 b)),.one (.v (.int .i64 i))]=>some (fun _=>True,[.one (.v (.bool (F.hsB b i)))])
 |174,[.agg [.v (.int .i64 p),.v (.int .i64 n),.v (.int .i64 s)],.one (.v (.int .i64 a))]=>some (fun _=>True,[.one (.v (.bool (F.lhB p n s a)))])
 |175,[.agg [.v (.int .i64 p),.v (.int .i64 n),.v (.int .i64 s)],.one (.v (.int .i64 a))]=>some (fun _=>True,[.one (.v (.int .i64 (F.loI p n s a)))])
 |_,_=>none
theorem ak :aW Tryz.prog (ct F0):=by
 intro f ds pre res h hp;unfold ct at h;split at h<;>(try split at h)<;>cases h
 exact t8 _ _ _ _ hp;exact gg _ _ hp;exact fM _ _ _ _ hp;exact li _ _ _ _ hp;exact ed _ _ hp;exact uD _ _ _ _ hp;exact gr _ _ hp;exact jo _ _ _ _ hp;exact lr _ _ _ _ hp
def B :TB Tryz.prog:=tb ak
end Ld1
theorem gj (sp lg:List (List L))(a:Int)(hp:Rw [tI,tI,tI] sp/\Rw [tI,tI,tI] lg):aP Tryz.prog 98 [.one (.s 3 sp),.one (.s 3 lg),.one (.v (.int .i64 a))] [.agg [.v (.int .i64 (dnK sp lg a)),.v (.int .i64 (dnI sp lg a)),.v (.int .i64 (dnS sp a)),.v (.int .i64 (dnO sp lg a))]]:=by
 obtain⟨hs,hl⟩:=hp;have ms:=hs.1;unfold maxLen at ms;have ml:=hl.1;unfold maxLen at ml;refine ai Ld1.B ag mixed 56 _ [145] [.cell 6 145] Tryz.func98 rfl rfl rfl rfl rfl ?_;intro O r (F:Ld1.Fns) hO hr (hF:F=Ld1.F0);cbv
 repeat' first|refine And.intro ?_ ?_|(refine aG (fun hb=>?_) (fun hb=>?_)<;>cbv)|(refine⟨[1,2,6,14,15,16],[6],Int,fun i=>[.reg 16 (.one (.v (.int .i64 i)))],fun i=>0<=i/\i<=((sp.length:Nat):Int)/\upto (bV (tX sp a)) i,fun i=>(sp.length)-i.toNat,⟨0,?_,?_⟩,?_⟩;rotate_left;(focus (cbv;done));intro i hi;replace hi:0<=i/\i<=((sp.length:Nat):Int)/\upto (bV (tX sp a)) i:=hi;obtain⟨i0,i1,i2⟩:=hi;cbv)|(refine aa (O.ar .add .i64 i 1) ?_ ?_ ?_;rotate_left 2;focus (cbv;done))|(refine⟨[2,6,39,40,41],[6],Int,fun j=>[.reg 41 (.one (.v (.int .i64 j)))],fun j=>0<=j/\j<=((lg.length:Nat):Int)/\upto (bV (uL lg a)) j,fun j=>(lg.length)-j.toNat,⟨0,?_,?_⟩,?_⟩;rotate_left;(focus (cbv;done));intro j hj;replace hj:0<=j/\j<=((lg.length:Nat):Int)/\upto (bV (uL lg a)) j:=hj;obtain⟨j0,j1,j2⟩:=hj;cbv)|(refine aa (O.ar .add .i64 j 1) ?_ ?_ ?_;rotate_left 2;focus (cbv;done))
 all_goals(subst hO hr hF;(try simp only[af,SS,sa,az]at*);(try simp only[nc]at*);(try simp only[aF]at*))
 all_goals(try simp only[Ld1.F0]at*)
 all_goals try rw[bD (by omega) (by omega)]
 all_goals first
  | (show(_:List DV)=_
     first
      |exact Rz i2 i0 (by assumption) (by assumption) (by assumption)
      |exact RA i2 i0 (by assumption) (by assumption) (by assumption)
      |exact RB i2 (by assumption) j2 j0 (by assumption) (by assumption)
      |exact RD i2 (by assumption) j2 (by assumption)
      |done)
  |omega
  |(refine⟨by omega,by omega,(Rw.eta (by first|assumption|exact Rw.sub (by first|assumption|exact Rw.sub (by assumption) (by omega) rfl) (by omega) rfl) (by omega) (by omega)).trans ?_⟩;rfl)
  |exact PN i2 (by assumption)
  |exact N1 j2 (by assumption)
  |exact aL
  |done
theorem eI (sp lg:List (List L))(a:Int)(hp:Rw [tI,tI,tI] sp/\Rw [tI,tI,tI] lg/\sp.length<=1073741824/\lg.length<=1073741824/\ -9223372036854775808<=a/\a<=9223372036854775807):aP Tryz.prog 77 [.one (.s 3 sp),.one (.s 3 lg),.one (.v (.int .i64 a))] [.agg [.v (.int .i64 (dzK sp lg a)),.v (.int .i64 (dzI sp lg a)),.v (.int .i64 (dzS sp lg a)),.v (.int .i64 (dzO sp lg a))]]:=by
 obtain⟨hs,hl,ns,nl,a0,a1⟩:=hp;refine ai Ld1.B ag mixed 67 _ [145] [.cell 6 145] Tryz.func77 rfl rfl rfl rfl rfl ?_;intro O r (F:Ld1.Fns) hO hr (hF:F=Ld1.F0);cbv
 repeat' first|refine And.intro ?_ ?_|(refine aG (fun hb=>?_) (fun hb=>?_)<;>cbv)|(refine⟨[0,1,2,6,7],[6],Int,fun i=>[.reg 7 (.one (.v (.int .i64 i)))],fun i=>0<=i/\i<=((sp.length:Nat):Int)/\upto (bV (tX sp a)) i,fun i=>(sp.length)-i.toNat,⟨0,?_,?_⟩,?_⟩;rotate_left;(focus (cbv;done));intro i hi;replace hi:0<=i/\i<=((sp.length:Nat):Int)/\upto (bV (tX sp a)) i:=hi;obtain⟨i0,i1,i2⟩:=hi;cbv)|(refine aa (O.ar .add .i64 i 1) ?_ ?_ ?_;rotate_left 2;focus (cbv;done))|(refine⟨[1,2,6,11],[6],Int,fun j=>[.reg 11 (.one (.v (.int .i64 j)))],fun j=>0<=j/\j<=((lg.length:Nat):Int)/\upto (bV (uL lg a)) j,fun j=>(lg.length)-j.toNat,⟨0,?_,?_⟩,?_⟩;rotate_left;(focus (cbv;done));intro j hj;replace hj:0<=j/\j<=((lg.length:Nat):Int)/\upto (bV (uL lg a)) j:=hj;obtain⟨j0,j1,j2⟩:=hj;cbv)|(refine aa (O.ar .add .i64 j 1) ?_ ?_ ?_;rotate_left 2;focus (cbv;done))
 all_goals(subst hO hr hF;(try simp only[af,SS,sa,az]at*);(try simp only[nc]at*);(try simp only[aF]at*))
 all_goals(try simp only[Ld1.F0]at*)
 all_goals try rw[bD (by omega) (by omega)]
 all_goals first
  | (show(_:List DV)=_
     first
      |exact Eq.trans (Rz i2 i0 (by assumption) (by assumption) (by assumption)) (Hm (by assumption))
      |exact Eq.trans (RA i2 i0 (by assumption) (by assumption) (by assumption)) (Hm (by assumption))
      |exact Eq.trans (RB i2 (by assumption) j2 j0 (by assumption) (by assumption)) (Hm (by assumption))
      |exact Eq.trans (RD i2 (by assumption) j2 (by assumption)) (Hm (by assumption))
      |exact Qk (by assumption)
      |done)
  |omega
  |(refine⟨by omega,by omega,(Rw.eta (by first|assumption|exact Rw.sub (by first|assumption|exact Rw.sub (by assumption) (by omega) rfl) (by omega) rfl) (by omega) (by omega)).trans ?_⟩;rfl)
  |exact PN i2 (by assumption)
  |exact N1 j2 (by assumption)
  |exact aL
  |exact⟨hs,hl,ns,nl⟩
  |done
end Go.V