/-
  Contracts, by evaluation.
-/
import Derived.Test.YtniaaknbbceigaaGreatS10
import Derived.Test.YtniaaknbbceigaaGreatHB
import Derived.Test.YtniaaknbbceigaaGreatLayFq
set_option linter.all false
namespace Go.V
open Go Go.Proofs
set_option maxRecDepth 1000000
set_option maxHeartbeats 8000000
namespace Lg0
structure Fns where
 no:Unit
def F0 :Fns:=⟨()⟩
def B :TB Tryz.prog:={Φ:=Fns,F0:=F0}
end Lg0
theorem l6 (d0 d1 d2 ad:Int)(hp:True):aP Tryz.prog 267 [.agg [.v (.int .i64 d0),.v (.int .i64 d1),.v (.int .i64 d2)],.ptr [.v (.int .i64 ad)]] [.one (.v (.bool (eqB d0 ad)))]:=by
 refine ai Lg0.B ag mixed 8 _ [4] [.tmp 3] Tryz.func267 rfl rfl rfl rfl rfl ?_;intro O r (F:Lg0.Fns) hO hr (hF:F=Lg0.F0);cbv
 repeat' first|refine And.intro ?_ ?_|(refine aG (fun hb=>?_) (fun hb=>?_)<;>cbv)
 all_goals(subst hO hr hF;(try simp only[af,SS,sa,az]at*);(try simp only[nc]at*);(try simp only[aF]at*))
 all_goals first
  | (show(_:List DV)=_
     first
      |exact ah (dJ (by unfold eqB;simp only[SS,decide_eq_true_eq]))
      |done)
  |done
namespace Lg1
structure Fns where
 eqB:Int->Int->Bool
def F0 :Fns:=⟨eqB⟩
def ct (F:Fns):CT:=fun f ds=>match f,ds with
 |267,[.agg [.v (.int .i64 d0),.v (.int .i64 d1),.v (.int .i64 d2)],.ptr [.v (.int .i64 ad)]]=>some (fun _=>True,[.one (.v (.bool (F.eqB d0 ad)))])
 |_,_=>none
theorem ak :aW Tryz.prog (ct F0):=by
 intro f ds pre res h hp;unfold ct at h;split at h<;>(try split at h)<;>cases h
 exact l6 _ _ _ _ hp
def B :TB Tryz.prog:=tb ak
end Lg1
theorem bG (os:List (List L))(id:Int)(hp:Rw [tI,tI,tI] os/\os.length<=1099511627776):aP Tryz.prog 271 [.one (.s 3 os),.fn 267 [[.v (.int .i64 id)]]] [.one (.v (.int .i64 (qtI os id)))]:=by
 obtain⟨hw,hn⟩:=hp;refine ai Lg1.B ag mixed 19 _ [3] [.tmp 4] Tryz.func271 rfl rfl rfl rfl rfl ?_;intro O r (F:Lg1.Fns) hO hr (hF:F=Lg1.F0);cbv
 repeat' first|refine And.intro ?_ ?_|(refine aG (fun hb=>?_) (fun hb=>?_)<;>cbv)|(refine⟨[0,1,7,8],[0],Int,fun i=>[.reg 8 (.one (.v (.int .i64 i)))],fun i=>0<=i/\i<=((os.length:Nat):Int)/\upto (bV (uK os id)) i,fun i=>(os.length)-i.toNat,⟨0,?_,?_⟩,?_⟩;rotate_left;(focus (cbv;done));intro i hi;replace hi:0<=i/\i<=((os.length:Nat):Int)/\upto (bV (uK os id)) i:=hi;obtain⟨i0,i1,i2⟩:=hi;cbv)|(refine aa (O.ar .add .i64 i 1) ?_ ?_ ?_;rotate_left 2;focus (cbv;done))
 all_goals(subst hO hr hF;(try simp only[af,SS,sa,az]at*);(try simp only[nc]at*);(try simp only[aF]at*))
 all_goals(try simp only[Lg1.F0]at*)
 all_goals try rw[bD (by omega) (by omega)]
 all_goals first
  | (show(_:List DV)=_
     first
      |exact bj (dm i2 i0 (by assumption) (show uK os id i=true from by assumption)).symm
      |exact bj (dn i2 (by assumption)).symm
      |done)
  |omega
  |(refine⟨by omega,by omega,(Rw.eta (by first|assumption|exact Rw.sub (by first|assumption|exact Rw.sub (by assumption) (by omega) rfl) (by omega) rfl) (by omega) (by omega)).trans ?_⟩;rfl)
  |(show(lk _ _).isSome=true;kernel_rfl)
  |exact aL
  |exact ax i2 (hH (show uK os id i=false from by assumption))
  |done
namespace Lg2
structure Fns where
 qtI:List (List L)->Int->Int
def F0 :Fns:=⟨qtI⟩
def ct (F:Fns):CT:=fun f ds=>match f,ds with
 |271,[.one (.s 3 os),.fn 267 [[.v (.int .i64 id)]]]=>some (fun _=>Rw [tI,tI,tI] os/\os.length<=1099511627776,[.one (.v (.int .i64 (F.qtI os id)))])
 |_,_=>none
theorem ak :aW Tryz.prog (ct F0):=by
 intro f ds pre res h hp;unfold ct at h;split at h<;>(try split at h)<;>cases h
 exact bG _ _ hp
def B :TB Tryz.prog:=tb ak
end Lg2
theorem bA (os:List (List L))(id:Int)(hp:Rw [tI,tI,tI] os/\os.length<=1099511627776):aP Tryz.prog 266 [.one (.s 3 os),.fn 267 [[.v (.int .i64 id)]]] [.one (.v (.bool (qtB os id)))]:=by
 refine ai Lg2.B ag mixed 9 _ [4] [.tmp 4] Tryz.func266 rfl rfl rfl rfl rfl ?_;intro O r (F:Lg2.Fns) hO hr (hF:F=Lg2.F0);cbv
 repeat' first|refine And.intro ?_ ?_|(refine aG (fun hb=>?_) (fun hb=>?_)<;>cbv)
 all_goals(subst hO hr hF;(try simp only[af,SS,sa,az]at*);(try simp only[nc]at*);(try simp only[aF]at*))
 all_goals(try simp only[Lg2.F0]at*)
 all_goals first
  | (show(_:List DV)=_
     first
      |exact ah (dJ (by unfold qtB;simp only[SS,decide_eq_true_eq]))
      |done)
  |exact hp
  |done
namespace Lg3
structure Fns where
 qtB:List (List L)->Int->Bool
def F0 :Fns:=⟨qtB⟩
def ct (F:Fns):CT:=fun f ds=>match f,ds with
 |266,[.one (.s 3 os),.fn 267 [[.v (.int .i64 id)]]]=>some (fun _=>Rw [tI,tI,tI] os/\os.length<=1099511627776,[.one (.v (.bool (F.qtB os id)))])
 |_,_=>none
theorem ak :aW Tryz.prog (ct F0):=by
 intro f ds pre res h hp;unfold ct at h;split at h<;>(try split at h)<;>cases h
 exact bA _ _ hp
def B :TB Tryz.prog:=tb ak
end Lg3
theorem jk (os:List (List L))(id:Int)(hp:Rw [tI,tI,tI] os/\os.length<=1099511627776):aP Tryz.prog 255 [.one (.s 3 os),.one (.v (.int .i64 id))] [.one (.v (.bool (qtB os id)))]:=by
 refine ai Lg3.B ag mixed 8 _ [4] [.tmp 4] Tryz.func255 rfl rfl rfl rfl rfl ?_;intro O r (F:Lg3.Fns) hO hr (hF:F=Lg3.F0);cbv
 repeat' first|refine And.intro ?_ ?_|(refine aG (fun hb=>?_) (fun hb=>?_)<;>cbv)
 all_goals(subst hO hr hF;(try simp only[af,SS,sa,az]at*);(try simp only[nc]at*);(try simp only[aF]at*))
 all_goals first|exact hp|exact rfl|done
namespace Lg4
structure Fns where
 qtB:List (List L)->Int->Bool
def F0 :Fns:=⟨qtB⟩
def ct (F:Fns):CT:=fun f ds=>match f,ds with
 |255,[.one (.s 3 os),.one (.v (.int .i64 id))]=>some (fun _=>Rw [tI,tI,tI] os/\os.length<=1099511627776,[.one (.v (.bool (F.qtB os id)))])
 |_,_=>none
theorem ak :aW Tryz.prog (ct F0):=by
 intro f ds pre res h hp;unfold ct at h;split at h<;>(try split at h)<;>cases h
 exact jk _ _ hp
def B :TB Tryz.prog:=tb ak
end Lg4
theorem sc (rm:Int)(os:List (List L))(id:Int)(hp:Rw [tI,tI,tI] os/\os.length<=1099511627776):aP Tryz.prog 206 [.agg [.v (.int .i64 rm),.s 3 os],.one (.v (.int .i64 id))] [.one (.v (.bool (qtB os id)))]:=by
 obtain⟨hw,hn⟩:=hp;have hm:=hw.1;unfold maxLen at hm;refine ai Lg4.B ag mixed 21 _ [4] [.tmp 4] Tryz.func206 rfl rfl rfl rfl rfl ?_;intro O r (F:Lg4.Fns) hO hr (hF:F=Lg4.F0);cbv
 repeat' first|refine And.intro ?_ ?_|(refine aG (fun hb=>?_) (fun hb=>?_)<;>cbv)|(refine⟨[1,2,5],[2],Int,fun i=>[.reg 5 (.one (.v (.int .i64 i)))],fun i=>0<=i/\i<=((os.length:Nat):Int)/\upto (bV (uK os id)) i,fun i=>(os.length)-i.toNat,⟨0,?_,?_⟩,?_⟩;rotate_left;(focus (cbv;done));intro i hi;replace hi:0<=i/\i<=((os.length:Nat):Int)/\upto (bV (uK os id)) i:=hi;obtain⟨i0,i1,i2⟩:=hi;cbv)|(refine aa (O.ar .add .i64 i 1) ?_ ?_ ?_;rotate_left 2;focus (cbv;done))
 all_goals(subst hO hr hF;(try simp only[af,SS,sa,az]at*);(try simp only[nc]at*);(try simp only[aF]at*))
 all_goals try rw[bD (by omega) (by omega)]
 all_goals first
  | (show(_:List DV)=_
     first
      |(refine ah ?_;symm;exact Mc i2 i0 (by assumption) (by assumption))
      |(refine ah ?_;symm;exact Pr i2 (by omega))
      |done)
  |omega
  |(refine⟨by omega,by omega,(Rw.eta (by first|assumption|exact Rw.sub (by first|assumption|exact Rw.sub (by assumption) (by omega) rfl) (by omega) rfl) (by omega) (by omega)).trans ?_⟩;rfl)
  |exact aL
  |exact ax i2 (hH (show uK os id i=false from sD (by assumption)))
  |done
end Go.V