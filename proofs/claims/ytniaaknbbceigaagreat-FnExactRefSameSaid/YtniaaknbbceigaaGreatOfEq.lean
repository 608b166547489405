/-
  Contracts, by evaluation.
-/
import Derived.Test.YtniaaknbbceigaaGreatS10
import Derived.Test.YtniaaknbbceigaaGreatHB
import Derived.Test.YtniaaknbbceigaaGreatOfDq
set_option linter.all false
namespace Go.V
open Go Go.Proofs
set_option maxRecDepth 1000000
set_option maxHeartbeats 8000000
namespace Oe0
structure Fns where
 hpI:List (List L)->List (List L)->List (List L)->Int->List (List L)->List (List L)->List (List L)->List (List L)->List (List L)->List (List L)->List (List L)->List (List L)->Int->List (List L)->Int->Int->Int->Int->Bool->Int->Int->List (List L)->Int->Int->Bool
def F0 :Fns:=⟨hpI⟩
def ct (F:Fns):CT:=fun f ds=>match f,ds with
 |55,[.agg [.s 1 a0,.s 1 a1,.s 2 a2,.v (.int .i64 a3),.s 1 a4,.s 2 a5,.s 3 a6,.s 3 a7,.s 4 a8,.s 1 a9,.s 1 a10,.s 1 a11,.v (.int .i64 a12),.s 3 a13,.v (.int .i64 a14),.v (.int .i64 a15),.v (.int .i64 a16),.v (.int .i64 a17),.v (.bool a18),.v (.int .i64 a19),.v (.int .i64 a20),.s 1 a21,.v (.int .i64 a22),.v (.int .i64 a23)]]=>some (fun _=>jC a0 a1 a2 a4 a5 a6 a7 a8 a9 a10 a11 a13 a21,[.one (.v (.bool (F.hpI a0 a1 a2 a3 a4 a5 a6 a7 a8 a9 a10 a11 a12 a13 a14 a15 a16 a17 a18 a19 a20 a21 a22 a23)))])
 |_,_=>none
theorem ak :aW Tryz.prog (ct F0):=by
 intro f ds pre res h hp;unfold ct at h;split at h<;>(try split at h)<;>cases h
 exact dF _ _ _ _ _ _ _ _ _ _ _ _ _ _ _ _ _ _ _ _ _ _ _ _ hp
def B :TB Tryz.prog:=tb ak
end Oe0
theorem iE (a b:List (List L))(hp:Rw [tI] a/\Rw [tI] b/\a.length<=1099511627776):aP Tryz.prog 84 [.one (.s 1 a),.one (.s 1 b)] [.one (.v (.bool (eqR a b)))]:=by
 obtain⟨ha,hb',hn⟩:=hp;refine ai Oe0.B ag mixed 26 _ [4] [.tmp 4] Tryz.func84 rfl rfl rfl rfl rfl ?_;intro O r (F:Oe0.Fns) hO hr (hF:F=Oe0.F0);cbv
 repeat' first|refine And.intro ?_ ?_|(refine aG (fun hb=>?_) (fun hb=>?_)<;>cbv)|(refine⟨[0,1,12,13],[0],Int,fun i=>[.reg 13 (.one (.v (.int .i64 i)))],fun i=>0<=i/\i<=((a.length:Nat):Int)/\upto (K4 a b) i,fun i=>(a.length)-i.toNat,⟨0,?_,?_⟩,?_⟩;rotate_left;(focus (cbv;done));intro i hi;replace hi:0<=i/\i<=((a.length:Nat):Int)/\upto (K4 a b) i:=hi;obtain⟨i0,i1,i2⟩:=hi;cbv)|(refine aa (O.ar .add .i64 i 1) ?_ ?_ ?_;rotate_left 2;focus (cbv;done))
 all_goals(subst hO hr hF;(try simp only[af,SS,sa,az]at*);(try simp only[nc]at*);(try simp only[aF]at*))
 all_goals try rw[bD (by omega) (by omega)]
 all_goals first
  | (show(_:List DV)=_
     first
      |exact ah (D6 (by omega)).symm
      |exact ah (D7 i0 (by omega) (by assumption)).symm
      |exact ah (D8 (by omega) i2 (by omega)).symm
      |done)
  |omega
  |(refine⟨by omega,by omega,(Rw.eta (by first|assumption|exact Rw.sub (by first|assumption|exact Rw.sub (by assumption) (by omega) rfl) (by omega) rfl) (by omega) (by omega)).trans ?_⟩;rfl)
  |(show aK _ _=true;kernel_rfl)
  |exact aL
  |exact ax i2 (js (by assumption))
  |done
theorem sk (a b:List (List L))(hp:Rw [tI] a/\Rw [tI] b/\a.length<=1099511627776):aP Tryz.prog 81 [.one (.s 1 a),.one (.s 1 b)] [.one (.v (.bool (eqR a b)))]:=by
 obtain⟨ha,hb',hn⟩:=hp;refine ai Oe0.B ag mixed 26 _ [4] [.tmp 4] Tryz.func81 rfl rfl rfl rfl rfl ?_;intro O r (F:Oe0.Fns) hO hr (hF:F=Oe0.F0);cbv
 repeat' first|refine And.intro ?_ ?_|(refine aG (fun hb=>?_) (fun hb=>?_)<;>cbv)|(refine⟨[0,1,5],[0],Int,fun i=>[.reg 5 (.one (.v (.int .i64 i)))],fun i=>0<=i/\i<=((a.length:Nat):Int)/\upto (K4 a b) i,fun i=>(a.length)-i.toNat,⟨0,?_,?_⟩,?_⟩;rotate_left;(focus (cbv;done));intro i hi;replace hi:0<=i/\i<=((a.length:Nat):Int)/\upto (K4 a b) i:=hi;obtain⟨i0,i1,i2⟩:=hi;cbv)|(refine aa (O.ar .add .i64 i 1) ?_ ?_ ?_;rotate_left 2;focus (cbv;done))
 all_goals(subst hO hr hF;(try simp only[af,SS,sa,az]at*);(try simp only[nc]at*);(try simp only[aF]at*))
 all_goals try rw[bD (by omega) (by omega)]
 all_goals first
  | (show(_:List DV)=_
     first
      |exact ah (D6 (by omega)).symm
      |exact ah (D7 i0 (by omega) (by assumption)).symm
      |exact ah (D8 (by omega) i2 (by omega)).symm
      |done)
  |omega
  |(refine⟨by omega,by omega,(Rw.eta (by first|assumption|exact Rw.sub (by first|assumption|exact Rw.sub (by assumption) (by omega) rfl) (by omega) rfl) (by omega) (by omega)).trans ?_⟩;rfl)
  |(show aK _ _=true;kernel_rfl)
  |exact aL
  |exact ax i2 (js (by assumption))
  |done
namespace Oe1
structure Fns where
 hpI:List (List L)->List (List L)->List (List L)->Int->List (List L)->List (List L)->List (List L)->List (List L)->List (List L)->List (List L)->List (List L)->List (List L)->Int->List (List L)->Int->Int->Int->Int->Bool->Int->Int->List (List L)->Int->Int->Bool
 ctsL:Bool->List (List L)->List (List L)->List (List L)->Int->List (List L)
 ctsB:Bool->List (List L)->Int->Bool
 clL:List (List L)->List (List L)->Int->Int->List (List L)
 eqR:List (List L)->List (List L)->Bool
def F0 :Fns:=⟨hpI,ctsL,ctsB,clL,eqR⟩
def ct (F:Fns):CT:=fun f ds=>match f with
 | 55=>match ds with
   |[.agg [.s 1 a0,.s 1 a1,.s 2 a2,.v (.int .i64 a3),.s 1 a4,.s 2 a5,.s 3 a6,.s 3 a7,.s 4 a8,.s 1 a9,.s 1 a10,.s 1 a11,.v (.int .i64 a12),.s 3 a13,.v (.int .i64 a14),.v (.int .i64 a15),.v (.int .i64 a16),.v (.int .i64 a17),.v (.bool a18),.v (.int .i64 a19),.v (.int .i64 a20),.s 1 a21,.v (.int .i64 a22),.v (.int .i64 a23)]]=>some (fun _=>jC a0 a1 a2 a4 a5 a6 a7 a8 a9 a10 a11 a13 a21,[.one (.v (.bool (F.hpI a0 a1 a2 a3 a4 a5 a6 a7 a8 a9 a10 a11 a12 a13 a14 a15 a16 a17 a18 a19 a20 a21 a22 a23)))])
   |_=>none
 | 44=>match ds with
   |[.agg [.s 1 a0,.s 1 a1,.s 2 a2,.v (.int .i64 a3),.s 1 a4,.s 2 a5,.s 3 a6,.s 3 a7,.s 4 a8,.s 1 a9,.s 1 a10,.s 1 a11,.v (.int .i64 a12),.s 3 a13,.v (.int .i64 a14),.v (.int .i64 a15),.v (.int .i64 a16),.v (.int .i64 a17),.v (.bool a18),.v (.int .i64 a19),.v (.int .i64 a20),.s 1 a21,.v (.int .i64 a22),.v (.int .i64 a23)]]=>some (fun _=>jC a0 a1 a2 a4 a5 a6 a7 a8 a9 a10 a11 a13 a21,[.one (.v (.bool (F.hpI a0 a1 a2 a3 a4 a5 a6 a7 a8 a9 a10 a11 a12 a13 a14 a15 a16 a17 a18 a19 a20 a21 a22 a23)))])
   |_=>none
 | 30=>match ds with
   |[.agg [.s 1 a0,.s 1 a1,.s 2 a2,.v (.int .i64 a3),.s 1 a4,.s 2 a5,.s 3 a6,.s 3 a7,.s 4 a8,.s 1 a9,.s 1 a10,.s 1 a11,.v (.int .i64 a12),.s 3 a13,.v (.int .i64 a14),.v (.int .i64 a15),.v (.int .i64 a16),.v (.int .i64 a17),.v (.bool a18),.v (.int .i64 a19),.v (.int .i64 a20),.s 1 a21,.v (.int .i64 a22),.v (.int .i64 a23)],.one (.v (.int .i64 id))]=>some (fun _=>jC a0 a1 a2 a4 a5 a6 a7 a8 a9 a10 a11 a13 a21,[.one (.s 1 (F.ctsL (F.hpI a0 a1 a2 a3 a4 a5 a6 a7 a8 a9 a10 a11 a12 a13 a14 a15 a16 a17 a18 a19 a20 a21 a22 a23) a8 a0 a2 id)),.one (.v (.bool (F.ctsB (F.hpI a0 a1 a2 a3 a4 a5 a6 a7 a8 a9 a10 a11 a12 a13 a14 a15 a16 a17 a18 a19 a20 a21 a22 a23) a8 id)))])
   |_=>none
 | 82=>match ds with
   |[.ptr [.s 1 a0,.s 1 a1,.s 2 a2,.v (.int .i64 a3),.s 1 a4,.s 2 a5,.s 3 a6,.s 3 a7,.s 4 a8,.s 1 a9,.s 1 a10,.s 1 a11,.v (.int .i64 a12),.s 3 a13,.v (.int .i64 a14),.v (.int .i64 a15),.v (.int .i64 a16),.v (.int .i64 a17),.v (.bool a18),.v (.int .i64 a19),.v (.int .i64 a20),.s 1 a21,.v (.int .i64 a22),.v (.int .i64 a23)],.agg [.v (.int .i64 o0),.v (.int .i64 a),.v (.int .i64 n),.v (.int .i64 o3)]]=>some (fun _=>Rw [.sl [tI]] a0/\Rw [tI,tI] a2/\Ix a0 a2 a n,[.one (.s 1 (F.clL a0 a2 a n))])
   |_=>none
 | 84=>match ds with
   |[.one (.s 1 a),.one (.s 1 b)]=>some (fun _=>Rw [tI] a/\Rw [tI] b/\a.length<=1099511627776,[.one (.v (.bool (F.eqR a b)))])
   |_=>none
 | 81=>match ds with
   |[.one (.s 1 a),.one (.s 1 b)]=>some (fun _=>Rw [tI] a/\Rw [tI] b/\a.length<=1099511627776,[.one (.v (.bool (F.eqR a b)))])
   |_=>none
 |_=>none
theorem ak :aW Tryz.prog (ct F0):=by
 intro f ds pre res h hp;unfold ct at h;split at h<;>(try split at h)<;>cases h
 exact dF _ _ _ _ _ _ _ _ _ _ _ _ _ _ _ _ _ _ _ _ _ _ _ _ hp;exact fo _ _ _ _ _ _ _ _ _ _ _ _ _ _ _ _ _ _ _ _ _ _ _ _ hp;exact jg _ _ _ _ _ _ _ _ _ _ _ _ _ _ _ _ _ _ _ _ _ _ _ _ _ hp;exact jq _ _ _ _ _ _ _ _ _ _ _ _ _ _ _ _ _ _ _ _ _ _ _ _ _ _ _ _ hp;exact iE _ _ hp;exact sk _ _ hp
def B :TB Tryz.prog:=tb ak
end Oe1
theorem rq (a0 a1 a2:List (List L))(a3:Int)(a4 a5 a6 a7 a8 a9 a10 a11:List (List L))(a12:Int)(a13:List (List L))(a14 a15 a16 a17:Int)(a18:Bool)(a19 a20:Int)(a21:List (List L))(a22 a23 rn:Int)(ros:List (List L))(hp:jC a0 a1 a2 a4 a5 a6 a7 a8 a9 a10 a11 a13 a21/\Rw [tI,.sl [tI]] ros/\ros.length<=1073741824):aP Tryz.prog 24 [.agg [.s 1 a0,.s 1 a1,.s 2 a2,.v (.int .i64 a3),.s 1 a4,.s 2 a5,.s 3 a6,.s 3 a7,.s 4 a8,.s 1 a9,.s 1 a10,.s 1 a11,.v (.int .i64 a12),.s 3 a13,.v (.int .i64 a14),.v (.int .i64 a15),.v (.int .i64 a16),.v (.int .i64 a17),.v (.bool a18),.v (.int .i64 a19),.v (.int .i64 a20),.s 1 a21,.v (.int .i64 a22),.v (.int .i64 a23)],.agg [.v (.int .i64 rn),.s 2 ros]] [.one (.v (.bool (rsI (hpI a0 a1 a2 a3 a4 a5 a6 a7 a8 a9 a10 a11 a12 a13 a14 a15 a16 a17 a18 a19 a20 a21 a22 a23) a17 rn a8 a0 a2 ros)))]:=by
 obtain⟨hp,hr,hrl⟩:=hp;have N:=hp.n;have how:=N.ow;have hol:=N.ol;refine ai Oe1.B ag mixed 52 _ [4] [.tmp 4] Tryz.func24 rfl rfl rfl rfl rfl ?_;intro O r (F:Oe1.Fns) hO hr (hF:F=Oe1.F0);cbv
 repeat' first|refine And.intro ?_ ?_|(refine aG (fun hb=>?_) (fun hb=>?_)<;>cbv)|(refine⟨[2,29,30,31],[2],Int,fun i=>[.reg 31 (.one (.v (.int .i64 i)))],fun i=>0<=i/\i<=((ros.length:Nat):Int)/\upto (Ac (hpI a0 a1 a2 a3 a4 a5 a6 a7 a8 a9 a10 a11 a12 a13 a14 a15 a16 a17 a18 a19 a20 a21 a22 a23) a8 a0 a2 ros) i,fun i=>(ros.length)-i.toNat,⟨0,?_,?_⟩,?_⟩;rotate_left;(focus (cbv;done));intro i hi;replace hi:0<=i/\i<=((ros.length:Nat):Int)/\upto (Ac (hpI a0 a1 a2 a3 a4 a5 a6 a7 a8 a9 a10 a11 a12 a13 a14 a15 a16 a17 a18 a19 a20 a21 a22 a23) a8 a0 a2 ros) i:=hi;obtain⟨i0,i1,i2⟩:=hi;cbv)|(refine aa (O.ar .add .i64 i 1) ?_ ?_ ?_;rotate_left 2;focus (cbv;done))
 all_goals(subst hO hr hF;(try simp only[af,SS,sa,az]at*);(try simp only[nc]at*);(try simp only[aF]at*))
 all_goals(try simp only[Oe1.F0]at*)
 all_goals try rw[bD (by omega) (by omega)]
 all_goals(try have hok:hpI a0 a1 a2 a3 a4 a5 a6 a7 a8 a9 a10 a11 a12 a13 a14 a15 a16 a17 a18 a19 a20 a21 a22 a23=true:=(by assumption))
 all_goals(try have cr:=D2 (b:=(hpI a0 a1 a2 a3 a4 a5 a6 a7 a8 a9 a10 a11 a12 a13 a14 a15 a16 a17 a18 a19 a20 a21 a22 a23)) (os:=a8) (id:=ab ros i 0) hp.c (fun h=>s8 N.ow (by omega) h))
 all_goals(try have er:=Rw.sub (fs:=[tI,.sl [tI]]) (j:=1) (i:=i) hr (by omega) rfl)
 all_goals first
  | (show(_:List DV)=_
     first
      |exact ah (B8 (by assumption)).symm
      |exact ah (B9 (by assumption)).symm
      |exact ah (Ca (by omega)).symm
      |exact ah (wJ i0 (by assumption) (Mj (by assumption))).symm
      |exact ah (wJ i0 (by assumption) (Mk (by assumption))).symm
      |exact ah (Cb hok (by assumption) (by omega) i2 (by omega)).symm
      |done)
  |omega
  |(refine⟨by omega,by omega,(Rw.eta (by first|assumption|exact Rw.sub (by first|assumption|exact Rw.sub (by assumption) (by omega) rfl) (by omega) rfl) (by omega) (by omega)).trans ?_⟩;rfl)
  |exact⟨cr.1,er,by have:=cr.2;omega⟩
  |exact aL
  |exact ax i2 (Px (by assumption) (by assumption))
  |done
theorem sd (a0 a1 a2:List (List L))(a3:Int)(a4 a5 a6 a7 a8 a9 a10 a11:List (List L))(a12:Int)(a13:List (List L))(a14 a15 a16 a17:Int)(a18:Bool)(a19 a20:Int)(a21:List (List L))(a22 a23 rn:Int)(ros:List (List L))(hp:jC a0 a1 a2 a4 a5 a6 a7 a8 a9 a10 a11 a13 a21/\Rw [tI,.sl [tI]] ros/\ros.length<=1073741824):aP Tryz.prog 22 [.agg [.s 1 a0,.s 1 a1,.s 2 a2,.v (.int .i64 a3),.s 1 a4,.s 2 a5,.s 3 a6,.s 3 a7,.s 4 a8,.s 1 a9,.s 1 a10,.s 1 a11,.v (.int .i64 a12),.s 3 a13,.v (.int .i64 a14),.v (.int .i64 a15),.v (.int .i64 a16),.v (.int .i64 a17),.v (.bool a18),.v (.int .i64 a19),.v (.int .i64 a20),.s 1 a21,.v (.int .i64 a22),.v (.int .i64 a23)],.agg [.v (.int .i64 rn),.s 2 ros]] [.one (.v (.bool (rsI (hpI a0 a1 a2 a3 a4 a5 a6 a7 a8 a9 a10 a11 a12 a13 a14 a15 a16 a17 a18 a19 a20 a21 a22 a23) a17 rn a8 a0 a2 ros)))]:=by
 obtain⟨hp,hr,hrl⟩:=hp;have N:=hp.n;have how:=N.ow;have hol:=N.ol;refine ai Oe1.B ag mixed 69 _ [4] [.tmp 4] Tryz.func22 rfl rfl rfl rfl rfl ?_;intro O r (F:Oe1.Fns) hO hr (hF:F=Oe1.F0);cbv
 repeat' first|refine And.intro ?_ ?_|(refine aG (fun hb=>?_) (fun hb=>?_)<;>cbv)|(refine⟨[2,3,5],[2,3],Int,fun i=>[.reg 5 (.one (.v (.int .i64 i)))],fun i=>0<=i/\i<=((ros.length:Nat):Int)/\upto (Ac (hpI a0 a1 a2 a3 a4 a5 a6 a7 a8 a9 a10 a11 a12 a13 a14 a15 a16 a17 a18 a19 a20 a21 a22 a23) a8 a0 a2 ros) i,fun i=>(ros.length)-i.toNat,⟨0,?_,?_⟩,?_⟩;rotate_left;(focus (cbv;done));intro i hi;replace hi:0<=i/\i<=((ros.length:Nat):Int)/\upto (Ac (hpI a0 a1 a2 a3 a4 a5 a6 a7 a8 a9 a10 a11 a12 a13 a14 a15 a16 a17 a18 a19 a20 a21 a22 a23) a8 a0 a2 ros) i:=hi;obtain⟨i0,i1,i2⟩:=hi;cbv)|(refine aa (O.ar .add .i64 i 1) ?_ ?_ ?_;rotate_left 2;focus (cbv;done))|(refine⟨[2,3,5,6,7],[2,3],Int×Bool,fun s_=>match s_ with|(k,g)=>[.reg 7 (.one (.v (.int .i64 k))),.reg 6 (.one (.v (.bool g)))],fun s_=>match s_ with|(k,g)=>0<=k/\k<=(a8.length:Int)/\IH a8 a0 a2 ros i k g,fun s_=>match s_ with|(k,g)=>a8.length-k.toNat,⟨(0,false),?_,?_⟩,?_⟩;rotate_left;(focus (cbv;done));intro s_ hk;obtain⟨k,g⟩:=s_;replace hk:0<=k/\k<=(a8.length:Int)/\IH a8 a0 a2 ros i k g:=hk;obtain⟨k0,k1,k2⟩:=hk;cbv)|(refine aa (O.ar .add .i64 k 1,F.eqR (O.sub (F.clL a0 a2 (O.gi a8 k 1) (O.gi a8 k 2)) 0 (O.ln (F.clL a0 a2 (O.gi a8 k 1) (O.gi a8 k 2)))) (O.gs ros i 1)) ?_ ?_ ?_;rotate_left 2;focus (cbv;done))|(refine aa (O.ar .add .i64 k 1,g) ?_ ?_ ?_;rotate_left 2;focus (cbv;done))
 all_goals(subst hO hr hF;(try simp only[af,SS,sa,az]at*);(try simp only[nc]at*);(try simp only[aF]at*))
 all_goals(try simp only[Oe1.F0]at*)
 all_goals try rw[bD (by omega) (by omega)]
 all_goals(try have hok:hpI a0 a1 a2 a3 a4 a5 a6 a7 a8 a9 a10 a11 a12 a13 a14 a15 a16 a17 a18 a19 a20 a21 a22 a23=true:=(by assumption))
 all_goals(try have T:=oV hok)
 all_goals(try have OC:=s8 N.ow (by omega) hok)
 all_goals(try have CB:=vX OC k0 (by assumption))
 all_goals(try have cr:=DN hp.c CB)
 all_goals(try have er:=Rw.sub (fs:=[tI,.sl [tI]]) (j:=1) (i:=i) hr (by omega) rfl)
 all_goals first
  | (show(_:List DV)=_
     first
      |exact ah (B8 (by assumption)).symm
      |exact ah (B9 (by assumption)).symm
      |exact ah (Ca (by omega)).symm
      |(have q:=Cc T.o k2 k1 (by omega);exact ah (wJ i0 (by assumption) (by rw[hok, <-q];assumption)).symm)
      |exact ah (Cb hok (by assumption) (by omega) i2 (by omega)).symm
      |done)
  |omega
  |(refine⟨by omega,by omega,(Rw.eta (by first|assumption|exact Rw.sub (by first|assumption|exact Rw.sub (by assumption) (by omega) rfl) (by omega) rfl) (by omega) (by omega)).trans ?_⟩;rfl)
  |(show aK _ _=true;kernel_rfl)
  |exact⟨hp.c,hp.e,CB⟩
  |exact⟨cr.1,er,by have:=cr.2;omega⟩
  |exact H9 k2 k0 (by assumption)
  |exact Ia k2 k0 (by assumption)
  |exact Py
  |exact aL
  |(have q:=Cc T.o k2 k1 (by omega);exact ax i2 (by rw[hok, <-q];assumption))
  |done
end Go.V