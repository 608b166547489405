/-
  Contracts, by evaluation.
-/
import Derived.Test.YtniaaknbbceigaaGreatS10
import Derived.Test.YtniaaknbbceigaaGreatHA
set_option linter.all false
namespace Go.V
open Go Go.Proofs
set_option maxRecDepth 1000000
set_option maxHeartbeats 8000000
namespace R0
structure Fns where
 no:Unit
def F0 :Fns:=⟨()⟩
def B :TB Tryz.prog:={Φ:=Fns,F0:=F0}
end R0
theorem aN (x a b:Int)(hp:True):aP Tryz.prog 152 [.one (.v (.int .i64 x)),.one (.v (.int .i64 a)),.one (.v (.int .i64 b))] [.one (.v (.bool (inR x a b)))]:=by
 refine ai R0.B ag mixed 15 _ [4] [.tmp 6] Tryz.func152 rfl rfl rfl rfl rfl ?_;intro O r (F:R0.Fns) hO hr (hF:F=R0.F0);cbv
 repeat' first|refine And.intro ?_ ?_|(refine aG (fun hb=>?_) (fun hb=>?_)<;>cbv)
 all_goals(subst hO hr hF;(try simp only[af,SS,sa,az]at*);(try simp only[nc]at*);(try simp only[aF]at*))
 all_goals refine ah ?_
 ·exact dJ (by rw[bh];simp only[SS];omega)
 ·exact(kY.2 (by omega)).symm
theorem aU (x a b:Int)(hp:True):aP Tryz.prog 126 [.one (.v (.int .i64 x)),.one (.v (.int .i64 a)),.one (.v (.int .i64 b))] [.one (.v (.bool (inR x a b)))]:=by
 refine ai R0.B ag mixed 15 _ [4] [.tmp 6] Tryz.func126 rfl rfl rfl rfl rfl ?_;intro O r (F:R0.Fns) hO hr (hF:F=R0.F0);cbv
 repeat' first|refine And.intro ?_ ?_|(refine aG (fun hb=>?_) (fun hb=>?_)<;>cbv)
 all_goals(subst hO hr hF;(try simp only[af,SS,sa,az]at*);(try simp only[nc]at*);(try simp only[aF]at*))
 all_goals refine ah ?_
 ·exact dJ (by rw[bh];simp only[SS];omega)
 ·exact(kY.2 (by omega)).symm
namespace F4
structure Fns where
 inR:Int->Int->Int->Bool
def F0 :Fns:=⟨inR⟩
def ct (F:Fns):CT:=fun f ds=>match f,ds with
 |152,[.one (.v (.int .i64 x)),.one (.v (.int .i64 a)),.one (.v (.int .i64 b))]=>some (fun _=>True,[.one (.v (.bool (F.inR x a b)))])
 |126,[.one (.v (.int .i64 x)),.one (.v (.int .i64 a)),.one (.v (.int .i64 b))]=>some (fun _=>True,[.one (.v (.bool (F.inR x a b)))])
 |_,_=>none
theorem ak :aW Tryz.prog (ct F0):=by
 intro f ds pre res h hp;unfold ct at h;split at h<;>(try split at h)<;>cases h
 exact aN _ _ _ hp;exact aU _ _ _ hp
def B :TB Tryz.prog:=tb ak
end F4
theorem dK (k:Int)(hp:True):aP Tryz.prog 187 [.one (.v (.int .i64 k))] [.one (.v (.bool (inR k 0 3)))]:=by
 refine ai F4.B ag mixed 5 _ [4] [.tmp 2] Tryz.func187 rfl rfl rfl rfl rfl ?_;intro O r (F:F4.Fns) hO hr (hF:F=F4.F0);cbv
 repeat' first|refine And.intro ?_ ?_|(refine aG (fun hb=>?_) (fun hb=>?_)<;>cbv)
 all_goals(subst hO hr hF;(try simp only[af,SS,sa,az]at*);(try simp only[nc]at*);(try simp only[aF]at*))
 all_goals first|trivial|trace_state
namespace F5
structure Fns where
 inR:Int->Int->Int->Bool
def F0 :Fns:=⟨inR⟩
def ct (F:Fns):CT:=fun f ds=>match f,ds with
 |187,[.one (.v (.int .i64 k))]=>some (fun _=>True,[.one (.v (.bool (F.inR k 0 3)))])
 |126,[.one (.v (.int .i64 x)),.one (.v (.int .i64 a)),.one (.v (.int .i64 b))]=>some (fun _=>True,[.one (.v (.bool (F.inR x a b)))])
 |_,_=>none
theorem ak :aW Tryz.prog (ct F0):=by
 intro f ds pre res h hp;unfold ct at h;split at h<;>(try split at h)<;>cases h
 exact dK _ hp;exact aU _ _ _ hp
def B :TB Tryz.prog:=tb ak
end F5
theorem bU (k:Int)(hp:True):aP Tryz.prog 95 [.one (.v (.int .i64 k))] [.one (.v (.int .i64 (clsSz k)))]:=by
 refine ai F5.B ag mixed 8 _ [3] [.tmp 2] Tryz.func95 rfl rfl rfl rfl rfl ?_;intro O r (F:F5.Fns) hO hr (hF:F=F5.F0);cbv
 repeat' first|refine And.intro ?_ ?_|(refine aG (fun hb=>?_) (fun hb=>?_)<;>cbv)
 all_goals(subst hO hr hF;(try simp only[af,SS,sa,az]at*);(try simp only[nc]at*);(try simp only[aF]at*))
 all_goals(try simp only[F5.F0]at*)
 all_goals first|exact bj (I7 (by assumption)).symm|(refine bj ?_;rw[D1 (by assumption)])|(rw[bh]at*;omega)|trace_state
theorem cd (k:Int)(hp:True):aP Tryz.prog 76 [.one (.v (.int .i64 k))] [.one (.v (.int .i64 (clsSz k)))]:=by
 refine ai F5.B ag mixed 9 _ [3] [.tmp 2] Tryz.func76 rfl rfl rfl rfl rfl ?_;intro O r (F:F5.Fns) hO hr (hF:F=F5.F0);cbv
 repeat' first|refine And.intro ?_ ?_|(refine aG (fun hb=>?_) (fun hb=>?_)<;>cbv)
 all_goals(subst hO hr hF;(try simp only[af,SS,sa,az]at*);(try simp only[nc]at*);(try simp only[aF]at*))
 all_goals(try simp only[F5.F0]at*)
 all_goals(try rw[I8 (by assumption)]at*)
 all_goals first|exact bj (I7 (by assumption)).symm|(refine bj ?_;rw[D1 (by assumption)])|(rw[bh]at*;omega)|trace_state
namespace F6
structure Fns where
 inR:Int->Int->Int->Bool
 clsSz:Int->Int
def F0 :Fns:=⟨inR,clsSz⟩
def ct (F:Fns):CT:=fun f ds=>match f,ds with
 |152,[.one (.v (.int .i64 x)),.one (.v (.int .i64 a)),.one (.v (.int .i64 b))]=>some (fun _=>True,[.one (.v (.bool (F.inR x a b)))])
 |126,[.one (.v (.int .i64 x)),.one (.v (.int .i64 a)),.one (.v (.int .i64 b))]=>some (fun _=>True,[.one (.v (.bool (F.inR x a b)))])
 |95,[.one (.v (.int .i64 k))]=>some (fun _=>True,[.one (.v (.int .i64 (F.clsSz k)))])
 |_,_=>none
theorem ak :aW Tryz.prog (ct F0):=by
 intro f ds pre res h hp;unfold ct at h;split at h<;>(try split at h)<;>cases h
 exact aN _ _ _ hp;exact aU _ _ _ hp;exact bU _ hp
def B :TB Tryz.prog:=tb ak
end F6
theorem jM (s:Int)(hp:True):aP Tryz.prog 94 [.one (.v (.int .i64 s))] [.one (.v (.int .i64 (clsOf s)))]:=by
 refine ai F6.B ag mixed 14 _ [3] [.tmp 2] Tryz.func94 rfl rfl rfl rfl rfl ?_;intro O r (F:F6.Fns) hO hr (hF:F=F6.F0);cbv
 repeat' first|refine And.intro ?_ ?_|(refine aG (fun hb=>?_) (fun hb=>?_)<;>cbv)|(refine⟨[0,3],[],Int,fun k=>[.reg 3 (.one (.v (.int .i64 k)))],fun k=>0<=k/\k<=3/\(k=0\/clsSz (k-1)<s),fun k=>(3-k).toNat,⟨0,?_,?_⟩,?_⟩;rotate_left;(focus (cbv;done));intro k hk;replace hk:0<=k/\k<=3/\(k=0\/clsSz (k-1)<s):=hk;obtain⟨k0,k1,k2⟩:=hk;cbv)|(refine aa (O.ar .add .i64 k 1) ?_ ?_ ?_;rotate_left 2;focus (cbv;done))
 all_goals(subst hO hr hF;(try simp only[af,SS,sa,az]at*);(try simp only[nc]at*);(try simp only[aF]at*))
 all_goals(try simp only[F6.F0]at*)
 all_goals(try simp only[bh,kY]at*)
 all_goals(try rw[bD (by omega) (by omega)])
 all_goals first|trivial|omega|exact AV (by omega) (by assumption) (by omega)|(have:=AV (k:=k) (s:=s) (by omega) (by assumption) (by omega);omega)|exact bj (I5 (by omega)).symm|exact bj (DT (by omega) (by assumption) (by omega) (by assumption)).symm|exact .inl trivial|(rw[show k+1-1=k by omega];exact .inr (by assumption))|trace_state
theorem jQ (s:Int)(hp:True):aP Tryz.prog 87 [.one (.v (.int .i64 s))] [.one (.v (.int .i64 (clsOf s)))]:=by
 refine ai F6.B ag mixed 15 _ [3] [.tmp 2] Tryz.func87 rfl rfl rfl rfl rfl ?_;intro O r (F:F6.Fns) hO hr (hF:F=F6.F0);cbv
 repeat' first|refine And.intro ?_ ?_|(refine aG (fun hb=>?_) (fun hb=>?_)<;>cbv)|(refine⟨[0,3],[],Int,fun k=>[.reg 3 (.one (.v (.int .i64 k)))],fun k=>0<=k/\k<=3/\(k=0\/clsSz (k-1)<s),fun k=>(3-k).toNat,⟨0,?_,?_⟩,?_⟩;rotate_left;(focus (cbv;done));intro k hk;replace hk:0<=k/\k<=3/\(k=0\/clsSz (k-1)<s):=hk;obtain⟨k0,k1,k2⟩:=hk;cbv)|(refine aa (O.ar .add .i64 k 1) ?_ ?_ ?_;rotate_left 2;focus (cbv;done))
 all_goals(subst hO hr hF;(try simp only[af,SS,sa,az]at*);(try simp only[nc]at*);(try simp only[aF]at*))
 all_goals(try simp only[F6.F0]at*)
 all_goals(try rw[I8 (k:=k) (by rw[bh];omega)]at*)
 all_goals(try rw[D1 (k:=k) (by rw[bh];omega)]at*)
 all_goals(try simp only[bh,kY]at*)
 all_goals(try rw[bD (by omega) (by omega)])
 all_goals first|trivial|omega|exact AV (by omega) (by assumption) (by omega)|(have:=AV (k:=k) (s:=s) (by omega) (by assumption) (by omega);omega)|exact bj (I5 (by omega)).symm|exact bj (DT (by omega) (by assumption) (by omega) (by assumption)).symm|exact .inl trivial|(rw[show k+1-1=k by omega];exact .inr (by assumption))|trace_state
theorem pB (d0 d1 d2 pg:Int)(hp:True):aP Tryz.prog 228 [.agg [.v (.int .i64 d0),.v (.int .i64 d1),.v (.int .i64 d2)],.ptr [.v (.int .i64 pg)]] [.one (.v (.bool (eqB d0 pg)))]:=by
 refine ai R0.B ag mixed 8 _ [4] [.tmp 3] Tryz.func228 rfl rfl rfl rfl rfl ?_;intro O r (F:R0.Fns) hO hr (hF:F=R0.F0);cbv
 repeat' first|refine And.intro ?_ ?_|(refine aG (fun hb=>?_) (fun hb=>?_)<;>cbv)
 all_goals(subst hO hr hF;(try simp only[af,SS,sa,az]at*);(try simp only[nc]at*);(try simp only[aF]at*))
 all_goals first
  | (show(_:List DV)=_
     first
      |exact ah (dJ (by unfold eqB;simp only[SS,decide_eq_true_eq]))
      |done)
  |trace_state
namespace W3
structure Fns where
 eqB:Int->Int->Bool
def F0 :Fns:=⟨eqB⟩
def ct (F:Fns):CT:=fun f ds=>match f,ds with
 |228,[.agg [.v (.int .i64 d0),.v (.int .i64 d1),.v (.int .i64 d2)],.ptr [.v (.int .i64 pg)]]=>some (fun _=>True,[.one (.v (.bool (F.eqB d0 pg)))])
 |_,_=>none
theorem ak :aW Tryz.prog (ct F0):=by
 intro f ds pre res h hp;unfold ct at h;split at h<;>(try split at h)<;>cases h
 exact pB _ _ _ _ hp
def B :TB Tryz.prog:=tb ak
end W3
theorem bK (os:List (List L))(id:Int)(hp:Rw [tI,tI,tI] os/\os.length<=1099511627776):aP Tryz.prog 227 [.one (.s 3 os),.fn 228 [[.v (.int .i64 id)]]] [.one (.v (.int .i64 (spI os id)))]:=by
 obtain⟨hw,hn⟩:=hp;refine ai W3.B ag mixed 19 _ [3] [.tmp 4] Tryz.func227 rfl rfl rfl rfl rfl ?_;intro O r (F:W3.Fns) hO hr (hF:F=W3.F0);cbv
 repeat' first|refine And.intro ?_ ?_|(refine aG (fun hb=>?_) (fun hb=>?_)<;>cbv)|(refine⟨[0,1,7,8],[0],Int,fun i=>[.reg 8 (.one (.v (.int .i64 i)))],fun i=>0<=i/\i<=((os.length:Nat):Int)/\upto (bV (isSp os id)) i,fun i=>(os.length)-i.toNat,⟨0,?_,?_⟩,?_⟩;rotate_left;(focus (cbv;done));intro i hi;replace hi:0<=i/\i<=((os.length:Nat):Int)/\upto (bV (isSp os id)) i:=hi;obtain⟨i0,i1,i2⟩:=hi;cbv)|(refine aa (O.ar .add .i64 i 1) ?_ ?_ ?_;rotate_left 2;focus (cbv;done))
 all_goals(subst hO hr hF;(try simp only[af,SS,sa,az]at*);(try simp only[nc]at*);(try simp only[aF]at*))
 all_goals(try simp only[W3.F0]at*)
 all_goals try rw[bD (by omega) (by omega)]
 all_goals first
  | (show(_:List DV)=_
     first
      |exact bj (dm i2 i0 (by assumption) (show isSp os id i=true from by assumption)).symm
      |exact bj (dn i2 (by assumption)).symm
      |done)
  |omega
  |(refine⟨by omega,by omega,(Rw.eta (by first|assumption|exact Rw.sub (by first|assumption|exact Rw.sub (by assumption) (by omega) rfl) (by omega) rfl) (by omega) (by omega)).trans ?_⟩;rfl)
  |(show(lk _ _).isSome=true;kernel_rfl)
  |exact aL
  |exact ax i2 (hH (show isSp os id i=false from by assumption))
  |trace_state
namespace W4
structure Fns where
 spI:List (List L)->Int->Int
def F0 :Fns:=⟨spI⟩
def ct (F:Fns):CT:=fun f ds=>match f,ds with
 |227,[.one (.s 3 os),.fn 228 [[.v (.int .i64 id)]]]=>some (fun _=>Rw [tI,tI,tI] os/\os.length<=1099511627776,[.one (.v (.int .i64 (F.spI os id)))])
 |_,_=>none
theorem ak :aW Tryz.prog (ct F0):=by
 intro f ds pre res h hp;unfold ct at h;split at h<;>(try split at h)<;>cases h
 exact bK _ _ hp
def B :TB Tryz.prog:=tb ak
end W4
theorem t9 (a0 a1 a2:List (List L))(a3:Int)(a4 a5 a6 a7 a8 a9 a10 a11:List (List L))(a12:Int)(a13:List (List L))(a14 a15 a16 a17:Int)(a18:Bool)(a19 a20:Int)(a21:List (List L))(a22 a23 pg:Int)(hp:Rw [tI,tI,tI] a6/\a6.length<=1099511627776):aP Tryz.prog 154 [.agg [.s 1 a0,.s 1 a1,.s 2 a2,.v (.int .i64 a3),.s 1 a4,.s 2 a5,.s 3 a6,.s 3 a7,.s 4 a8,.s 1 a9,.s 1 a10,.s 1 a11,.v (.int .i64 a12),.s 3 a13,.v (.int .i64 a14),.v (.int .i64 a15),.v (.int .i64 a16),.v (.int .i64 a17),.v (.bool a18),.v (.int .i64 a19),.v (.int .i64 a20),.s 1 a21,.v (.int .i64 a22),.v (.int .i64 a23)],.one (.v (.int .i64 pg))] [.one (.v (.int .i64 (spI a6 pg)))]:=by
 refine ai W4.B ag mixed 9 _ [3] [.tmp 4] Tryz.func154 rfl rfl rfl rfl rfl ?_;intro O r (F:W4.Fns) hO hr (hF:F=W4.F0);cbv
 repeat' first|refine And.intro ?_ ?_|(refine aG (fun hb=>?_) (fun hb=>?_)<;>cbv)
 all_goals(subst hO hr hF;(try simp only[af,SS,sa,az]at*);(try simp only[nc]at*);(try simp only[aF]at*))
 all_goals first|exact hp|exact rfl|trace_state
theorem ft (a0 a1 a2:List (List L))(a3:Int)(a4 a5 a6 a7 a8 a9 a10 a11:List (List L))(a12:Int)(a13:List (List L))(a14 a15 a16 a17:Int)(a18:Bool)(a19 a20:Int)(a21:List (List L))(a22 a23 pg:Int)(hp:Rw [tI,tI,tI] a6/\a6.length<=1099511627776):aP Tryz.prog 73 [.agg [.s 1 a0,.s 1 a1,.s 2 a2,.v (.int .i64 a3),.s 1 a4,.s 2 a5,.s 3 a6,.s 3 a7,.s 4 a8,.s 1 a9,.s 1 a10,.s 1 a11,.v (.int .i64 a12),.s 3 a13,.v (.int .i64 a14),.v (.int .i64 a15),.v (.int .i64 a16),.v (.int .i64 a17),.v (.bool a18),.v (.int .i64 a19),.v (.int .i64 a20),.s 1 a21,.v (.int .i64 a22),.v (.int .i64 a23)],.one (.v (.int .i64 pg))] [.one (.v (.int .i64 (spI a6 pg)))]:=by
 obtain⟨hw,hn⟩:=hp;refine ai R0.B ag mixed 22 _ [3] [.tmp 4] Tryz.func73 rfl rfl rfl rfl rfl ?_;intro O r (F:R0.Fns) hO hr (hF:F=R0.F0);cbv
 repeat' first|refine And.intro ?_ ?_|(refine aG (fun hb=>?_) (fun hb=>?_)<;>cbv)|(refine⟨[1,2,5],[2],Int,fun i=>[.reg 5 (.one (.v (.int .i64 i)))],fun i=>0<=i/\i<=((a6.length:Nat):Int)/\upto (bV (isSp a6 pg)) i,fun i=>(a6.length)-i.toNat,⟨0,?_,?_⟩,?_⟩;rotate_left;(focus (cbv;done));intro i hi;replace hi:0<=i/\i<=((a6.length:Nat):Int)/\upto (bV (isSp a6 pg)) i:=hi;obtain⟨i0,i1,i2⟩:=hi;cbv)|(refine aa (O.ar .add .i64 i 1) ?_ ?_ ?_;rotate_left 2;focus (cbv;done))
 all_goals(subst hO hr hF;(try simp only[af,SS,sa,az]at*);(try simp only[nc]at*);(try simp only[aF]at*))
 all_goals(try simp only[R0.F0]at*)
 all_goals try rw[bD (by omega) (by omega)]
 all_goals first
  | (show(_:List DV)=_
     first
      |exact bj (dm i2 i0 (by assumption) (show isSp a6 pg i=true from js (by assumption))).symm
      |exact bj (dn i2 (by assumption)).symm
      |done)
  |omega
  |(refine⟨by omega,by omega,(Rw.eta (by first|assumption|exact Rw.sub (by first|assumption|exact Rw.sub (by assumption) (by omega) rfl) (by omega) rfl) (by omega) (by omega)).trans ?_⟩;rfl)
  |exact aL
  |exact ax i2 (hH (show isSp a6 pg i=false from sD (by assumption)))
  |trace_state
end Go.V