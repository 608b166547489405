/-
  Contracts, by evaluation.
-/
import Derived.Test.YtniaaknbbceigaaGreatS10
import Derived.Test.YtniaaknbbceigaaGreatHA
import Derived.Test.YtniaaknbbceigaaGreatLayAq
set_option linter.all false
namespace Go.V
open Go Go.Proofs
set_option maxRecDepth 1000000
set_option maxHeartbeats 8000000
namespace Lb0
structure Fns where
 no:Unit
def F0 :Fns:=⟨()⟩
def B :TB Tryz.prog:={Φ:=Fns,F0:=F0}
end Lb0
theorem fu (l:List (List L))(x:Int)(hp:Rw [tI] l):aP Tryz.prog 201 [.one (.s 1 l),.one (.v (.int .i64 x))] [.one (.v (.bool (hasB l x)))]:=by
 have hw:=hp;have hm:=hw.1;unfold maxLen at hm;refine ai Lb0.B ag mixed 18 _ [4] [.tmp 4] Tryz.func201 rfl rfl rfl rfl rfl ?_;intro O r (F:Lb0.Fns) hO hr (hF:F=Lb0.F0);cbv
 repeat' first|refine And.intro ?_ ?_|(refine aG (fun hb=>?_) (fun hb=>?_)<;>cbv)|(refine⟨[0,1,5],[],Int,fun i=>[.reg 5 (.one (.v (.int .i64 i)))],fun i=>0<=i/\i<=((l.length:Nat):Int)/\upto (bV (C9 l x)) i,fun i=>(l.length)-i.toNat,⟨0,?_,?_⟩,?_⟩;rotate_left;(focus (cbv;done));intro i hi;replace hi:0<=i/\i<=((l.length:Nat):Int)/\upto (bV (C9 l x)) i:=hi;obtain⟨i0,i1,i2⟩:=hi;cbv)|(refine aa (O.ar .add .i64 i 1) ?_ ?_ ?_;rotate_left 2;focus (cbv;done))
 all_goals(subst hO hr hF;(try simp only[af,SS,sa,az]at*);(try simp only[nc]at*);(try simp only[aF]at*))
 all_goals try rw[bD (by omega) (by omega)]
 all_goals first
  | (show(_:List DV)=_
     first
      |(refine ah ?_;symm;rw[jt];exact⟨i.toNat,by omega,by rw[Int.toNat_of_nonneg i0];assumption⟩)
      |(refine ah ?_;symm;exact K6 i2 (by omega))
      |done)
  |omega
  |(refine⟨by omega,by omega,(Rw.eta (by first|assumption|exact Rw.sub (by first|assumption|exact Rw.sub (by assumption) (by omega) rfl) (by omega) rfl) (by omega) (by omega)).trans ?_⟩;rfl)
  |exact aL
  |exact ax i2 (by unfold bV C9;rw[sD (fun e=>absurd e.symm (by assumption))];rfl)
  |done
theorem lX (pg:Int)(es:List (List L))(hp:True):vH Tryz.prog 215 [.one (.v (.int .i64 pg)),.mp [.own (.m true es)]] [[.own (.m true (muT es pg))]] [.one (.v (.bool (!(mgbI es pg))))]:=by
 refine FG Lb0.B ag mixed 12 _ [4] [.tmp 3] Tryz.func215 rfl rfl rfl rfl rfl rfl rfl ?_;intro O r os (F:Lb0.Fns) hO hr hos (hF:F=Lb0.F0);cbv
 repeat' first|refine And.intro ?_ ?_|(refine aG (fun hb=>?_) (fun hb=>?_)<;>cbv)
 all_goals((try subst hos);subst hO hr hF;(try simp only[af,SS,sa,az]at*);(try simp only[nc]at*);(try simp only[aF]at*))
 all_goals first|(show(_:List DV)=_;exact rfl)|(show(_:List H)=_;exact rfl)|done
namespace Lb1
structure Fns where
 spOk:Int->Int->Int->Bool
 lgOk:Int->Int->Int->Bool
 hasB:List (List L)->Int->Bool
def F0 :Fns:=⟨spOk,lgOk,hasB⟩
def ct (F:Fns):CT:=fun f ds=>match f,ds with
 |200,[.agg [.v (.int .i64 p),.v (.int .i64 k),.v (.int .i64 b)]]=>some (fun _=>True,[.one (.v (.bool (F.spOk p k b)))])
 |202,[.agg [.v (.int .i64 p),.v (.int .i64 n),.v (.int .i64 s)]]=>some (fun _=>True,[.one (.v (.bool (F.lgOk p n s)))])
 |201,[.one (.s 1 l),.one (.v (.int .i64 x))]=>some (fun _=>Rw [tI] l,[.one (.v (.bool (F.hasB l x)))])
 |_,_=>none
theorem ak :aW Tryz.prog (ct F0):=by
 intro f ds pre res h hp;unfold ct at h;split at h<;>(try split at h)<;>cases h
 exact fq _ _ _ hp;exact jR _ _ _ hp;exact fu _ _ hp
def B :TB Tryz.prog:=tb ak
end Lb1
theorem ed (sp lg:List (List L))(hp:Rw [tI,tI,tI] sp/\Rw [tI,tI,tI] lg/\sp.length<=1073741824/\lg.length<=1073741824):aP Tryz.prog 120 [.one (.s 3 sp),.one (.s 3 lg)] [.one (.v (.bool (layOk sp lg)))]:=by
 obtain⟨hs,hl,ns,nl⟩:=hp;refine ai Lb1.B ag mixed 79 _ [4] [.tmp 4] Tryz.func120 rfl rfl rfl rfl rfl ?_;intro O r (F:Lb1.Fns) hO hr (hF:F=Lb1.F0);cbv
 repeat' first|refine And.intro ?_ ?_|(refine aG (fun hb=>?_) (fun hb=>?_)<;>cbv)|(refine⟨[0,1,5,6],[5],Int×List (List L),fun s_=>match s_ with|(i,o)=>[.reg 6 (.one (.v (.int .i64 i))),.reg 5 (.one (.vw 5 0 0 0 (O.ln o))),.leaf 5 0 ⟨0,0,none,.own (.s 1 o)⟩],fun s_=>match s_ with|(i,o)=>0<=i/\i<=(sp.length:Int)/\GX sp i o,fun s_=>match s_ with|(i,o)=>sp.length-i.toNat,⟨(0,[]),?_,?_⟩,?_⟩;rotate_left;(focus (cbv;done));intro s_ hi;obtain⟨i,o⟩:=s_;replace hi:0<=i/\i<=(sp.length:Int)/\GX sp i o:=hi;obtain⟨i0,i1,i2⟩:=hi;cbv)|(refine⟨[1,5,7],[5],Int×List (List L),fun s_=>match s_ with|(j,o1)=>[.reg 7 (.one (.v (.int .i64 j))),.reg 5 (.one (.vw 5 0 0 0 (O.ln o1))),.leaf 5 0 ⟨0,0,none,.own (.s 1 o1)⟩],fun s_=>match s_ with|(j,o1)=>0<=j/\j<=(lg.length:Int)/\MH sp lg j o1,fun s_=>match s_ with|(j,o1)=>lg.length-j.toNat,⟨(0,o),?_,?_⟩,?_⟩;rotate_left;(focus (cbv;done));intro s_ hj;obtain⟨j,o1⟩:=s_;replace hj:0<=j/\j<=(lg.length:Int)/\MH sp lg j o1:=hj;obtain⟨j0,j1,j2⟩:=hj;cbv)|(refine⟨[1,5,7,8],[5],Int×List (List L),fun s_=>match s_ with|(k,o2)=>[.reg 8 (.one (.v (.int .i64 k))),.reg 5 (.one (.vw 5 0 0 0 (O.ln o2))),.leaf 5 0 ⟨0,0,none,.own (.s 1 o2)⟩],fun s_=>match s_ with|(k,o2)=>0<=k/\k<=ab lg j 1/\GW sp lg j k o2,fun s_=>match s_ with|(k,o2)=>(ab lg j 1-k).toNat,⟨(0,o1),?_,?_⟩,?_⟩;rotate_left;(focus (cbv;done));intro s_ hk;obtain⟨k,o2⟩:=s_;replace hk:0<=k/\k<=ab lg j 1/\GW sp lg j k o2:=hk;obtain⟨k0,k1,k2⟩:=hk;cbv)|(refine aa (O.ar .add .i64 k 1,O.cat o2 (O.sub [[.v (.int .i64 (O.ar .add .i64 (O.gi lg j 0) k))]] 0 (O.ln [[.v (.int .i64 (O.ar .add .i64 (O.gi lg j 0) k))]]))) ?_ ?_ ?_;rotate_left 2;focus (cbv;done))|(refine aa (O.ar .add .i64 j 1,o2) ?_ ?_ ?_;rotate_left 2;focus (cbv;done))|(refine aa (O.ar .add .i64 i 1,O.cat o (O.sub [[.v (.int .i64 (O.gi sp i 0))]] 0 (O.ln [[.v (.int .i64 (O.gi sp i 0))]]))) ?_ ?_ ?_;rotate_left 2;focus (cbv;done))
 all_goals(subst hO hr hF;(try simp only[af,SS,sa,az]at*);(try simp only[nc]at*);(try simp only[aF]at*))
 all_goals(try simp only[Lb1.F0]at*)
 all_goals try rw[bD (by omega) (by omega)]
 all_goals(try have z:=(N6 (k:=k) (by assumption) k0 (by assumption)))
 all_goals(try(obtain⟨z1,z2,z3,z4,z5⟩:=z))
 all_goals(try have z6:aV .add .i64 k 1=k+1:=aB (by omega))
 all_goals(try simp only[z3]at*)
 all_goals(try simp only[z6]at*)
 all_goals first
  | (show(_:List DV)=_
     first
      |(refine ah ?_;symm;exact Bb i0 (by assumption) (by assumption))
      |(refine ah ?_;symm;exact LH i2 i0 (by assumption) (by assumption))
      |(refine ah ?_;symm;exact Bc j0 (by assumption) (by assumption))
      |(refine ah ?_;symm;exact LD k2 j0 (by assumption) k0 (by assumption) (by assumption))
      |(refine ah ?_;symm;exact LF j2 j1 (by assumption))
      |done)
  |omega
  |(refine⟨by omega,by omega,(Rw.eta (by first|assumption|exact Rw.sub (by first|assumption|exact Rw.sub (by assumption) (by omega) rfl) (by omega) rfl) (by omega) (by omega)).trans ?_⟩;rfl)
  |exact Oa i2 (by omega)
  |exact N7 k2 (by omega) (by omega) (by omega)
  |(have q:=EW i2;constructor<;>(simp only[List.length_cons,List.length_nil];omega))
  |(have q:=EV k2;constructor<;>(simp only[List.length_cons,List.length_nil];omega))
  |exact Ob i2 i0 (by assumption) (by assumption)
  |exact N8 k2 k0 (by omega) (by assumption)
  |exact LE k2 j0 (by assumption) k0 k1 (by assumption)
  |exact QH j2
  |exact LI i2 i1 (by assumption)
  |exact QI
  |exact⟨True.intro,True.intro⟩
  |(have t:=fH (by assumption);have b:=gK t.1;omega)
  |done
end Go.V