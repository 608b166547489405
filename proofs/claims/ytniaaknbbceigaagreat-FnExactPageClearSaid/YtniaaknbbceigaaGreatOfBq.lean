/-
  Contracts, by evaluation.
-/
import Derived.Test.YtniaaknbbceigaaGreatS10
import Derived.Test.YtniaaknbbceigaaGreatHB
import Derived.Test.YtniaaknbbceigaaGreatOfAq
set_option linter.all false
namespace Go.V
open Go Go.Proofs
set_option maxRecDepth 1000000
set_option maxHeartbeats 8000000
namespace Ob0
structure Fns where
 framesOk:List (List L)->List (List L)->Bool
def F0 :Fns:=⟨framesOk⟩
def ct (F:Fns):CT:=fun f ds=>match f,ds with
 |166,[.agg [.s 1 cs,.s 1 us]]=>some (fun _=>Rw [.sl [tI]] cs/\Rw [tB] us,[.one (.v (.bool (F.framesOk cs us)))])
 |167,[.agg [.s 1 cs,.s 1 us]]=>some (fun _=>Rw [.sl [tI]] cs/\Rw [tB] us,[.one (.v (.bool (F.framesOk cs us)))])
 |_,_=>none
theorem ak :aW Tryz.prog (ct F0):=by
 intro f ds pre res h hp;unfold ct at h;split at h<;>(try split at h)<;>cases h
 exact jm _ _ hp;exact jh _ _ hp
def B :TB Tryz.prog:=tb ak
end Ob0
theorem lm (es:List (List L))(hp:Rw [tI,tI] es/\es.length<=1099511627776):aP Tryz.prog 68 [.agg [.s 2 es]] [.one (.v (.int .i64 (mpT es)))]:=by
 obtain⟨he,hn⟩:=hp;refine ai Ob0.B ag mixed 20 _ [3] [.tmp 2] Tryz.func68 rfl rfl rfl rfl rfl ?_;intro O r (F:Ob0.Fns) hO hr (hF:F=Ob0.F0);cbv
 repeat' first|refine And.intro ?_ ?_|(refine aG (fun hb=>?_) (fun hb=>?_)<;>cbv)|(refine⟨[3,7,8,9],[],Int×Int,fun s_=>match s_ with|(i,n)=>[.reg 9 (.one (.v (.int .i64 i))),.reg 3 (.one (.v (.int .i64 n)))],fun s_=>match s_ with|(i,n)=>0<=i/\i<=(es.length:Int)/\n=zG es i.toNat,fun s_=>match s_ with|(i,n)=>es.length-i.toNat,⟨(0,0),?_,?_⟩,?_⟩;rotate_left;(focus (cbv;done));intro s_ hi;obtain⟨i,n⟩:=s_;replace hi:0<=i/\i<=(es.length:Int)/\n=zG es i.toNat:=hi;obtain⟨i0,i1,i2⟩:=hi;cbv)|(refine aa (O.ar .add .i64 i 1,O.ar .add .i64 n 1) ?_ ?_ ?_;rotate_left 2;focus (cbv;done))|(refine aa (O.ar .add .i64 i 1,n) ?_ ?_ ?_;rotate_left 2;focus (cbv;done))
 all_goals(subst hO hr hF;(try simp only[af,SS,sa,az]at*);(try simp only[nc]at*);(try simp only[aF]at*))
 all_goals try rw[bD (by omega) (by omega)]
 all_goals try(have un:=zH (es:=es) (n:=i.toNat);have en:aV .add .i64 n 1=n+1:=aB (by omega);simp only[en])
 all_goals first
  | (show(_:List DV)=_
     first
      |exact bj (i2.trans (Fc i1 (by omega)))
      |done)
  |(refine⟨by omega,by omega,(Rw.eta (by first|assumption|exact Rw.sub (by first|assumption|exact Rw.sub (by assumption) (by omega) rfl) (by omega) rfl) (by omega) (by omega)).trans ?_⟩;rfl)
  |omega
  |(rw[bD (by omega) (by omega),Fe i0 (by assumption), <-i2])
  |exact i2.trans (JL i0 (by assumption)).symm
  |exact rfl
  |done
theorem lu (es:List (List L))(hp:Rw [tI,tI] es/\es.length<=1099511627776):aP Tryz.prog 66 [.agg [.s 2 es]] [.one (.v (.int .i64 (mpT es)))]:=by
 obtain⟨he,hn⟩:=hp;refine ai Ob0.B ag mixed 22 _ [3] [.tmp 2] Tryz.func66 rfl rfl rfl rfl rfl ?_;intro O r (F:Ob0.Fns) hO hr (hF:F=Ob0.F0);cbv
 repeat' first|refine And.intro ?_ ?_|(refine aG (fun hb=>?_) (fun hb=>?_)<;>cbv)|(refine⟨[1,3,4],[1],Int×Int,fun s_=>match s_ with|(i,n)=>[.reg 4 (.one (.v (.int .i64 i))),.reg 3 (.one (.v (.int .i64 n)))],fun s_=>match s_ with|(i,n)=>0<=i/\i<=(es.length:Int)/\n=zG es i.toNat,fun s_=>match s_ with|(i,n)=>es.length-i.toNat,⟨(0,0),?_,?_⟩,?_⟩;rotate_left;(focus (cbv;done));intro s_ hi;obtain⟨i,n⟩:=s_;replace hi:0<=i/\i<=(es.length:Int)/\n=zG es i.toNat:=hi;obtain⟨i0,i1,i2⟩:=hi;cbv)|(refine aa (O.ar .add .i64 i 1,O.ar .add .i64 n 1) ?_ ?_ ?_;rotate_left 2;focus (cbv;done))|(refine aa (O.ar .add .i64 i 1,n) ?_ ?_ ?_;rotate_left 2;focus (cbv;done))
 all_goals(subst hO hr hF;(try simp only[af,SS,sa,az]at*);(try simp only[nc]at*);(try simp only[aF]at*))
 all_goals try rw[bD (by omega) (by omega)]
 all_goals try(have un:=zH (es:=es) (n:=i.toNat);have en:aV .add .i64 n 1=n+1:=aB (by omega);simp only[en])
 all_goals first
  | (show(_:List DV)=_
     first
      |exact bj (i2.trans (Fc i1 (by omega)))
      |done)
  |(refine⟨by omega,by omega,(Rw.eta (by first|assumption|exact Rw.sub (by first|assumption|exact Rw.sub (by assumption) (by omega) rfl) (by omega) rfl) (by omega) (by omega)).trans ?_⟩;rfl)
  |omega
  |(rw[bD (by omega) (by omega),Fe i0 (by assumption), <-i2])
  |exact i2.trans (JL i0 (by assumption)).symm
  |exact rfl
  |done
theorem mj (cs us:List (List L))(hp:Rw [.sl [tI]] cs/\Rw [tB] us):aP Tryz.prog 67 [.agg [.s 1 cs,.s 1 us]] [.one (.v (.int .i64 (ufN cs us)))]:=by
 obtain⟨hc,hu⟩:=hp;have hm:=hu.1;unfold maxLen at hm;refine ai Ob0.B ag mixed 24 _ [3] [.tmp 2] Tryz.func67 rfl rfl rfl rfl rfl ?_;intro O r (F:Ob0.Fns) hO hr (hF:F=Ob0.F0);cbv
 repeat' first|refine And.intro ?_ ?_|(refine aG (fun hb=>?_) (fun hb=>?_)<;>cbv)|(refine⟨[1,3,4],[1],Int×Int,fun s_=>match s_ with|(i,n)=>[.reg 4 (.one (.v (.int .i64 i))),.reg 3 (.one (.v (.int .i64 n)))],fun s_=>match s_ with|(i,n)=>0<=i/\i<=(us.length:Int)/\n=uN us i.toNat/\(i=0\/framesOk cs us=true),fun s_=>match s_ with|(i,n)=>us.length-i.toNat,⟨(0,0),?_,?_⟩,?_⟩;rotate_left;(focus (cbv;done));intro s_ hi;obtain⟨i,n⟩:=s_;replace hi:0<=i/\i<=(us.length:Int)/\n=uN us i.toNat/\(i=0\/framesOk cs us=true):=hi;obtain⟨i0,i1,i2,i3⟩:=hi;cbv)|(refine aa (O.ar .add .i64 i 1,O.ar .add .i64 n 1) ?_ ?_ ?_;rotate_left 2;focus (cbv;done))|(refine aa (O.ar .add .i64 i 1,n) ?_ ?_ ?_;rotate_left 2;focus (cbv;done))
 all_goals(subst hO hr hF;(try simp only[af,SS,sa,az]at*);(try simp only[nc]at*);(try simp only[aF]at*))
 all_goals(try simp only[Ob0.F0]at*)
 all_goals try rw[bD (by omega) (by omega)]
 all_goals try(have un:=Ah (us:=us) (n:=i.toNat);have en:aV .add .i64 n 1=n+1:=aB (by omega);simp only[en])
 all_goals first
  | (show(_:List DV)=_
     first
      |exact bj (Mw i2 i3 (by assumption))
      |exact bj (i2.trans (Mx i1 (by omega) i3).symm)
      |done)
  |exact⟨hc,hu⟩
  |(refine⟨by omega,by omega,(Rw.eta (by first|assumption|exact Rw.sub (by first|assumption|exact Rw.sub (by assumption) (by omega) rfl) (by omega) rfl) (by omega) (by omega)).trans ?_⟩;rfl)
  |omega
  |exact .inr (by assumption)
  |exact .inl trivial
  |(rw[bD (by omega) (by omega),Co i0 (by assumption), <-i2])
  |(rw[Gy i0 (by assumption)];exact i2)
  |exact rfl
  |done
theorem l5 (cs us:List (List L))(hp:Rw [.sl [tI]] cs/\Rw [tB] us):aP Tryz.prog 69 [.agg [.s 1 cs,.s 1 us]] [.one (.v (.int .i64 (ufN cs us)))]:=by
 obtain⟨hc,hu⟩:=hp;have hm:=hu.1;unfold maxLen at hm;refine ai Ob0.B ag mixed 21 _ [3] [.tmp 2] Tryz.func69 rfl rfl rfl rfl rfl ?_;intro O r (F:Ob0.Fns) hO hr (hF:F=Ob0.F0);cbv
 repeat' first|refine And.intro ?_ ?_|(refine aG (fun hb=>?_) (fun hb=>?_)<;>cbv)|(refine⟨[3,10,11,12],[],Int×Int,fun s_=>match s_ with|(i,n)=>[.reg 12 (.one (.v (.int .i64 i))),.reg 3 (.one (.v (.int .i64 n)))],fun s_=>match s_ with|(i,n)=>0<=i/\i<=(us.length:Int)/\n=uN us i.toNat,fun s_=>match s_ with|(i,n)=>us.length-i.toNat,⟨(0,0),?_,?_⟩,?_⟩;rotate_left;(focus (cbv;done));intro s_ hi;obtain⟨i,n⟩:=s_;replace hi:0<=i/\i<=(us.length:Int)/\n=uN us i.toNat:=hi;obtain⟨i0,i1,i2⟩:=hi;cbv)|(refine aa (O.ar .add .i64 i 1,O.ar .add .i64 n 1) ?_ ?_ ?_;rotate_left 2;focus (cbv;done))|(refine aa (O.ar .add .i64 i 1,n) ?_ ?_ ?_;rotate_left 2;focus (cbv;done))
 all_goals(subst hO hr hF;(try simp only[af,SS,sa,az]at*);(try simp only[nc]at*);(try simp only[aF]at*))
 all_goals(try simp only[Ob0.F0]at*)
 all_goals try rw[bD (by omega) (by omega)]
 all_goals try(have un:=Ah (us:=us) (n:=i.toNat);have en:aV .add .i64 n 1=n+1:=aB (by omega);simp only[en])
 all_goals first
  | (show(_:List DV)=_
     first
      |exact bj (Kx (by assumption)).symm
      |exact bj (i2.trans (Gx (by assumption) i1 (by omega)).symm)
      |done)
  |exact⟨hc,hu⟩
  |(refine⟨by omega,by omega,(Rw.eta (by first|assumption|exact Rw.sub (by first|assumption|exact Rw.sub (by assumption) (by omega) rfl) (by omega) rfl) (by omega) (by omega)).trans ?_⟩;rfl)
  |omega
  |(rw[bD (by omega) (by omega),Co i0 (by assumption), <-i2])
  |(rw[Gy i0 (by assumption)];exact i2)
  |exact rfl
  |done
end Go.V