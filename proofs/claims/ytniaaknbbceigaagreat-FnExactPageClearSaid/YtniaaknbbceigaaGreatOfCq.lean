/-
  Contracts, by evaluation.
-/
import Derived.Test.YtniaaknbbceigaaGreatS10
import Derived.Test.YtniaaknbbceigaaGreatHB
import Derived.Test.YtniaaknbbceigaaGreatOfBq
set_option linter.all false
namespace Go.V
open Go Go.Proofs
set_option maxRecDepth 1000000
set_option maxHeartbeats 8000000
namespace Oc0
structure Fns where
 spOk:Int->Int->Int->Bool
 clsSz:Int->Int
 hsB:Int->Int->Bool
def F0 :Fns:=⟨spOk,clsSz,hsB⟩
def ct (F:Fns):CT:=fun f ds=>match f,ds with
 |216,[.agg [.v (.int .i64 p),.v (.int .i64 k),.v (.int .i64 b)]]=>some (fun _=>True,[.one (.v (.bool (F.spOk p k b)))])
 |200,[.agg [.v (.int .i64 p),.v (.int .i64 k),.v (.int .i64 b)]]=>some (fun _=>True,[.one (.v (.bool (F.spOk p k b)))])
 |95,[.one (.v (.int .i64 k))]=>some (fun _=>True,[.one (.v (.int .i64 (F.clsSz k)))])
 |76,[.one (.v (.int .i64 k))]=>some (fun _=>True,[.one (.v (.int .i64 (F.clsSz k)))])
 |189,[.one (.v (.int .i64 b)),.one (.v (.int .i64 i))]=>some (fun _=>True,[.one (.v (.bool (F.hsB b i)))])
 |75,[.one (.v (.int .i64 b)),.one (.v (.int .i64 i))]=>some (fun _=>True,[.one (.v (.bool (F.hsB b i)))])
 |_,_=>none
theorem ak :aW Tryz.prog (ct F0):=by
 intro f ds pre res h hp;unfold ct at h;split at h<;>(try split at h)<;>cases h
 exact ff _ _ _ hp;exact fq _ _ _ hp;exact bU _ hp;exact cd _ hp;exact gg _ _ hp;exact gr _ _ hp
def B :TB Tryz.prog:=tb ak
end Oc0
theorem ru (a0 a1 a2:List (List L))(a3:Int)(a4 a5 a6 a7 a8 a9 a10 a11:List (List L))(a12:Int)(a13:List (List L))(a14 a15 a16 a17:Int)(a18:Bool)(a19 a20:Int)(a21:List (List L))(a22 a23:Int)(hp:a2.length<=1073741824):aP Tryz.prog 91 [.agg [.s 1 a0,.s 1 a1,.s 2 a2,.v (.int .i64 a3),.s 1 a4,.s 2 a5,.s 3 a6,.s 3 a7,.s 4 a8,.s 1 a9,.s 1 a10,.s 1 a11,.v (.int .i64 a12),.s 3 a13,.v (.int .i64 a14),.v (.int .i64 a15),.v (.int .i64 a16),.v (.int .i64 a17),.v (.bool a18),.v (.int .i64 a19),.v (.int .i64 a20),.s 1 a21,.v (.int .i64 a22),.v (.int .i64 a23)]] [.one (.v (.int .i64 (zlI a2)))]:=by
 refine ai Oc0.B ag mixed 9 _ [3] [.tmp 2] Tryz.func91 rfl rfl rfl rfl rfl ?_;intro O r (F:Oc0.Fns) hO hr (hF:F=Oc0.F0);cbv
 repeat' first|refine And.intro ?_ ?_|(refine aG (fun hb=>?_) (fun hb=>?_)<;>cbv)
 all_goals(subst hO hr hF;(try simp only[af,SS,sa,az]at*);(try simp only[nc]at*);(try simp only[aF]at*))
 all_goals first|exact rfl|done
theorem ib (p k b:Int)(hp:True):aP Tryz.prog 181 [.agg [.v (.int .i64 p),.v (.int .i64 k),.v (.int .i64 b)]] [.one (.s 1 (sclL p k b))]:=by
 refine ai Oc0.B ag mixed 26 _ [31] [.tmp 2] Tryz.func181 rfl rfl rfl rfl rfl ?_;intro O r (F:Oc0.Fns) hO hr (hF:F=Oc0.F0);cbv
 repeat' first|refine And.intro ?_ ?_|(refine aG (fun hb=>?_) (fun hb=>?_)<;>cbv)|(refine⟨[1,3,4],[1,3],Int×List (List L),fun s_=>match s_ with|(i,o)=>[.reg 4 (.one (.v (.int .i64 i))),.reg 3 (.one (.vw 3 0 0 0 (O.ln o))),.leaf 3 0 ⟨0,0,none,.own (.s 1 o)⟩],fun s_=>match s_ with|(i,o)=>0<=i/\i<=16/\pk k b i o,fun s_=>match s_ with|(i,o)=>(16-i).toNat,⟨(0,[]),?_,?_⟩,?_⟩;rotate_left;(focus (cbv;done));intro s_ hi;obtain⟨i,o⟩:=s_;replace hi:0<=i/\i<=16/\pk k b i o:=hi;obtain⟨i0,i1,i2⟩:=hi;cbv)|(refine aa (O.ar .add .i64 i 1,O.cat o (O.sub [[.v (.int .i64 i)]] 0 (O.ln [[.v (.int .i64 i)]]))) ?_ ?_ ?_;rotate_left 2;focus (cbv;done))|(refine aa (O.ar .add .i64 i 1,o) ?_ ?_ ?_;rotate_left 2;focus (cbv;done))
 all_goals(subst hO hr hF;(try simp only[af,SS,sa,az]at*);(try simp only[nc]at*);(try simp only[aF]at*))
 all_goals(try simp only[Oc0.F0]at*)
 all_goals try rw[bD (by omega) (by omega)]
 all_goals(try have hs:spOk p k b=true:=(by assumption))
 all_goals(try have c1:=DW (fe hs).2.2.1)
 all_goals(try have qu:aV .quo .i64 i (clsSz k)=i/clsSz k:=k8 (by omega) (by omega) (by omega))
 all_goals(try have w1:=Ch i2 i0)
 all_goals first
  | (show(_:List DV)=_
     first
      |exact eQ (Cg i2 hs i1 (by omega))
      |exact eQ (Ko (by assumption)).symm
      |done)
  |omega
  |(show aK _ _=true;kernel_rfl)
  |exact yr i2 i0 (by rw[<-qu];assumption)
  |exact Cj i2 i0 (by rw[<-qu];assumption)
  |exact Ge
  |(constructor<;>(simp only[List.length_cons,List.length_nil];omega))
  |exact⟨True.intro,True.intro⟩
  |done
theorem nU (p k b:Int)(hp:True):aP Tryz.prog 186 [.agg [.v (.int .i64 p),.v (.int .i64 k),.v (.int .i64 b)]] [.one (.s 1 (sclL p k b))]:=by
 refine ai Oc0.B ag mixed 27 _ [31] [.tmp 2] Tryz.func186 rfl rfl rfl rfl rfl ?_;intro O r (F:Oc0.Fns) hO hr (hF:F=Oc0.F0);cbv
 repeat' first|refine And.intro ?_ ?_|(refine aG (fun hb=>?_) (fun hb=>?_)<;>cbv)|(refine⟨[1,3,4],[1,3],Int×List (List L),fun s_=>match s_ with|(i,o)=>[.reg 4 (.one (.v (.int .i64 i))),.reg 3 (.one (.vw 3 0 0 0 (O.ln o))),.leaf 3 0 ⟨0,0,none,.own (.s 1 o)⟩],fun s_=>match s_ with|(i,o)=>0<=i/\i<=16/\pk k b i o/\(i=0\/spOk p k b=true),fun s_=>match s_ with|(i,o)=>(16-i).toNat,⟨(0,[]),?_,?_⟩,?_⟩;rotate_left;(focus (cbv;done));intro s_ hi;obtain⟨i,o⟩:=s_;replace hi:0<=i/\i<=16/\pk k b i o/\(i=0\/spOk p k b=true):=hi;obtain⟨i0,i1,i2,i3⟩:=hi;cbv)|(refine aa (O.ar .add .i64 i 1,O.cat o (O.sub [[.v (.int .i64 i)]] 0 (O.ln [[.v (.int .i64 i)]]))) ?_ ?_ ?_;rotate_left 2;focus (cbv;done))|(refine aa (O.ar .add .i64 i 1,o) ?_ ?_ ?_;rotate_left 2;focus (cbv;done))
 all_goals(subst hO hr hF;(try simp only[af,SS,sa,az]at*);(try simp only[nc]at*);(try simp only[aF]at*))
 all_goals(try simp only[Oc0.F0]at*)
 all_goals try rw[bD (by omega) (by omega)]
 all_goals(try have hs:spOk p k b=true:=(by assumption))
 all_goals(try have c1:=DW (fe hs).2.2.1)
 all_goals(try have qu:aV .quo .i64 i (clsSz k)=i/clsSz k:=k8 (by omega) (by omega) (by omega))
 all_goals(try have w1:=Ch i2 i0)
 all_goals first
  | (show(_:List DV)=_
     first
      |exact eQ (Ci i2 i3 i1 (.inl (by omega)))
      |exact eQ (Ci i2 i3 i1 (.inr (by assumption)))
      |done)
  |omega
  |(show aK _ _=true;kernel_rfl)
  |exact yr i2 i0 (by rw[<-qu];assumption)
  |exact Cj i2 i0 (by rw[<-qu];assumption)
  |exact Ge
  |exact .inr (by assumption)
  |exact .inl trivial
  |(constructor<;>(simp only[List.length_cons,List.length_nil];omega))
  |exact⟨True.intro,True.intro⟩
  |done
namespace Oc1
structure Fns where
 sclL:Int->Int->Int->List (List L)
 layOk:List (List L)->List (List L)->Bool
def F0 :Fns:=⟨sclL,layOk⟩
def ct (F:Fns):CT:=fun f ds=>match f,ds with
 |181,[.agg [.v (.int .i64 p),.v (.int .i64 k),.v (.int .i64 b)]]=>some (fun _=>True,[.one (.s 1 (F.sclL p k b))])
 |186,[.agg [.v (.int .i64 p),.v (.int .i64 k),.v (.int .i64 b)]]=>some (fun _=>True,[.one (.s 1 (F.sclL p k b))])
 |144,[.one (.s 3 sp),.one (.s 3 lg)]=>some (fun _=>Rw [tI,tI,tI] sp/\Rw [tI,tI,tI] lg/\sp.length<=1073741824/\lg.length<=1073741824,[.one (.v (.bool (F.layOk sp lg)))])
 |120,[.one (.s 3 sp),.one (.s 3 lg)]=>some (fun _=>Rw [tI,tI,tI] sp/\Rw [tI,tI,tI] lg/\sp.length<=1073741824/\lg.length<=1073741824,[.one (.v (.bool (F.layOk sp lg)))])
 |_,_=>none
theorem ak :aW Tryz.prog (ct F0):=by
 intro f ds pre res h hp;unfold ct at h;split at h<;>(try split at h)<;>cases h
 exact ib _ _ _ hp;exact nU _ _ _ hp;exact fN _ _ hp;exact ed _ _ hp
def B :TB Tryz.prog:=tb ak
end Oc1
theorem ny (sp lg:List (List L))(hp:Rw [tI,tI,tI] sp/\Rw [tI,tI,tI] lg/\sp.length<=1073741824/\lg.length<=1073741824):aP Tryz.prog 92 [.one (.s 3 sp),.one (.s 3 lg)] [.one (.v (.int .i64 (lcI sp lg)))]:=by
 obtain⟨hs,hl,ns,nl⟩:=hp;refine ai Oc1.B ag mixed 38 _ [3] [.tmp 4] Tryz.func92 rfl rfl rfl rfl rfl ?_;intro O r (F:Oc1.Fns) hO hr (hF:F=Oc1.F0);cbv
 repeat' first|refine And.intro ?_ ?_|(refine aG (fun hb=>?_) (fun hb=>?_)<;>cbv)|(refine⟨[1,5,14,15,16],[],Int×Int,fun s_=>match s_ with|(i,n)=>[.reg 16 (.one (.v (.int .i64 i))),.reg 5 (.one (.v (.int .i64 n)))],fun s_=>match s_ with|(i,n)=>0<=i/\i<=(sp.length:Int)/\xF sp i n,fun s_=>match s_ with|(i,n)=>sp.length-i.toNat,⟨(0,0),?_,?_⟩,?_⟩;rotate_left;(focus (cbv;done));intro s_ hi;obtain⟨i,n⟩:=s_;replace hi:0<=i/\i<=(sp.length:Int)/\xF sp i n:=hi;obtain⟨i0,i1,i2⟩:=hi;cbv)|(refine⟨[5,26,27,28],[],Int×Int,fun s_=>match s_ with|(j,m)=>[.reg 28 (.one (.v (.int .i64 j))),.reg 5 (.one (.v (.int .i64 m)))],fun s_=>match s_ with|(j,m)=>0<=j/\j<=(lg.length:Int)/\xD sp lg j m,fun s_=>match s_ with|(j,m)=>lg.length-j.toNat,⟨(0,n),?_,?_⟩,?_⟩;rotate_left;(focus (cbv;done));intro s_ hj;obtain⟨j,m⟩:=s_;replace hj:0<=j/\j<=(lg.length:Int)/\xD sp lg j m:=hj;obtain⟨j0,j1,j2⟩:=hj;cbv)|(refine aa (O.ar .add .i64 i 1,O.ar .add .i64 n (O.zi (O.ln (F.sclL (O.gi sp i 0) (O.gi sp i 1) (O.gi sp i 2))))) ?_ ?_ ?_;rotate_left 2;focus (cbv;done))|(refine aa (O.ar .add .i64 j 1,O.ar .add .i64 m (O.gi lg j 2)) ?_ ?_ ?_;rotate_left 2;focus (cbv;done))
 all_goals(subst hO hr hF;(try simp only[af,SS,sa,az]at*);(try simp only[nc]at*);(try simp only[aF]at*))
 all_goals(try simp only[Oc1.F0]at*)
 all_goals try rw[bD (by omega) (by omega)]
 all_goals first
  | (show(_:List DV)=_
     first
      |exact bj (Jy (by assumption)).symm
      |exact bj (Bi j2 (by assumption) j1 (by omega))
      |done)
  |omega
  |(refine⟨by omega,by omega,(Rw.eta (by first|assumption|exact Rw.sub (by first|assumption|exact Rw.sub (by assumption) (by omega) rfl) (by omega) rfl) (by omega) (by omega)).trans ?_⟩;rfl)
  |exact⟨hs,hl,ns,nl⟩
  |exact Gf i2 i0 (by omega)
  |exact ES j2 (Bl (by assumption)) j0 (by omega) (by omega) (by omega)
  |exact Kp
  |exact JC i2 i1 (by omega)
  |done
theorem nR (sp lg:List (List L))(hp:Rw [tI,tI,tI] sp/\Rw [tI,tI,tI] lg/\sp.length<=1073741824/\lg.length<=1073741824):aP Tryz.prog 86 [.one (.s 3 sp),.one (.s 3 lg)] [.one (.v (.int .i64 (lcI sp lg)))]:=by
 obtain⟨hs,hl,ns,nl⟩:=hp;refine ai Oc1.B ag mixed 40 _ [3] [.tmp 4] Tryz.func86 rfl rfl rfl rfl rfl ?_;intro O r (F:Oc1.Fns) hO hr (hF:F=Oc1.F0);cbv
 repeat' first|refine And.intro ?_ ?_|(refine aG (fun hb=>?_) (fun hb=>?_)<;>cbv)|(refine⟨[0,1,5,6],[],Int×Int,fun s_=>match s_ with|(i,n)=>[.reg 6 (.one (.v (.int .i64 i))),.reg 5 (.one (.v (.int .i64 n)))],fun s_=>match s_ with|(i,n)=>0<=i/\i<=(sp.length:Int)/\xF sp i n,fun s_=>match s_ with|(i,n)=>sp.length-i.toNat,⟨(0,0),?_,?_⟩,?_⟩;rotate_left;(focus (cbv;done));intro s_ hi;obtain⟨i,n⟩:=s_;replace hi:0<=i/\i<=(sp.length:Int)/\xF sp i n:=hi;obtain⟨i0,i1,i2⟩:=hi;cbv)|(refine⟨[1,5,7],[],Int×Int,fun s_=>match s_ with|(j,m)=>[.reg 7 (.one (.v (.int .i64 j))),.reg 5 (.one (.v (.int .i64 m)))],fun s_=>match s_ with|(j,m)=>0<=j/\j<=(lg.length:Int)/\xD sp lg j m,fun s_=>match s_ with|(j,m)=>lg.length-j.toNat,⟨(0,n),?_,?_⟩,?_⟩;rotate_left;(focus (cbv;done));intro s_ hj;obtain⟨j,m⟩:=s_;replace hj:0<=j/\j<=(lg.length:Int)/\xD sp lg j m:=hj;obtain⟨j0,j1,j2⟩:=hj;cbv)|(refine aa (O.ar .add .i64 i 1,O.ar .add .i64 n (O.zi (O.ln (F.sclL (O.gi sp i 0) (O.gi sp i 1) (O.gi sp i 2))))) ?_ ?_ ?_;rotate_left 2;focus (cbv;done))|(refine aa (O.ar .add .i64 j 1,O.ar .add .i64 m (O.gi lg j 2)) ?_ ?_ ?_;rotate_left 2;focus (cbv;done))
 all_goals(subst hO hr hF;(try simp only[af,SS,sa,az]at*);(try simp only[nc]at*);(try simp only[aF]at*))
 all_goals(try simp only[Oc1.F0]at*)
 all_goals try rw[bD (by omega) (by omega)]
 all_goals first
  | (show(_:List DV)=_
     first
      |exact bj (Jy (by assumption)).symm
      |exact bj (Bi j2 (by assumption) j1 (by omega))
      |done)
  |omega
  |(refine⟨by omega,by omega,(Rw.eta (by first|assumption|exact Rw.sub (by first|assumption|exact Rw.sub (by assumption) (by omega) rfl) (by omega) rfl) (by omega) (by omega)).trans ?_⟩;rfl)
  |exact⟨hs,hl,ns,nl⟩
  |exact Gf i2 i0 (by omega)
  |exact ES j2 (Bl (by assumption)) j0 (by omega) (by omega) (by omega)
  |exact Kp
  |exact JC i2 i1 (by omega)
  |done
namespace Oc2
structure Fns where
 caOk:List (List L)->Bool
 clsSz:Int->Int
def F0 :Fns:=⟨caOk,clsSz⟩
def ct (F:Fns):CT:=fun f ds=>match f,ds with
 |148,[.agg [.s 1 ls]]=>some (fun _=>Az ls,[.one (.v (.bool (F.caOk ls)))])
 |125,[.agg [.s 1 ls]]=>some (fun _=>Az ls,[.one (.v (.bool (F.caOk ls)))])
 |95,[.one (.v (.int .i64 k))]=>some (fun _=>True,[.one (.v (.int .i64 (F.clsSz k)))])
 |76,[.one (.v (.int .i64 k))]=>some (fun _=>True,[.one (.v (.int .i64 (F.clsSz k)))])
 |_,_=>none
theorem ak :aW Tryz.prog (ct F0):=by
 intro f ds pre res h hp;unfold ct at h;split at h<;>(try split at h)<;>cases h
 exact jL _ hp;exact jP _ hp;exact bU _ hp;exact cd _ hp
def B :TB Tryz.prog:=tb ak
end Oc2
theorem lV (ls:List (List L))(hp:Az ls):aP Tryz.prog 96 [.agg [.s 1 ls]] [.one (.v (.int .i64 (ceC ls)))]:=by
 have hw:=hp.w;have hl:=hp.l;refine ai Oc2.B ag mixed 26 _ [3] [.tmp 2] Tryz.func96 rfl rfl rfl rfl rfl ?_;intro O r (F:Oc2.Fns) hO hr (hF:F=Oc2.F0);cbv
 repeat' first|refine And.intro ?_ ?_|(refine aG (fun hb=>?_) (fun hb=>?_)<;>cbv)|(refine⟨[3,10,11,12],[],Int×Int,fun s_=>match s_ with|(i,t)=>[.reg 12 (.one (.v (.int .i64 i))),.reg 3 (.one (.v (.int .i64 t)))],fun s_=>match s_ with|(i,t)=>0<=i/\i<=(ls.length:Int)/\vD ls i t,fun s_=>match s_ with|(i,t)=>ls.length-i.toNat,⟨(0,0),?_,?_⟩,?_⟩;rotate_left;(focus (cbv;done));intro s_ hi;obtain⟨i,t⟩:=s_;replace hi:0<=i/\i<=(ls.length:Int)/\vD ls i t:=hi;obtain⟨i0,i1,i2⟩:=hi;cbv)|(refine aa (O.ar .add .i64 i 1,O.ar .add .i64 t (O.ar .mul .i64 (O.zi (O.ln (O.gs ls i 0))) (F.clsSz i))) ?_ ?_ ?_;rotate_left 2;focus (cbv;done))
 all_goals(subst hO hr hF;(try simp only[af,SS,sa,az]at*);(try simp only[nc]at*);(try simp only[aF]at*))
 all_goals(try simp only[Oc2.F0]at*)
 all_goals try rw[bD (by omega) (by omega)]
 all_goals first
  | (show(_:List DV)=_
     first
      |exact bj (AK i2 (by assumption) i1 (by omega))
      |exact bj (I0 (by assumption)).symm
      |done)
  |omega
  |(refine⟨by omega,by omega,(Rw.eta (by first|assumption|exact Rw.sub (by first|assumption|exact Rw.sub (by assumption) (by omega) rfl) (by omega) rfl) (by omega) (by omega)).trans ?_⟩;rfl)
  |exact DJ i2 (by assumption) i0 (by assumption)
  |exact I1
  |done
theorem mi (ls:List (List L))(hp:Az ls):aP Tryz.prog 88 [.agg [.s 1 ls]] [.one (.v (.int .i64 (ceC ls)))]:=by
 have hw:=hp.w;have hl:=hp.l;refine ai Oc2.B ag mixed 28 _ [3] [.tmp 2] Tryz.func88 rfl rfl rfl rfl rfl ?_;intro O r (F:Oc2.Fns) hO hr (hF:F=Oc2.F0);cbv
 repeat' first|refine And.intro ?_ ?_|(refine aG (fun hb=>?_) (fun hb=>?_)<;>cbv)|(refine⟨[1,3,4],[1],Int×Int,fun s_=>match s_ with|(i,t)=>[.reg 4 (.one (.v (.int .i64 i))),.reg 3 (.one (.v (.int .i64 t)))],fun s_=>match s_ with|(i,t)=>0<=i/\i<=(ls.length:Int)/\vD ls i t/\(i=0\/caOk ls=true),fun s_=>match s_ with|(i,t)=>ls.length-i.toNat,⟨(0,0),?_,?_⟩,?_⟩;rotate_left;(focus (cbv;done));intro s_ hi;obtain⟨i,t⟩:=s_;replace hi:0<=i/\i<=(ls.length:Int)/\vD ls i t/\(i=0\/caOk ls=true):=hi;obtain⟨i0,i1,i2,i3⟩:=hi;cbv)|(refine aa (O.ar .add .i64 i 1,O.ar .add .i64 t (O.ar .mul .i64 (O.zi (O.ln (O.gs ls i 0))) (F.clsSz i))) ?_ ?_ ?_;rotate_left 2;focus (cbv;done))
 all_goals(subst hO hr hF;(try simp only[af,SS,sa,az]at*);(try simp only[nc]at*);(try simp only[aF]at*))
 all_goals(try simp only[Oc2.F0]at*)
 all_goals try rw[bD (by omega) (by omega)]
 all_goals first
  | (show(_:List DV)=_
     first
      |exact bj (AL i2 i3 i1 (.inl (by omega)))
      |exact bj (AL i2 i3 i1 (.inr (by assumption)))
      |done)
  |omega
  |(refine⟨by omega,by omega,(Rw.eta (by first|assumption|exact Rw.sub (by first|assumption|exact Rw.sub (by assumption) (by omega) rfl) (by omega) rfl) (by omega) (by omega)).trans ?_⟩;rfl)
  |(show aK _ _=true;kernel_rfl)
  |exact DJ i2 (by assumption) i0 (by assumption)
  |exact I1
  |exact .inr (by assumption)
  |exact .inl trivial
  |done
namespace Oc3
structure Fns where
 hpI:List (List L)->List (List L)->List (List L)->Int->List (List L)->List (List L)->List (List L)->List (List L)->List (List L)->List (List L)->List (List L)->List (List L)->Int->List (List L)->Int->Int->Int->Int->Bool->Int->Int->List (List L)->Int->Int->Bool
 zlI:List (List L)->Int
 mpT:List (List L)->Int
 ufN:List (List L)->List (List L)->Int
 lcI:List (List L)->List (List L)->Int
 qcI:List (List L)->Int
 clsOf:Int->Int
 clsSz:Int->Int
 ceC:List (List L)->Int
 ifL:List (List L)->List (List L)->List (List L)
 dnK:List (List L)->List (List L)->Int->Int
 dnI:List (List L)->List (List L)->Int->Int
 dnS:List (List L)->Int->Int
 dnO:List (List L)->List (List L)->Int->Int
 spI:List (List L)->Int->Int
def F0 :Fns:=⟨hpI,zlI,mpT,ufN,lcI,qcI,clsOf,clsSz,ceC,ifL,dnK,dnI,dnS,dnO,spI⟩
def ct (F:Fns):CT:=fun f ds=>match f with
 | 55=>match ds with
   |[.agg [.s 1 a0,.s 1 a1,.s 2 a2,.v (.int .i64 a3),.s 1 a4,.s 2 a5,.s 3 a6,.s 3 a7,.s 4 a8,.s 1 a9,.s 1 a10,.s 1 a11,.v (.int .i64 a12),.s 3 a13,.v (.int .i64 a14),.v (.int .i64 a15),.v (.int .i64 a16),.v (.int .i64 a17),.v (.bool a18),.v (.int .i64 a19),.v (.int .i64 a20),.s 1 a21,.v (.int .i64 a22),.v (.int .i64 a23)]]=>some (fun _=>jC a0 a1 a2 a4 a5 a6 a7 a8 a9 a10 a11 a13 a21,[.one (.v (.bool (F.hpI a0 a1 a2 a3 a4 a5 a6 a7 a8 a9 a10 a11 a12 a13 a14 a15 a16 a17 a18 a19 a20 a21 a22 a23)))])
   |_=>none
 | 44=>match ds with
   |[.agg [.s 1 a0,.s 1 a1,.s 2 a2,.v (.int .i64 a3),.s 1 a4,.s 2 a5,.s 3 a6,.s 3 a7,.s 4 a8,.s 1 a9,.s 1 a10,.s 1 a11,.v (.int .i64 a12),.s 3 a13,.v (.int .i64 a14),.v (.int .i64 a15),.v (.int .i64 a16),.v (.int .i64 a17),.v (.bool a18),.v (.int .i64 a19),.v (.int .i64 a20),.s 1 a21,.v (.int .i64 a22),.v (.int .i64 a23)]]=>some (fun _=>jC a0 a1 a2 a4 a5 a6 a7 a8 a9 a10 a11 a13 a21,[.one (.v (.bool (F.hpI a0 a1 a2 a3 a4 a5 a6 a7 a8 a9 a10 a11 a12 a13 a14 a15 a16 a17 a18 a19 a20 a21 a22 a23)))])
   |_=>none
 | 91=>match ds with
   |[.agg [.s 1 a0,.s 1 a1,.s 2 a2,.v (.int .i64 a3),.s 1 a4,.s 2 a5,.s 3 a6,.s 3 a7,.s 4 a8,.s 1 a9,.s 1 a10,.s 1 a11,.v (.int .i64 a12),.s 3 a13,.v (.int .i64 a14),.v (.int .i64 a15),.v (.int .i64 a16),.v (.int .i64 a17),.v (.bool a18),.v (.int .i64 a19),.v (.int .i64 a20),.s 1 a21,.v (.int .i64 a22),.v (.int .i64 a23)]]=>some (fun _=>a2.length<=1073741824,[.one (.v (.int .i64 (F.zlI a2)))])
   |_=>none
 | 68=>match ds with
   |[.agg [.s 2 es]]=>some (fun _=>Rw [tI,tI] es/\es.length<=1099511627776,[.one (.v (.int .i64 (F.mpT es)))])
   |_=>none
 | 66=>match ds with
   |[.agg [.s 2 es]]=>some (fun _=>Rw [tI,tI] es/\es.length<=1099511627776,[.one (.v (.int .i64 (F.mpT es)))])
   |_=>none
 | 69=>match ds with
   |[.agg [.s 1 cs,.s 1 us]]=>some (fun _=>Rw [.sl [tI]] cs/\Rw [tB] us,[.one (.v (.int .i64 (F.ufN cs us)))])
   |_=>none
 | 67=>match ds with
   |[.agg [.s 1 cs,.s 1 us]]=>some (fun _=>Rw [.sl [tI]] cs/\Rw [tB] us,[.one (.v (.int .i64 (F.ufN cs us)))])
   |_=>none
 | 92=>match ds with
   |[.one (.s 3 sp),.one (.s 3 lg)]=>some (fun _=>Rw [tI,tI,tI] sp/\Rw [tI,tI,tI] lg/\sp.length<=1073741824/\lg.length<=1073741824,[.one (.v (.int .i64 (F.lcI sp lg)))])
   |_=>none
 | 86=>match ds with
   |[.one (.s 3 sp),.one (.s 3 lg)]=>some (fun _=>Rw [tI,tI,tI] sp/\Rw [tI,tI,tI] lg/\sp.length<=1073741824/\lg.length<=1073741824,[.one (.v (.int .i64 (F.lcI sp lg)))])
   |_=>none
 | 93=>match ds with
   |[.one (.s 3 qs)]=>some (fun _=>Rw [tI,tI,tI] qs/\qs.length<=1073741824,[.one (.v (.int .i64 (F.qcI qs)))])
   |_=>none
 | 89=>match ds with
   |[.one (.s 3 qs)]=>some (fun _=>Rw [tI,tI,tI] qs/\qs.length<=1073741824,[.one (.v (.int .i64 (F.qcI qs)))])
   |_=>none
 | 94=>match ds with
   |[.one (.v (.int .i64 s))]=>some (fun _=>True,[.one (.v (.int .i64 (F.clsOf s)))])
   |_=>none
 | 87=>match ds with
   |[.one (.v (.int .i64 s))]=>some (fun _=>True,[.one (.v (.int .i64 (F.clsOf s)))])
   |_=>none
 | 95=>match ds with
   |[.one (.v (.int .i64 k))]=>some (fun _=>True,[.one (.v (.int .i64 (F.clsSz k)))])
   |_=>none
 | 76=>match ds with
   |[.one (.v (.int .i64 k))]=>some (fun _=>True,[.one (.v (.int .i64 (F.clsSz k)))])
   |_=>none
 | 96=>match ds with
   |[.agg [.s 1 ls]]=>some (fun _=>Az ls,[.one (.v (.int .i64 (F.ceC ls)))])
   |_=>none
 | 88=>match ds with
   |[.agg [.s 1 ls]]=>some (fun _=>Az ls,[.one (.v (.int .i64 (F.ceC ls)))])
   |_=>none
 | 97=>match ds with
   |[.agg [.s 1 b,.s 1 x]]=>some (fun _=>uV b x,[.one (.s 1 (F.ifL b x))])
   |_=>none
 | 90=>match ds with
   |[.agg [.s 1 b,.s 1 x]]=>some (fun _=>uV b x,[.one (.s 1 (F.ifL b x))])
   |_=>none
 | 98=>match ds with
   |[.one (.s 3 sp),.one (.s 3 lg),.one (.v (.int .i64 a))]=>some (fun _=>Rw [tI,tI,tI] sp/\Rw [tI,tI,tI] lg,[.agg [.v (.int .i64 (F.dnK sp lg a)),.v (.int .i64 (F.dnI sp lg a)),.v (.int .i64 (F.dnS sp a)),.v (.int .i64 (F.dnO sp lg a))]])
   |_=>none
 | 73=>match ds with
   |[.agg [.s 1 a0,.s 1 a1,.s 2 a2,.v (.int .i64 a3),.s 1 a4,.s 2 a5,.s 3 a6,.s 3 a7,.s 4 a8,.s 1 a9,.s 1 a10,.s 1 a11,.v (.int .i64 a12),.s 3 a13,.v (.int .i64 a14),.v (.int .i64 a15),.v (.int .i64 a16),.v (.int .i64 a17),.v (.bool a18),.v (.int .i64 a19),.v (.int .i64 a20),.s 1 a21,.v (.int .i64 a22),.v (.int .i64 a23)],.one (.v (.int .i64 pg))]=>some (fun _=>Rw [tI,tI,tI] a6/\a6.length<=1099511627776,[.one (.v (.int .i64 (F.spI a6 pg)))])
   |_=>none
 |_=>none
theorem ak :aW Tryz.prog (ct F0):=by
 intro f ds pre res h hp;unfold ct at h;split at h<;>(try split at h)<;>cases h
 exact dF _ _ _ _ _ _ _ _ _ _ _ _ _ _ _ _ _ _ _ _ _ _ _ _ hp;exact fo _ _ _ _ _ _ _ _ _ _ _ _ _ _ _ _ _ _ _ _ _ _ _ _ hp;exact ru _ _ _ _ _ _ _ _ _ _ _ _ _ _ _ _ _ _ _ _ _ _ _ _ hp;exact lm _ hp;exact lu _ hp;exact l5 _ _ hp;exact mj _ _ hp;exact ny _ _ hp;exact nR _ _ hp;exact ic _ hp;exact jp _ hp;exact jM _ hp;exact jQ _ hp;exact bU _ hp;exact cd _ hp;exact lV _ hp;exact mi _ hp;exact ji _ _ hp;exact jn _ _ hp;exact gj _ _ _ hp;exact ft _ _ _ _ _ _ _ _ _ _ _ _ _ _ _ _ _ _ _ _ _ _ _ _ _ hp
def B :TB Tryz.prog:=tb ak
end Oc3
theorem nq (a0 a1 a2:List (List L))(a3:Int)(a4 a5 a6 a7 a8 a9 a10 a11:List (List L))(a12:Int)(a13:List (List L))(a14 a15 a16 a17:Int)(a18:Bool)(a19 a20:Int)(a21:List (List L))(a22 a23:Int)(hp:jC a0 a1 a2 a4 a5 a6 a7 a8 a9 a10 a11 a13 a21):aP Tryz.prog 27 [.agg [.s 1 a0,.s 1 a1,.s 2 a2,.v (.int .i64 a3),.s 1 a4,.s 2 a5,.s 3 a6,.s 3 a7,.s 4 a8,.s 1 a9,.s 1 a10,.s 1 a11,.v (.int .i64 a12),.s 3 a13,.v (.int .i64 a14),.v (.int .i64 a15),.v (.int .i64 a16),.v (.int .i64 a17),.v (.bool a18),.v (.int .i64 a19),.v (.int .i64 a20),.s 1 a21,.v (.int .i64 a22),.v (.int .i64 a23)]] [.agg [.v (.int .i64 (ifZ (hpI a0 a1 a2 a3 a4 a5 a6 a7 a8 a9 a10 a11 a12 a13 a14 a15 a16 a17 a18 a19 a20 a21 a22 a23) (zlI a2))),.v (.int .i64 (ifZ (hpI a0 a1 a2 a3 a4 a5 a6 a7 a8 a9 a10 a11 a12 a13 a14 a15 a16 a17 a18 a19 a20 a21 a22 a23) (mpT a2))),.v (.int .i64 (ifZ (hpI a0 a1 a2 a3 a4 a5 a6 a7 a8 a9 a10 a11 a12 a13 a14 a15 a16 a17 a18 a19 a20 a21 a22 a23) (ufN a0 a1))),.v (.int .i64 (ifZ (hpI a0 a1 a2 a3 a4 a5 a6 a7 a8 a9 a10 a11 a12 a13 a14 a15 a16 a17 a18 a19 a20 a21 a22 a23) (lcI a6 a7))),.v (.int .i64 (ifZ (hpI a0 a1 a2 a3 a4 a5 a6 a7 a8 a9 a10 a11 a12 a13 a14 a15 a16 a17 a18 a19 a20 a21 a22 a23) (ocT a8))),.v (.int .i64 (ifZ (hpI a0 a1 a2 a3 a4 a5 a6 a7 a8 a9 a10 a11 a12 a13 a14 a15 a16 a17 a18 a19 a20 a21 a22 a23) (acT a9))),.v (.int .i64 (ifZ (hpI a0 a1 a2 a3 a4 a5 a6 a7 a8 a9 a10 a11 a12 a13 a14 a15 a16 a17 a18 a19 a20 a21 a22 a23) (qcI a13))),.v (.int .i64 (ifZ (hpI a0 a1 a2 a3 a4 a5 a6 a7 a8 a9 a10 a11 a12 a13 a14 a15 a16 a17 a18 a19 a20 a21 a22 a23) (poT a6 a7 a10 a11)))]]:=by
 have N:=hp.n;have how:=N.ow;have hcw:=N.cw;have hsw:=N.sw;have hfw:=xX N.m;have hol:=N.ol;have hlc:=fy (es:=a9);have hcl:=N.cl;have hel:=hp.el;have w5:=sO (b:=a10) (x:=a11);refine ai Oc3.B ag mixed 103 _ [97] [.cell 2 97] Tryz.func27 rfl rfl rfl rfl rfl ?_;intro O r (F:Oc3.Fns) hO hr (hF:F=Oc3.F0);cbv
 repeat' first|refine And.intro ?_ ?_|(refine aG (fun hb=>?_) (fun hb=>?_)<;>cbv)|(refine⟨[1,2,3,38,39,40],[1,2,3],Int×Int,fun s_=>match s_ with|(i,t)=>[.reg 40 (.one (.v (.int .i64 i))),.leaf 3 4 ⟨0,0,none,.own (.v (.int .i64 t))⟩],fun s_=>match s_ with|(i,t)=>0<=i/\i<=(a8.length:Int)/\GL a8 i t,fun s_=>match s_ with|(i,t)=>a8.length-i.toNat,⟨(0,0),?_,?_⟩,?_⟩;rotate_left;(focus (cbv;done));intro s_ hi;obtain⟨i,t⟩:=s_;replace hi:0<=i/\i<=(a8.length:Int)/\GL a8 i t:=hi;obtain⟨i0,i1,i2⟩:=hi;cbv)|(refine⟨[1,2,3,63,64,65],[1,2,3],Int×Int,fun s_=>match s_ with|(j,u)=>[.reg 65 (.one (.v (.int .i64 j))),.leaf 3 5 ⟨0,0,none,.own (.v (.int .i64 u))⟩],fun s_=>match s_ with|(j,u)=>0<=j/\j<=(a9.length:Int)/\Iw a9 j u,fun s_=>match s_ with|(j,u)=>a9.length-j.toNat,⟨(0,0),?_,?_⟩,?_⟩;rotate_left;(focus (cbv;done));intro s_ hj;obtain⟨j,u⟩:=s_;replace hj:0<=j/\j<=(a9.length:Int)/\Iw a9 j u:=hj;obtain⟨j0,j1,j2⟩:=hj;cbv)|(refine⟨[1,2,3,78,79,80],[1,2,3,78],Int×Int,fun s_=>match s_ with|(k,v)=>[.reg 80 (.one (.v (.int .i64 k))),.leaf 3 7 ⟨0,0,none,.own (.v (.int .i64 v))⟩],fun s_=>match s_ with|(k,v)=>0<=k/\k<=((ifL a10 a11).length:Int)/\IF a6 a7 (ifL a10 a11) k v,fun s_=>match s_ with|(k,v)=>(ifL a10 a11).length-k.toNat,⟨(0,0),?_,?_⟩,?_⟩;rotate_left;(focus (cbv;done));intro s_ hk;obtain⟨k,v⟩:=s_;replace hk:0<=k/\k<=((ifL a10 a11).length:Int)/\IF a6 a7 (ifL a10 a11) k v:=hk;obtain⟨k0,k1,k2⟩:=hk;cbv)|(refine aa (O.ar .add .i64 i 1,O.ar .add .i64 t (F.clsSz (F.clsOf (O.gi a8 i 2)))) ?_ ?_ ?_;rotate_left 2;focus (cbv;done))|(refine aa (O.ar .add .i64 i 1,O.ar .add .i64 t (O.gi a8 i 2)) ?_ ?_ ?_;rotate_left 2;focus (cbv;done))|(refine aa (O.ar .add .i64 j 1,O.ar .add .i64 u (F.ceC (O.gs a9 j 0))) ?_ ?_ ?_;rotate_left 2;focus (cbv;done))|(refine aa (O.ar .add .i64 k 1,O.ar .add .i64 v (F.clsSz (O.gi a6 (F.dnI a6 a7 (O.pi (.s 1 (F.ifL a10 a11)) [(O.ad 0 k,0)])) 1))) ?_ ?_ ?_;rotate_left 2;focus (cbv;done))
 all_goals(subst hO hr hF;(try simp only[af,SS,sa,az]at*);(try simp only[nc]at*);(try simp only[aF]at*))
 all_goals(try simp only[Oc3.F0]at*)
 all_goals try rw[bD (by omega) (by omega)]
 all_goals(try simp only[fP k0]at*)
 all_goals(try have hok:hpI a0 a1 a2 a3 a4 a5 a6 a7 a8 a9 a10 a11 a12 a13 a14 a15 a16 a17 a18 a19 a20 a21 a22 a23=true:=(by assumption))
 all_goals(try have T:=oV hok)
 all_goals(try have B:=zO N.ow (by omega) hok)
 all_goals(try have fa:=Ke (Bl T.l) T.h k0 (by assumption))
 all_goals first
  | (show(_:List DV)=_
     first
      |(have z:hpI a0 a1 a2 a3 a4 a5 a6 a7 a8 a9 a10 a11 a12 a13 a14 a15 a16 a17 a18 a19 a20 a21 a22 a23=false:=(by assumption);exact AC (fR z).symm (fR z).symm (fR z).symm (fR z).symm (fR z).symm (fR z).symm (fR z).symm (fR z).symm)
      |exact AC (fS hok).symm (fS hok).symm (fS hok).symm (fS hok).symm ((BB i2 i1 (by omega)).trans (fS hok).symm) ((AD j2 j1 (by omega)).trans (fS hok).symm) (fS hok).symm ((BN k2 k1 (by omega)).trans (fS hok).symm)
      |done)
  |omega
  |(refine⟨by omega,by omega,(Rw.eta (by first|assumption|exact Rw.sub (by first|assumption|exact Rw.sub (by assumption) (by omega) rfl) (by omega) rfl) (by omega) (by omega)).trans ?_⟩;rfl)
  |(show aK _ _=true;kernel_rfl)
  |exact⟨hp.e,by omega⟩
  |exact⟨hp.c,hp.u⟩
  |exact⟨N.sw,N.lw,N.sl,N.ll⟩
  |exact⟨N.qw,N.ql⟩
  |exact N.m
  |exact⟨N.sw,N.lw⟩
  |exact N.c.n j j0 (by assumption)
  |exact BC B hol i2 i0 (by assumption) (by assumption)
  |exact Fo B hol i2 i0 (by assumption) (by omega)
  |exact JS
  |exact Di j2 j0 (by omega)
  |exact IL
  |exact kZ hfw k0 (by assumption)
  |exact FQ k2 k0 (by omega)
  |exact Kf
  |done
theorem nP (a0 a1 a2:List (List L))(a3:Int)(a4 a5 a6 a7 a8 a9 a10 a11:List (List L))(a12:Int)(a13:List (List L))(a14 a15 a16 a17:Int)(a18:Bool)(a19 a20:Int)(a21:List (List L))(a22 a23:Int)(hp:jC a0 a1 a2 a4 a5 a6 a7 a8 a9 a10 a11 a13 a21):aP Tryz.prog 26 [.agg [.s 1 a0,.s 1 a1,.s 2 a2,.v (.int .i64 a3),.s 1 a4,.s 2 a5,.s 3 a6,.s 3 a7,.s 4 a8,.s 1 a9,.s 1 a10,.s 1 a11,.v (.int .i64 a12),.s 3 a13,.v (.int .i64 a14),.v (.int .i64 a15),.v (.int .i64 a16),.v (.int .i64 a17),.v (.bool a18),.v (.int .i64 a19),.v (.int .i64 a20),.s 1 a21,.v (.int .i64 a22),.v (.int .i64 a23)]] [.agg [.v (.int .i64 (ifZ (hpI a0 a1 a2 a3 a4 a5 a6 a7 a8 a9 a10 a11 a12 a13 a14 a15 a16 a17 a18 a19 a20 a21 a22 a23) (zlI a2))),.v (.int .i64 (ifZ (hpI a0 a1 a2 a3 a4 a5 a6 a7 a8 a9 a10 a11 a12 a13 a14 a15 a16 a17 a18 a19 a20 a21 a22 a23) (mpT a2))),.v (.int .i64 (ifZ (hpI a0 a1 a2 a3 a4 a5 a6 a7 a8 a9 a10 a11 a12 a13 a14 a15 a16 a17 a18 a19 a20 a21 a22 a23) (ufN a0 a1))),.v (.int .i64 (ifZ (hpI a0 a1 a2 a3 a4 a5 a6 a7 a8 a9 a10 a11 a12 a13 a14 a15 a16 a17 a18 a19 a20 a21 a22 a23) (lcI a6 a7))),.v (.int .i64 (ifZ (hpI a0 a1 a2 a3 a4 a5 a6 a7 a8 a9 a10 a11 a12 a13 a14 a15 a16 a17 a18 a19 a20 a21 a22 a23) (ocT a8))),.v (.int .i64 (ifZ (hpI a0 a1 a2 a3 a4 a5 a6 a7 a8 a9 a10 a11 a12 a13 a14 a15 a16 a17 a18 a19 a20 a21 a22 a23) (acT a9))),.v (.int .i64 (ifZ (hpI a0 a1 a2 a3 a4 a5 a6 a7 a8 a9 a10 a11 a12 a13 a14 a15 a16 a17 a18 a19 a20 a21 a22 a23) (qcI a13))),.v (.int .i64 (ifZ (hpI a0 a1 a2 a3 a4 a5 a6 a7 a8 a9 a10 a11 a12 a13 a14 a15 a16 a17 a18 a19 a20 a21 a22 a23) (poT a6 a7 a10 a11)))]]:=by
 have N:=hp.n;have how:=N.ow;have hcw:=N.cw;have hsw:=N.sw;have hfw:=xX N.m;have hol:=N.ol;have hlc:=fy (es:=a9);have hcl:=N.cl;have hel:=hp.el;have w5:=sO (b:=a10) (x:=a11);refine ai Oc3.B ag mixed 114 _ [97] [.cell 2 97] Tryz.func26 rfl rfl rfl rfl rfl ?_;intro O r (F:Oc3.Fns) hO hr (hF:F=Oc3.F0);cbv
 repeat' first|refine And.intro ?_ ?_|(refine aG (fun hb=>?_) (fun hb=>?_)<;>cbv)|(refine⟨[1,2,4,5],[1,2,4],Int×Int,fun s_=>match s_ with|(i,t)=>[.reg 5 (.one (.v (.int .i64 i))),.leaf 4 4 ⟨0,0,none,.own (.v (.int .i64 t))⟩],fun s_=>match s_ with|(i,t)=>0<=i/\i<=(a8.length:Int)/\GL a8 i t,fun s_=>match s_ with|(i,t)=>a8.length-i.toNat,⟨(0,0),?_,?_⟩,?_⟩;rotate_left;(focus (cbv;done));intro s_ hi;obtain⟨i,t⟩:=s_;replace hi:0<=i/\i<=(a8.length:Int)/\GL a8 i t:=hi;obtain⟨i0,i1,i2⟩:=hi;cbv)|(refine⟨[1,2,4,7],[1,2,4],Int×Int,fun s_=>match s_ with|(j,u)=>[.reg 7 (.one (.v (.int .i64 j))),.leaf 4 5 ⟨0,0,none,.own (.v (.int .i64 u))⟩],fun s_=>match s_ with|(j,u)=>0<=j/\j<=(a9.length:Int)/\Iw a9 j u,fun s_=>match s_ with|(j,u)=>a9.length-j.toNat,⟨(0,0),?_,?_⟩,?_⟩;rotate_left;(focus (cbv;done));intro s_ hj;obtain⟨j,u⟩:=s_;replace hj:0<=j/\j<=(a9.length:Int)/\Iw a9 j u:=hj;obtain⟨j0,j1,j2⟩:=hj;cbv)|(refine⟨[1,2,4,8,9],[1,2,4,8],Int×Int,fun s_=>match s_ with|(k,v)=>[.reg 9 (.one (.v (.int .i64 k))),.leaf 4 7 ⟨0,0,none,.own (.v (.int .i64 v))⟩],fun s_=>match s_ with|(k,v)=>0<=k/\k<=((ifL a10 a11).length:Int)/\IF a6 a7 (ifL a10 a11) k v,fun s_=>match s_ with|(k,v)=>(ifL a10 a11).length-k.toNat,⟨(0,0),?_,?_⟩,?_⟩;rotate_left;(focus (cbv;done));intro s_ hk;obtain⟨k,v⟩:=s_;replace hk:0<=k/\k<=((ifL a10 a11).length:Int)/\IF a6 a7 (ifL a10 a11) k v:=hk;obtain⟨k0,k1,k2⟩:=hk;cbv)|(refine aa (O.ar .add .i64 i 1,O.ar .add .i64 t (F.clsSz (F.clsOf (O.gi a8 i 2)))) ?_ ?_ ?_;rotate_left 2;focus (cbv;done))|(refine aa (O.ar .add .i64 i 1,O.ar .add .i64 t (O.gi a8 i 2)) ?_ ?_ ?_;rotate_left 2;focus (cbv;done))|(refine aa (O.ar .add .i64 j 1,O.ar .add .i64 u (F.ceC (O.gs a9 j 0))) ?_ ?_ ?_;rotate_left 2;focus (cbv;done))|(refine aa (O.ar .add .i64 k 1,O.ar .add .i64 v (F.clsSz (O.gi a6 (F.spI a6 (O.ar .quo .i64 (O.pi (.s 1 (F.ifL a10 a11)) [(O.ad 0 k,0)]) 16)) 1))) ?_ ?_ ?_;rotate_left 2;focus (cbv;done))
 all_goals(subst hO hr hF;(try simp only[af,SS,sa,az]at*);(try simp only[nc]at*);(try simp only[aF]at*))
 all_goals(try simp only[Oc3.F0]at*)
 all_goals try rw[bD (by omega) (by omega)]
 all_goals(try simp only[fP k0]at*)
 all_goals(try have hok:hpI a0 a1 a2 a3 a4 a5 a6 a7 a8 a9 a10 a11 a12 a13 a14 a15 a16 a17 a18 a19 a20 a21 a22 a23=true:=(by assumption))
 all_goals(try have T:=oV hok)
 all_goals(try have B:=zO N.ow (by omega) hok)
 all_goals(try have fa:=Ke (Bl T.l) T.h k0 (by assumption))
 all_goals(try simp only[fa.2.2.1]at*)
 all_goals first
  | (show(_:List DV)=_
     first
      |(have z:hpI a0 a1 a2 a3 a4 a5 a6 a7 a8 a9 a10 a11 a12 a13 a14 a15 a16 a17 a18 a19 a20 a21 a22 a23=false:=(by assumption);exact AC (fR z).symm (fR z).symm (fR z).symm (fR z).symm (fR z).symm (fR z).symm (fR z).symm (fR z).symm)
      |exact AC (fS hok).symm (fS hok).symm (fS hok).symm (fS hok).symm ((BB i2 i1 (by omega)).trans (fS hok).symm) ((AD j2 j1 (by omega)).trans (fS hok).symm) (fS hok).symm ((BN k2 k1 (by omega)).trans (fS hok).symm)
      |done)
  |omega
  |(refine⟨by omega,by omega,(Rw.eta (by first|assumption|exact Rw.sub (by first|assumption|exact Rw.sub (by assumption) (by omega) rfl) (by omega) rfl) (by omega) (by omega)).trans ?_⟩;rfl)
  |(show aK _ _=true;kernel_rfl)
  |exact⟨hp.e,by omega⟩
  |exact⟨hp.c,hp.u⟩
  |exact⟨N.sw,N.lw,N.sl,N.ll⟩
  |exact⟨N.qw,N.ql⟩
  |exact N.m
  |exact⟨N.sw,by have:=N.sl;omega⟩
  |exact N.c.n j j0 (by assumption)
  |exact BC B hol i2 i0 (by assumption) (by assumption)
  |exact Fo B hol i2 i0 (by assumption) (by omega)
  |exact JS
  |exact Di j2 j0 (by omega)
  |exact IL
  |exact kZ hfw k0 (by assumption)
  |exact FQ k2 k0 (by omega)
  |exact Kf
  |exact⟨True.intro,True.intro⟩
  |done
end Go.V