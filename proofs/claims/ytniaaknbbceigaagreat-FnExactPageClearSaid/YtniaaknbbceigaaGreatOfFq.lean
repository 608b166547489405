/-
  Contracts, by evaluation.
-/
import Derived.Test.YtniaaknbbceigaaGreatS10
import Derived.Test.YtniaaknbbceigaaGreatHB
import Derived.Test.YtniaaknbbceigaaGreatOfCq
set_option linter.all false
namespace Go.V
open Go Go.Proofs
set_option maxRecDepth 1000000
set_option maxHeartbeats 8000000
namespace Og0
structure Fns where
 peM:List (List L)->Int->Int
 peF:List (List L)->Int->Int
 machOk:List (List L)->List (List L)->List (List L)->Bool
def F0 :Fns:=⟨peM,peF,machOk⟩
def ct (F:Fns):CT:=fun f ds=>match f,ds with
 |176,[.agg [.s 2 es],.one (.v (.int .i64 p))]=>some (fun _=>Rw [tI,tI] es,[.agg [.v (.int .i64 (F.peM es p)),.v (.int .i64 (F.peF es p))]])
 |177,[.agg [.s 1 cs,.s 1 us,.s 2 es]]=>some (fun _=>Rw [.sl [tI]] cs/\Rw [tB] us/\Rw [tI,tI] es,[.one (.v (.bool (F.machOk cs us es)))])
 |178,[.one (.s 1 es)]=>some (fun _=>Rw [tI] es/\es.length<=1099511627776,[.one (.s 1 es)])
 |_,_=>none
theorem ak :aW Tryz.prog (ct F0):=by
 intro f ds pre res h hp;unfold ct at h;split at h<;>(try split at h)<;>cases h
 exact di _ _ hp;exact ia _ _ _ hp;exact pC _ hp
def B :TB Tryz.prog:=tb ak
end Og0
theorem pu (cs us es:List (List L))(p:Int)(hp:Rw [.sl [tI]] cs/\Rw [tB] us/\Rw [tI,tI] es/\peM es p≠0/\machOk cs us es=true):aP Tryz.prog 78 [.agg [.s 1 cs,.s 1 us,.s 2 es],.one (.v (.int .i64 p))] [.one (.s 1 (txL cs es p))]:=by
 obtain⟨hc,hu,he,hm,hk⟩:=hp;have c:=Bq hk;have f:=BH c.2.1 hm;have g:=A1 c.1 f.1 f.2.1;have r:=Rw.sub (fs:=[.sl [tI]]) (j:=0) (i:=peF es p) hc (by omega) rfl;refine ai Og0.B ag mixed 26 _ [31] [.tmp 4] Tryz.func78 rfl rfl rfl rfl rfl ?_;intro O r (F:Og0.Fns) hO hr (hF:F=Og0.F0);cbv
 repeat' first|refine And.intro ?_ ?_|(refine aG (fun hb=>?_) (fun hb=>?_)<;>cbv)
 all_goals(subst hO hr hF;(try simp only[af,SS,sa,az]at*);(try simp only[nc]at*);(try simp only[aF]at*))
 all_goals(try simp only[Og0.F0]at*)
 all_goals first
  | (show(_:List DV)=_
     first
      |exact rfl
      |exact absurd (by assumption) hm
      |(have q:true=false:=(by assumption);cases q)
      |exact absurd (hk.symm.trans (by assumption)) (by decide)
      |done)
  |exact he
  |exact⟨hc,hu,he⟩
  |(show aK _ _=true;kernel_rfl)
  |(refine⟨by omega,by omega,(Rw.eta (by first|assumption|exact Rw.sub (by first|assumption|exact Rw.sub (by assumption) (by omega) rfl) (by omega) rfl) (by omega) (by omega)).trans ?_⟩;rfl)
  |exact⟨True.intro,True.intro⟩
  |exact⟨r,by omega⟩
  |done
theorem lY (cs us es:List (List L))(p:Int)(hp:Rw [.sl [tI]] cs/\Rw [tB] us/\Rw [tI,tI] es/\peM es p=0):aP Tryz.prog 78 [.agg [.s 1 cs,.s 1 us,.s 2 es],.one (.v (.int .i64 p))] [.one (.v (.slice none 0 0))]:=by
 obtain⟨hc,hu,he,hm⟩:=hp;refine KY Og0.B ag mixed 26 _ 4 Tryz.func78 rfl rfl rfl rfl ?_;intro O (F:Og0.Fns) hO (hF:F=Og0.F0);obtain⟨r,hr⟩:∃ r:List DV,r=[]:=⟨_,rfl⟩;cbv
 repeat' first|refine And.intro ?_ ?_|(refine aG (fun hb=>?_) (fun hb=>?_)<;>cbv)
 all_goals(subst hO hr hF;(try simp only[af,SS,sa,az]at*);(try simp only[nc]at*);(try simp only[aF]at*))
 all_goals(try simp only[Og0.F0]at*)
 all_goals first|exact he|(show aK _ _=true;kernel_rfl)|exact True.intro|exact absurd hm (by assumption)|done
namespace Og1
structure Fns where
 fpg:List (List L)->Int->List (List L)
 hasB:List (List L)->Int->Bool
 sclL:Int->Int->Int->List (List L)
 lhB:Int->Int->Int->Int->Bool
def F0 :Fns:=⟨fpg,hasB,sclL,lhB⟩
def ct (F:Fns):CT:=fun f ds=>match f,ds with
 |179,[.agg [.s 1 a0,.s 1 a1,.s 2 a2,.v (.int .i64 a3),.s 1 a4,.s 2 a5,.s 3 a6,.s 3 a7,.s 4 a8,.s 1 a9,.s 1 a10,.s 1 a11,.v (.int .i64 a12),.s 3 a13,.v (.int .i64 a14),.v (.int .i64 a15),.v (.int .i64 a16),.v (.int .i64 a17),.v (.bool a18),.v (.int .i64 a19),.v (.int .i64 a20),.s 1 a21,.v (.int .i64 a22),.v (.int .i64 a23)],.one (.v (.int .i64 pg))]=>some (fun _=>Rw [tI,tI] a2/\a2.length<=1099511627776,[.one (.s 1 (F.fpg a2 pg))])
 |180,[.one (.s 1 l),.one (.v (.int .i64 x))]=>some (fun _=>Rw [tI] l/\l.length<=1099511627776,[.one (.v (.bool (F.hasB l x)))])
 |181,[.agg [.v (.int .i64 p),.v (.int .i64 k),.v (.int .i64 b)]]=>some (fun _=>True,[.one (.s 1 (F.sclL p k b))])
 |182,[.agg [.v (.int .i64 p),.v (.int .i64 n),.v (.int .i64 s)],.one (.v (.int .i64 a))]=>some (fun _=>True,[.one (.v (.bool (F.lhB p n s a)))])
 |_,_=>none
theorem ak :aW Tryz.prog (ct F0):=by
 intro f ds pre res h hp;unfold ct at h;split at h<;>(try split at h)<;>cases h
 exact eH _ _ _ _ _ _ _ _ _ _ _ _ _ _ _ _ _ _ _ _ _ _ _ _ _ hp;exact d8 _ _ hp;exact ib _ _ _ hp;exact fM _ _ _ _ hp
def B :TB Tryz.prog:=tb ak
end Og1
theorem pD (a0 a1 a2:List (List L))(a3:Int)(a4 a5 a6 a7 a8 a9 a10 a11:List (List L))(a12:Int)(a13:List (List L))(a14 a15 a16 a17:Int)(a18:Bool)(a19 a20:Int)(a21:List (List L))(a22 a23 p:Int)(hp:jC a0 a1 a2 a4 a5 a6 a7 a8 a9 a10 a11 a13 a21/\0<=p/\p<=1073741824):aP Tryz.prog 79 [.agg [.s 1 a0,.s 1 a1,.s 2 a2,.v (.int .i64 a3),.s 1 a4,.s 2 a5,.s 3 a6,.s 3 a7,.s 4 a8,.s 1 a9,.s 1 a10,.s 1 a11,.v (.int .i64 a12),.s 3 a13,.v (.int .i64 a14),.v (.int .i64 a15),.v (.int .i64 a16),.v (.int .i64 a17),.v (.bool a18),.v (.int .i64 a19),.v (.int .i64 a20),.s 1 a21,.v (.int .i64 a22),.v (.int .i64 a23)],.one (.v (.int .i64 p))] [.one (.s 1 (mbL a2 a6 a7 p))]:=by
 obtain⟨hp,p0,p1⟩:=hp;have N:=hp.n;have hsw:=N.sw;have hlw:=N.lw;have hsl:=N.sl;have hll:=N.ll;have hrl:(lL 16 [.v (.bool false)]).length=16:=rfl;have he:=hp.e;have hel:=hp.el;have hfp:=zt (es:=a2) (p:=p) (by omega);have e1:aV .mul .i64 p 16=p*16:=zJ (by omega);refine ai Og1.B ag mixed 71 _ [23] [.tmp 4] Tryz.func79 rfl rfl rfl rfl rfl ?_;intro O r (F:Og1.Fns) hO hr (hF:F=Og1.F0);cbv
 repeat' first|refine And.intro ?_ ?_|(refine aG (fun hb=>?_) (fun hb=>?_)<;>cbv)|(refine⟨[1,2,5,6,19,20,21],[2,5,6],Int×List (List L),fun s_=>match s_ with|(i,o)=>[.reg 21 (.one (.v (.int .i64 i))),.leaf 5 0 ⟨0,0,none,.own (.s 1 o)⟩],fun s_=>match s_ with|(i,o)=>0<=i/\i<=(a6.length:Int)/\IE a2 a6 p i o,fun s_=>match s_ with|(i,o)=>a6.length-i.toNat,⟨(0,O.rep 16 [.v (.bool false)]),?_,?_⟩,?_⟩;rotate_left;(focus (cbv;done));intro s_ hi;obtain⟨i,o⟩:=s_;replace hi:0<=i/\i<=(a6.length:Int)/\IE a2 a6 p i o:=hi;obtain⟨i0,i1,i2⟩:=hi;cbv)|(refine⟨[1,2,5,6,19,20,21,30,31,32],[2,5,6,30],Int×List (List L),fun s_=>match s_ with|(j,q)=>[.reg 32 (.one (.v (.int .i64 j))),.leaf 5 0 ⟨0,0,none,.own (.s 1 q)⟩],fun s_=>match s_ with|(j,q)=>0<=j/\j<=((sclL (ab a6 i 0) (ab a6 i 1) (ab a6 i 2)).length:Int)/\MI a2 a6 p i j q,fun s_=>match s_ with|(j,q)=>(sclL (ab a6 i 0) (ab a6 i 1) (ab a6 i 2)).length-j.toNat,⟨(0,o),?_,?_⟩,?_⟩;rotate_left;(focus (cbv;done));intro s_ hj;obtain⟨j,q⟩:=s_;replace hj:0<=j/\j<=((sclL (ab a6 i 0) (ab a6 i 1) (ab a6 i 2)).length:Int)/\MI a2 a6 p i j q:=hj;obtain⟨j0,j1,j2⟩:=hj;cbv)|(refine⟨[1,5,42,43,44],[5],Int×List (List L),fun s_=>match s_ with|(k,r')=>[.reg 44 (.one (.v (.int .i64 k))),.leaf 5 0 ⟨0,0,none,.own (.s 1 r')⟩],fun s_=>match s_ with|(k,r')=>0<=k/\k<=(a7.length:Int)/\MJ a2 a6 a7 p k r',fun s_=>match s_ with|(k,r')=>a7.length-k.toNat,⟨(0,o),?_,?_⟩,?_⟩;rotate_left;(focus (cbv;done));intro s_ hk;obtain⟨k,r'⟩:=s_;replace hk:0<=k/\k<=(a7.length:Int)/\MJ a2 a6 a7 p k r':=hk;obtain⟨k0,k1,k2⟩:=hk;cbv)|(refine⟨[1,5,12,42,43,44,49,50],[5,12],Int×List (List L),fun s_=>match s_ with|(c,s)=>[.reg 50 (.one (.v (.int .i64 c))),.leaf 5 0 ⟨0,0,none,.own (.s 1 s)⟩],fun s_=>match s_ with|(c,s)=>0<=c/\c<=16/\ID a2 a6 a7 p k c s,fun s_=>match s_ with|(c,s)=>16-c.toNat,⟨(0,r'),?_,?_⟩,?_⟩;rotate_left;(focus (cbv;done));intro s_ hc;obtain⟨c,s⟩:=s_;replace hc:0<=c/\c<=16/\ID a2 a6 a7 p k c s:=hc;obtain⟨c0,c1,c2⟩:=hc;cbv)|(refine aa (O.ar .add .i64 j 1,O.up (.s 1 q) [(O.ad 0 (O.pi (.s 1 (F.sclL (O.gi a6 i 0) (O.gi a6 i 1) (O.gi a6 i 2))) [(O.ad 0 j,0)]),0)] [.v (.bool true)]) ?_ ?_ ?_;rotate_left 2;focus (cbv;done))|(refine aa (O.ar .add .i64 c 1,O.up (.s 1 s) [(O.ad 0 c,0)] [.v (.bool true)]) ?_ ?_ ?_;rotate_left 2;focus (cbv;done))|(refine aa (O.ar .add .i64 c 1,O.up (.s 1 s) [(O.ad 0 c,0)] [.v (.bool (O.sel false true (F.lhB (O.gi a7 k 0) (O.gi a7 k 1) (O.gi a7 k 2) (O.ar .add .i64 (O.ar .mul .i64 p 16) c))))]) ?_ ?_ ?_;rotate_left 2;focus (cbv;done))|(refine aa (O.ar .add .i64 i 1,q) ?_ ?_ ?_;rotate_left 2;focus (cbv;done))|(refine aa (O.ar .add .i64 i 1,o) ?_ ?_ ?_;rotate_left 2;focus (cbv;done))|(refine aa (O.ar .add .i64 k 1,s) ?_ ?_ ?_;rotate_left 2;focus (cbv;done))
 all_goals(subst hO hr hF;(try simp only[af,SS,sa,az]at*);(try simp only[nc]at*);(try simp only[aF]at*))
 all_goals(try simp only[Og1.F0,hrl,e1]at*)
 all_goals(try have sl:=tD (p:=ab a6 i 0) (k:=ab a6 i 1) (b:=ab a6 i 2))
 all_goals try rw[bD (by omega) (by omega)]
 all_goals(try simp only[fP j0]at*)
 all_goals(try simp only[FD c0]at*)
 all_goals(try have u:=LN j2 j0 (by omega))
 all_goals(try have z:=j2.m.l)
 all_goals(try have z:=c2.m.l)
 all_goals(try have z:=k2.m.l)
 all_goals(try have z:=i2.m.l)
 all_goals first
  | (show(_:List DV)=_
     first
      |exact lN (HQ k2 k1 (by omega))
      |done)
  |omega
  |exact⟨True.intro,True.intro⟩
  |(refine⟨by omega,by omega,(Rw.eta (by first|assumption|exact Rw.sub (by first|assumption|exact Rw.sub (by assumption) (by omega) rfl) (by omega) rfl) (by omega) (by omega)).trans ?_⟩;rfl)
  |(show aK _ _=true;kernel_rfl)
  |exact⟨he,by omega⟩
  |exact⟨hfp.1,by omega⟩
  |exact kZ Ie j0 (by omega)
  |exact J0 c2.m.w c0 (by omega)
  |exact⟨u.1.1,by have:=u.1.2;omega⟩
  |exact Gu j2.m.w u.1.1 (by have:=u.1.2;omega)
  |exact Gu c2.m.w c0 (by omega)
  |(rw[Ai j2.m.w u.1.1 (by have:=u.1.2;omega)];exact u.2)
  |(rw[Ai c2.m.w c0 (by omega)];exact Oq c2 c0 (by omega) (by assumption))
  |(rw[Ai c2.m.w c0 (by omega)];exact Or c2 c0 (by omega) (by assumption) (by rw[show aV .add .i64 (p*16) c=p*16+c from aB (by omega)]))
  |exact⟨True.intro,by omega⟩
  |exact HM j2 i0 (by omega) (by assumption)
  |exact On i2
  |exact LU i2 i0 (by assumption)
  |exact Ot i2 i1 (by omega)
  |exact Oo k2
  |exact HO c2 k0 (by omega)
  |exact OE rfl
  |done
namespace Og2
structure Fns where
 hpI:List (List L)->List (List L)->List (List L)->Int->List (List L)->List (List L)->List (List L)->List (List L)->List (List L)->List (List L)->List (List L)->List (List L)->Int->List (List L)->Int->Int->Int->Int->Bool->Int->Int->List (List L)->Int->Int->Bool
def F0 :Fns:=⟨hpI⟩
def ct (F:Fns):CT:=fun f ds=>match f,ds with
 |55,[.agg [.s 1 a0,.s 1 a1,.s 2 a2,.v (.int .i64 a3),.s 1 a4,.s 2 a5,.s 3 a6,.s 3 a7,.s 4 a8,.s 1 a9,.s 1 a10,.s 1 a11,.v (.int .i64 a12),.s 3 a13,.v (.int .i64 a14),.v (.int .i64 a15),.v (.int .i64 a16),.v (.int .i64 a17),.v (.bool a18),.v (.int .i64 a19),.v (.int .i64 a20),.s 1 a21,.v (.int .i64 a22),.v (.int .i64 a23)]]=>some (fun _=>jC a0 a1 a2 a4 a5 a6 a7 a8 a9 a10 a11 a13 a21,[.one (.v (.bool (F.hpI a0 a1 a2 a3 a4 a5 a6 a7 a8 a9 a10 a11 a12 a13 a14 a15 a16 a17 a18 a19 a20 a21 a22 a23)))])
 |78,[.agg [.s 1 cs,.s 1 us,.s 2 es],.one (.v (.int .i64 p))]=>some (fun _=>Rw [.sl [tI]] cs/\Rw [tB] us/\Rw [tI,tI] es/\peM es p=0,[.one (.v (.slice none 0 0))])
 |_,_=>none
theorem ak :aW Tryz.prog (ct F0):=by
 intro f ds pre res h hp;unfold ct at h;split at h<;>(try split at h)<;>cases h
 exact dF _ _ _ _ _ _ _ _ _ _ _ _ _ _ _ _ _ _ _ _ _ _ _ _ hp;exact lY _ _ _ _ hp
def B :TB Tryz.prog:=tb ak
end Og2
namespace Og3
structure Fns where
 hpI:List (List L)->List (List L)->List (List L)->Int->List (List L)->List (List L)->List (List L)->List (List L)->List (List L)->List (List L)->List (List L)->List (List L)->Int->List (List L)->Int->Int->Int->Int->Bool->Int->Int->List (List L)->Int->Int->Bool
 txL:List (List L)->List (List L)->Int->List (List L)
 mbL:List (List L)->List (List L)->List (List L)->Int->List (List L)
def F0 :Fns:=⟨hpI,txL,mbL⟩
def ct (F:Fns):CT:=fun f ds=>match f,ds with
 |55,[.agg [.s 1 a0,.s 1 a1,.s 2 a2,.v (.int .i64 a3),.s 1 a4,.s 2 a5,.s 3 a6,.s 3 a7,.s 4 a8,.s 1 a9,.s 1 a10,.s 1 a11,.v (.int .i64 a12),.s 3 a13,.v (.int .i64 a14),.v (.int .i64 a15),.v (.int .i64 a16),.v (.int .i64 a17),.v (.bool a18),.v (.int .i64 a19),.v (.int .i64 a20),.s 1 a21,.v (.int .i64 a22),.v (.int .i64 a23)]]=>some (fun _=>jC a0 a1 a2 a4 a5 a6 a7 a8 a9 a10 a11 a13 a21,[.one (.v (.bool (F.hpI a0 a1 a2 a3 a4 a5 a6 a7 a8 a9 a10 a11 a12 a13 a14 a15 a16 a17 a18 a19 a20 a21 a22 a23)))])
 |78,[.agg [.s 1 cs,.s 1 us,.s 2 es],.one (.v (.int .i64 p))]=>some (fun _=>Rw [.sl [tI]] cs/\Rw [tB] us/\Rw [tI,tI] es/\peM es p≠0/\machOk cs us es=true,[.one (.s 1 (F.txL cs es p))])
 |79,[.agg [.s 1 a0,.s 1 a1,.s 2 a2,.v (.int .i64 a3),.s 1 a4,.s 2 a5,.s 3 a6,.s 3 a7,.s 4 a8,.s 1 a9,.s 1 a10,.s 1 a11,.v (.int .i64 a12),.s 3 a13,.v (.int .i64 a14),.v (.int .i64 a15),.v (.int .i64 a16),.v (.int .i64 a17),.v (.bool a18),.v (.int .i64 a19),.v (.int .i64 a20),.s 1 a21,.v (.int .i64 a22),.v (.int .i64 a23)],.one (.v (.int .i64 p))]=>some (fun _=>jC a0 a1 a2 a4 a5 a6 a7 a8 a9 a10 a11 a13 a21/\0<=p/\p<=1073741824,[.one (.s 1 (F.mbL a2 a6 a7 p))])
 |_,_=>none
theorem ak :aW Tryz.prog (ct F0):=by
 intro f ds pre res h hp;unfold ct at h;split at h<;>(try split at h)<;>cases h
 exact dF _ _ _ _ _ _ _ _ _ _ _ _ _ _ _ _ _ _ _ _ _ _ _ _ hp;exact pu _ _ _ _ hp;exact pD _ _ _ _ _ _ _ _ _ _ _ _ _ _ _ _ _ _ _ _ _ _ _ _ _ hp
def B :TB Tryz.prog:=tb ak
end Og3
theorem nz (a0 a1 a2:List (List L))(a3:Int)(a4 a5 a6 a7 a8 a9 a10 a11:List (List L))(a12:Int)(a13:List (List L))(a14 a15 a16 a17:Int)(a18:Bool)(a19 a20:Int)(a21:List (List L))(a22 a23 p:Int)(hp:jC a0 a1 a2 a4 a5 a6 a7 a8 a9 a10 a11 a13 a21):aP Tryz.prog 20 [.agg [.s 1 a0,.s 1 a1,.s 2 a2,.v (.int .i64 a3),.s 1 a4,.s 2 a5,.s 3 a6,.s 3 a7,.s 4 a8,.s 1 a9,.s 1 a10,.s 1 a11,.v (.int .i64 a12),.s 3 a13,.v (.int .i64 a14),.v (.int .i64 a15),.v (.int .i64 a16),.v (.int .i64 a17),.v (.bool a18),.v (.int .i64 a19),.v (.int .i64 a20),.s 1 a21,.v (.int .i64 a22),.v (.int .i64 a23)],.one (.v (.int .i64 p))] [.one (.v (.bool (pcB (hpI a0 a1 a2 a3 a4 a5 a6 a7 a8 a9 a10 a11 a12 a13 a14 a15 a16 a17 a18 a19 a20 a21 a22 a23) a0 a2 a6 a7 p)))]:=by
 by_cases hm:peM a2 p=0
 case pos=>
  refine ai Og2.B ag mixed 39 _ [4] [.tmp 4] Tryz.func20 rfl rfl rfl rfl rfl ?_;intro O r (F:Og2.Fns) hO hr (hF:F=Og2.F0);cbv
  repeat' first|refine And.intro ?_ ?_|(refine aG (fun hb=>?_) (fun hb=>?_)<;>cbv)
  all_goals(subst hO hr hF;(try simp only[af,SS,sa,az]at*);(try simp only[nc]at*);(try simp only[aF]at*))
  all_goals(try simp only[Og2.F0]at*)
  all_goals first|exact ah (J7 hm).symm|exact hp|exact⟨hp.c,hp.u,hp.e,hm⟩|(show aK _ _=true;kernel_rfl)|done
 case neg=>
 have N:=hp.n;have pr:=J8 hm;have hel:=hp.el;have mk:hpI a0 a1 a2 a3 a4 a5 a6 a7 a8 a9 a10 a11 a12 a13 a14 a15 a16 a17 a18 a19 a20 a21 a22 a23=true->machOk a0 a1 a2=true:=fun hok=>by
  have k:=(oV hok).k;unfold kerOk at k;simp only[Bool.and_eq_true]at k
  first|exact k.1|exact k.1.1
 have tx:hpI a0 a1 a2 a3 a4 a5 a6 a7 a8 a9 a10 a11 a12 a13 a14 a15 a16 a17 a18 a19 a20 a21 a22 a23=true->Rw [tI] (txL a0 a2 p)/\(txL a0 a2 p).length=16:=fun hok=>by
  have c:=Bq (mk hok);have f:=BH c.2.1 hm;exact⟨Rw.sub (fs:=[.sl [tI]]) (j:=0) (i:=peF a2 p) hp.c (by omega) rfl,A1 c.1 f.1 f.2.1⟩
 have mb:=LL (es:=a2) (sp:=a6) (lg:=a7) (p:=p);refine ai Og3.B ag mixed 39 _ [4] [.tmp 4] Tryz.func20 rfl rfl rfl rfl rfl ?_;intro O r (F:Og3.Fns) hO hr (hF:F=Og3.F0);cbv
 repeat' first|refine And.intro ?_ ?_|(refine aG (fun hb=>?_) (fun hb=>?_)<;>cbv)|(refine⟨[6,22,23,24],[5,6],Int,fun i=>[.reg 24 (.one (.v (.int .i64 i)))],fun i=>0<=i/\i<=(((txL a0 a2 p).length:Nat):Int)/\upto (yh a0 a2 a6 a7 p) i,fun i=>((txL a0 a2 p).length)-i.toNat,⟨0,?_,?_⟩,?_⟩;rotate_left;(focus (cbv;done));intro i hi;replace hi:0<=i/\i<=(((txL a0 a2 p).length:Nat):Int)/\upto (yh a0 a2 a6 a7 p) i:=hi;obtain⟨i0,i1,i2⟩:=hi;cbv)|(refine aa (O.ar .add .i64 i 1) ?_ ?_ ?_;rotate_left 2;focus (cbv;done))
 all_goals(subst hO hr hF;(try simp only[af,SS,sa,az]at*);(try simp only[nc]at*);(try simp only[aF]at*))
 all_goals(try simp only[Og3.F0]at*)
 all_goals(try have hok:hpI a0 a1 a2 a3 a4 a5 a6 a7 a8 a9 a10 a11 a12 a13 a14 a15 a16 a17 a18 a19 a20 a21 a22 a23=true:=(by assumption))
 all_goals(try have t:=tx hok)
 all_goals try rw[bD (by omega) (by omega)]
 all_goals(try simp only[fP i0,FD i0]at*)
 all_goals first
  | (show(_:List DV)=_
     first
      |exact ah (J6 (by assumption)).symm
      |exact ah (BG hok hm i2 (by omega)).symm
      |exact ah (zW i0 (by omega) (OX i0 (by omega) (by assumption) (by assumption))).symm
      |done)
  |omega
  |(show aK _ _=true;kernel_rfl)
  |exact hp
  |exact⟨True.intro,True.intro⟩
  |exact⟨hp,by omega,by omega⟩
  |exact⟨hp.c,hp.u,hp.e,hm,mk hok⟩
  |exact kZ t.1 i0 (by omega)
  |exact J0 mb.1 i0 (by omega)
  |exact aL
  |exact ax i2 (J5 (by assumption))
  |exact ax i2 (OY i0 (by omega) (by assumption))
  |done
namespace Og4
structure Fns where
 peM:List (List L)->Int->Int
 peF:List (List L)->Int->Int
 hpI:List (List L)->List (List L)->List (List L)->Int->List (List L)->List (List L)->List (List L)->List (List L)->List (List L)->List (List L)->List (List L)->List (List L)->Int->List (List L)->Int->Int->Int->Int->Bool->Int->Int->List (List L)->Int->Int->Bool
 spI:List (List L)->Int->Int
 ubB:List (List L)->List (List L)->Int->Int
 hsB:Int->Int->Bool
 clsSz:Int->Int
 dzK:List (List L)->List (List L)->Int->Int
 dzI:List (List L)->List (List L)->Int->Int
 dzS:List (List L)->List (List L)->Int->Int
 dzO:List (List L)->List (List L)->Int->Int
def F0 :Fns:=⟨peM,peF,hpI,spI,ubB,hsB,clsSz,dzK,dzI,dzS,dzO⟩
def ct (F:Fns):CT:=fun f ds=>match f with
 | 72=>match ds with
   |[.agg [.s 2 es],.one (.v (.int .i64 p))]=>some (fun _=>Rw [tI,tI] es,[.agg [.v (.int .i64 (F.peM es p)),.v (.int .i64 (F.peF es p))]])
   |_=>none
 | 44=>match ds with
   |[.agg [.s 1 a0,.s 1 a1,.s 2 a2,.v (.int .i64 a3),.s 1 a4,.s 2 a5,.s 3 a6,.s 3 a7,.s 4 a8,.s 1 a9,.s 1 a10,.s 1 a11,.v (.int .i64 a12),.s 3 a13,.v (.int .i64 a14),.v (.int .i64 a15),.v (.int .i64 a16),.v (.int .i64 a17),.v (.bool a18),.v (.int .i64 a19),.v (.int .i64 a20),.s 1 a21,.v (.int .i64 a22),.v (.int .i64 a23)]]=>some (fun _=>jC a0 a1 a2 a4 a5 a6 a7 a8 a9 a10 a11 a13 a21,[.one (.v (.bool (F.hpI a0 a1 a2 a3 a4 a5 a6 a7 a8 a9 a10 a11 a12 a13 a14 a15 a16 a17 a18 a19 a20 a21 a22 a23)))])
   |_=>none
 | 73=>match ds with
   |[.agg [.s 1 a0,.s 1 a1,.s 2 a2,.v (.int .i64 a3),.s 1 a4,.s 2 a5,.s 3 a6,.s 3 a7,.s 4 a8,.s 1 a9,.s 1 a10,.s 1 a11,.v (.int .i64 a12),.s 3 a13,.v (.int .i64 a14),.v (.int .i64 a15),.v (.int .i64 a16),.v (.int .i64 a17),.v (.bool a18),.v (.int .i64 a19),.v (.int .i64 a20),.s 1 a21,.v (.int .i64 a22),.v (.int .i64 a23)],.one (.v (.int .i64 pg))]=>some (fun _=>Rw [tI,tI,tI] a6/\a6.length<=1099511627776,[.one (.v (.int .i64 (F.spI a6 pg)))])
   |_=>none
 | 74=>match ds with
   |[.agg [.s 1 a0,.s 1 a1,.s 2 a2,.v (.int .i64 a3),.s 1 a4,.s 2 a5,.s 3 a6,.s 3 a7,.s 4 a8,.s 1 a9,.s 1 a10,.s 1 a11,.v (.int .i64 a12),.s 3 a13,.v (.int .i64 a14),.v (.int .i64 a15),.v (.int .i64 a16),.v (.int .i64 a17),.v (.bool a18),.v (.int .i64 a19),.v (.int .i64 a20),.s 1 a21,.v (.int .i64 a22),.v (.int .i64 a23)],.one (.v (.int .i64 ix))]=>some (fun _=>Rw [tI,tI] a2/\Rw [tI,tI,tI] a6/\a2.length<=1099511627776/\a6.length<=1099511627776,[.one (.v (.int .i64 (F.ubB a2 a6 ix)))])
   |_=>none
 | 75=>match ds with
   |[.one (.v (.int .i64 b)),.one (.v (.int .i64 i))]=>some (fun _=>True,[.one (.v (.bool (F.hsB b i)))])
   |_=>none
 | 76=>match ds with
   |[.one (.v (.int .i64 k))]=>some (fun _=>True,[.one (.v (.int .i64 (F.clsSz k)))])
   |_=>none
 | 77=>match ds with
   |[.one (.s 3 sp),.one (.s 3 lg),.one (.v (.int .i64 a))]=>some (fun _=>Rw [tI,tI,tI] sp/\Rw [tI,tI,tI] lg/\sp.length<=1073741824/\lg.length<=1073741824/\ -9223372036854775808<=a/\a<=9223372036854775807,[.agg [.v (.int .i64 (F.dzK sp lg a)),.v (.int .i64 (F.dzI sp lg a)),.v (.int .i64 (F.dzS sp lg a)),.v (.int .i64 (F.dzO sp lg a))]])
   |_=>none
 |_=>none
theorem ak :aW Tryz.prog (ct F0):=by
 intro f ds pre res h hp;unfold ct at h;split at h<;>(try split at h)<;>cases h
 exact eY _ _ hp;exact fo _ _ _ _ _ _ _ _ _ _ _ _ _ _ _ _ _ _ _ _ _ _ _ _ hp;exact ft _ _ _ _ _ _ _ _ _ _ _ _ _ _ _ _ _ _ _ _ _ _ _ _ _ hp;exact qy _ _ _ _ _ _ _ _ _ _ _ _ _ _ _ _ _ _ _ _ _ _ _ _ _ hp;exact gr _ _ hp;exact cd _ hp;exact eI _ _ _ hp
def B :TB Tryz.prog:=tb ak
end Og4
theorem nT (a0 a1 a2:List (List L))(a3:Int)(a4 a5 a6 a7 a8 a9 a10 a11:List (List L))(a12:Int)(a13:List (List L))(a14 a15 a16 a17:Int)(a18:Bool)(a19 a20:Int)(a21:List (List L))(a22 a23 p:Int)(hp:jC a0 a1 a2 a4 a5 a6 a7 a8 a9 a10 a11 a13 a21):aP Tryz.prog 19 [.agg [.s 1 a0,.s 1 a1,.s 2 a2,.v (.int .i64 a3),.s 1 a4,.s 2 a5,.s 3 a6,.s 3 a7,.s 4 a8,.s 1 a9,.s 1 a10,.s 1 a11,.v (.int .i64 a12),.s 3 a13,.v (.int .i64 a14),.v (.int .i64 a15),.v (.int .i64 a16),.v (.int .i64 a17),.v (.bool a18),.v (.int .i64 a19),.v (.int .i64 a20),.s 1 a21,.v (.int .i64 a22),.v (.int .i64 a23)],.one (.v (.int .i64 p))] [.one (.v (.bool (pcB (hpI a0 a1 a2 a3 a4 a5 a6 a7 a8 a9 a10 a11 a12 a13 a14 a15 a16 a17 a18 a19 a20 a21 a22 a23) a0 a2 a6 a7 p)))]:=by
 have N:=hp.n;have hsw:=N.sw;have hlw:=N.lw;have hsl:=N.sl;have hll:=N.ll;have hel:=hp.el;have he:=hp.e;have hcc:=hp.c;have mk:hpI a0 a1 a2 a3 a4 a5 a6 a7 a8 a9 a10 a11 a12 a13 a14 a15 a16 a17 a18 a19 a20 a21 a22 a23=true->machOk a0 a1 a2=true:=fun hok=>by
  have k:=(oV hok).k;unfold kerOk at k;simp only[Bool.and_eq_true]at k
  first|exact k.1|exact k.1.1
 refine ai Og4.B ag mixed 84 _ [4] [.tmp 4] Tryz.func19 rfl rfl rfl rfl rfl ?_;intro O r (F:Og4.Fns) hO hr (hF:F=Og4.F0);cbv
 repeat' first|refine And.intro ?_ ?_|(refine aG (fun hb=>?_) (fun hb=>?_)<;>cbv)|(refine⟨[1,2,5,6,7,8,9],[2,5],Int,fun k=>[.reg 9 (.one (.v (.int .i64 k)))],fun k=>0<=k/\k<=16/\upto (yh a0 a2 a6 a7 p) k,fun k=>16-k.toNat,⟨0,?_,?_⟩,?_⟩;rotate_left;(focus (cbv;done));intro k hk;replace hk:0<=k/\k<=16/\upto (yh a0 a2 a6 a7 p) k:=hk;obtain⟨k0,k1,k2⟩:=hk;cbv)|(refine aa (O.ar .add .i64 k 1) ?_ ?_ ?_;rotate_left 2;focus (cbv;done))
 all_goals(subst hO hr hF;(try simp only[af,SS,sa,az]at*);(try simp only[nc]at*);(try simp only[aF]at*))
 all_goals(try simp only[Og4.F0]at*)
 all_goals try rw[bD (by omega) (by omega)]
 all_goals(try have hok:hpI a0 a1 a2 a3 a4 a5 a6 a7 a8 a9 a10 a11 a12 a13 a14 a15 a16 a17 a18 a19 a20 a21 a22 a23=true:=(by assumption))
 all_goals(try have hm:¬ peM a2 p=0:=(by assumption))
 all_goals(try have pr:=J8 hm)
 all_goals(try have T:=oV hok)
 all_goals(try have c:=Bq (mk hok))
 all_goals(try have f:=BH c.2.1 hm)
 all_goals(try have g:=A1 c.1 f.1 f.2.1)
 all_goals(try have gw:=Rw.sub (fs:=[.sl [tI]]) (j:=0) (i:=peF a2 p) hcc (by omega) rfl)
 all_goals(try have sb:=Gq (sp:=a6) (p:=p) (by omega))
 all_goals(try have cs:=KX T.l (p:=p) (by omega))
 all_goals(try have e1:aV .mul .i64 p 16=p*16:=zJ (by omega))
 all_goals(try have e2:aV .add .i64 (p*16) k=p*16+k:=aB (by omega))
 all_goals(try have e3:aV .quo .i64 k (clsSz (ab a6 (spI a6 p) 1))=k/clsSz (ab a6 (spI a6 p) 1):=k8 (by omega) (by omega) (by omega))
 all_goals(try have e4:=Nf (a:=p*16+k) T.l)
 all_goals(try simp only[e1]at*)
 all_goals(try simp only[e2]at*)
 all_goals(try simp only[e3]at*)
 all_goals(try simp only[e4]at*)
 all_goals first
  |(exfalso;omega)
  |(have q:false=true:=(by assumption);cases q)
  | (show(_:List DV)=_
     first
      |exact ah (J6 (by assumption)).symm
      |exact ah (J7 (by assumption)).symm
      |exact ah (BG hok hm k2 (by omega)).symm
      |exact ah (zW k0 (by omega) (FE T.l T.p hm k0 (by omega) (by assumption) (QL (by omega) (by assumption)))).symm
      |exact ah (zW k0 (by omega) (FE T.l T.p hm k0 (by omega) (by assumption) (QM (by omega) (by assumption)))).symm
      |done)
  |omega
  |(show aK _ _=true;kernel_rfl)
  |(refine⟨by omega,by omega,(Rw.eta (by first|assumption|exact Rw.sub (by first|assumption|exact Rw.sub (by assumption) (by omega) rfl) (by omega) rfl) (by omega) (by omega)).trans ?_⟩;rfl)
  |exact hp
  |exact he
  |exact⟨hsw,by omega⟩
  |exact⟨he,hsw,by omega,by omega⟩
  |exact⟨hsw,hlw,by omega,by omega,by omega,by omega⟩
  |exact aL
  |exact ax k2 (J5 (by assumption))
  |exact ax k2 (FF T.l T.p hm k0 (by omega) (QO (by omega) (by assumption)))
  |exact ax k2 (FF T.l T.p hm k0 (by omega) (QP (by omega) (by assumption)))
  |done
end Go.V