/-
  Contracts, by evaluation.
-/
import Derived.Test.YtniaaknbbceigaaGreatS10
import Derived.Test.YtniaaknbbceigaaGreatHB
import Derived.Test.YtniaaknbbceigaaGreatOfAq
set_option linter.all false
namespace Go.V
open Go Go.Proofs
set_option maxRecDepth 1000000
set_option maxHeartbeats 8000000
namespace Od0
structure Fns where
 peM:List (List L)->Int->Int
 peF:List (List L)->Int->Int
def F0 :Fns:=⟨peM,peF⟩
def ct (F:Fns):CT:=fun f ds=>match f,ds with
 |176,[.agg [.s 2 es],.one (.v (.int .i64 p))]=>some (fun _=>Rw [tI,tI] es,[.agg [.v (.int .i64 (F.peM es p)),.v (.int .i64 (F.peF es p))]])
 |72,[.agg [.s 2 es],.one (.v (.int .i64 p))]=>some (fun _=>Rw [tI,tI] es,[.agg [.v (.int .i64 (F.peM es p)),.v (.int .i64 (F.peF es p))]])
 |_,_=>none
theorem ak :aW Tryz.prog (ct F0):=by
 intro f ds pre res h hp;unfold ct at h;split at h<;>(try split at h)<;>cases h
 exact di _ _ hp;exact eY _ _ hp
def B :TB Tryz.prog:=tb ak
end Od0
theorem lW (d0 d1 d2 d3 id:Int)(hp:True):aP Tryz.prog 100 [.agg [.v (.int .i64 d0),.v (.int .i64 d1),.v (.int .i64 d2),.v (.int .i64 d3)],.ptr [.v (.int .i64 id)]] [.one (.v (.bool (eqB d0 id)))]:=by
 refine ai Od0.B ag mixed 8 _ [4] [.tmp 3] Tryz.func100 rfl rfl rfl rfl rfl ?_;intro O r (F:Od0.Fns) hO hr (hF:F=Od0.F0);cbv
 repeat' first|refine And.intro ?_ ?_|(refine aG (fun hb=>?_) (fun hb=>?_)<;>cbv)
 all_goals(subst hO hr hF;(try simp only[af,SS,sa,az]at*);(try simp only[nc]at*);(try simp only[aF]at*))
 all_goals first|exact rfl|done
namespace Od1
structure Fns where
 eqB:Int->Int->Bool
def F0 :Fns:=⟨eqB⟩
def ct (F:Fns):CT:=fun f ds=>match f,ds with
 |100,[.agg [.v (.int .i64 d0),.v (.int .i64 d1),.v (.int .i64 d2),.v (.int .i64 d3)],.ptr [.v (.int .i64 id)]]=>some (fun _=>True,[.one (.v (.bool (F.eqB d0 id)))])
 |_,_=>none
theorem ak :aW Tryz.prog (ct F0):=by
 intro f ds pre res h hp;unfold ct at h;split at h<;>(try split at h)<;>cases h
 exact lW _ _ _ _ _ hp
def B :TB Tryz.prog:=tb ak
end Od1
theorem bJ (os:List (List L))(id:Int)(hp:Rw [tI,tI,tI,tI] os/\os.length<=1099511627776):aP Tryz.prog 99 [.one (.s 4 os),.fn 100 [[.v (.int .i64 id)]]] [.one (.v (.int .i64 (oiI os id)))]:=by
 obtain⟨hw,hn⟩:=hp;refine ai Od1.B ag mixed 19 _ [3] [.tmp 4] Tryz.func99 rfl rfl rfl rfl rfl ?_;intro O r (F:Od1.Fns) hO hr (hF:F=Od1.F0);cbv
 repeat' first|refine And.intro ?_ ?_|(refine aG (fun hb=>?_) (fun hb=>?_)<;>cbv)|(refine⟨[0,1,7,8],[0],Int,fun i=>[.reg 8 (.one (.v (.int .i64 i)))],fun i=>0<=i/\i<=((os.length:Nat):Int)/\upto (bV (jB os id)) i,fun i=>(os.length)-i.toNat,⟨0,?_,?_⟩,?_⟩;rotate_left;(focus (cbv;done));intro i hi;replace hi:0<=i/\i<=((os.length:Nat):Int)/\upto (bV (jB os id)) i:=hi;obtain⟨i0,i1,i2⟩:=hi;cbv)|(refine aa (O.ar .add .i64 i 1) ?_ ?_ ?_;rotate_left 2;focus (cbv;done))
 all_goals(subst hO hr hF;(try simp only[af,SS,sa,az]at*);(try simp only[nc]at*);(try simp only[aF]at*))
 all_goals(try simp only[Od1.F0]at*)
 all_goals try rw[bD (by omega) (by omega)]
 all_goals first
  | (show(_:List DV)=_
     first
      |exact bj (dm i2 i0 (by assumption) (show jB os id i=true from by assumption)).symm
      |exact bj (dn i2 (by assumption)).symm
      |done)
  |omega
  |(refine⟨by omega,by omega,(Rw.eta (by first|assumption|exact Rw.sub (by first|assumption|exact Rw.sub (by assumption) (by omega) rfl) (by omega) rfl) (by omega) (by omega)).trans ?_⟩;rfl)
  |(show(lk _ _).isSome=true;kernel_rfl)
  |exact aL
  |exact ax i2 (hH (show jB os id i=false from by assumption))
  |done
theorem rt (a0 a1 a2:List (List L))(a3:Int)(a4 a5 a6 a7 a8 a9 a10 a11:List (List L))(a12:Int)(a13:List (List L))(a14 a15 a16 a17:Int)(a18:Bool)(a19 a20:Int)(a21:List (List L))(a22 a23 a n:Int)(hp:Rw [.sl [tI]] a0/\Rw [tI,tI] a2/\Ix a0 a2 a n):aP Tryz.prog 101 [.agg [.s 1 a0,.s 1 a1,.s 2 a2,.v (.int .i64 a3),.s 1 a4,.s 2 a5,.s 3 a6,.s 3 a7,.s 4 a8,.s 1 a9,.s 1 a10,.s 1 a11,.v (.int .i64 a12),.s 3 a13,.v (.int .i64 a14),.v (.int .i64 a15),.v (.int .i64 a16),.v (.int .i64 a17),.v (.bool a18),.v (.int .i64 a19),.v (.int .i64 a20),.s 1 a21,.v (.int .i64 a22),.v (.int .i64 a23)],.one (.v (.int .i64 a)),.one (.v (.int .i64 n))] [.one (.s 1 (clL a0 a2 a n))]:=by
 obtain⟨hc,he,hC⟩:=hp;refine ai Od0.B ag mixed 44 _ [31] [.tmp 6] Tryz.func101 rfl rfl rfl rfl rfl ?_;intro O r (F:Od0.Fns) hO hr (hF:F=Od0.F0);cbv
 repeat' first|refine And.intro ?_ ?_|(refine aG (fun hb=>?_) (fun hb=>?_)<;>cbv)|(refine⟨[1,2,3,7,8],[3,7],Int×List (List L),fun s_=>match s_ with|(i,o)=>[.reg 8 (.one (.v (.int .i64 i))),.reg 7 (.one (.vw 7 0 0 0 (O.ln o))),.leaf 7 0 ⟨0,0,none,.own (.s 1 o)⟩],fun s_=>match s_ with|(i,o)=>0<=i/\i<=n/\C7 a0 a2 a i o,fun s_=>match s_ with|(i,o)=>(n-i).toNat,⟨(0,[]),?_,?_⟩,?_⟩;rotate_left;(focus (cbv;done));intro s_ hi;obtain⟨i,o⟩:=s_;replace hi:0<=i/\i<=n/\C7 a0 a2 a i o:=hi;obtain⟨i0,i1,i2⟩:=hi;cbv)|(refine aa (O.ar .add .i64 i 1,O.cat o (O.sub [[.v (.int .i64 (O.gi (O.gs a0 (F.peF a2 (O.ar .quo .i64 (O.ar .add .i64 a i) 16)) 0) (O.ar .rem .i64 (O.ar .add .i64 a i) 16) 0))]] 0 (O.ln [[.v (.int .i64 (O.gi (O.gs a0 (F.peF a2 (O.ar .quo .i64 (O.ar .add .i64 a i) 16)) 0) (O.ar .rem .i64 (O.ar .add .i64 a i) 16) 0))]]))) ?_ ?_ ?_;rotate_left 2;focus (cbv;done))
 all_goals(subst hO hr hF;(try simp only[af,SS,sa,az]at*);(try simp only[nc]at*);(try simp only[aF]at*))
 all_goals(try simp only[Od0.F0]at*)
 all_goals(try have cb:=hC.b)
 all_goals(try have z:=I2 hC i0 (by assumption))
 all_goals(try rw[z.2.1,z.2.2.1]at*)
 all_goals(try have f:=hC.f i i0 (by assumption))
 all_goals(try have hr:Rw [tI] (ay a0 (peF a2 ((a+i)/16)) 0):=Rw.sub (fs:=[.sl [tI]]) hc (by omega) rfl)
 all_goals try rw[bD (by omega) (by omega)]
 all_goals(try have w1:=AQ i2 i0)
 all_goals first
  | (show(_:List DV)=_
     first
      |exact eQ (AP i2 i1 (by omega))
      |done)
  |omega
  |(refine⟨by omega,by omega,(Rw.eta (by first|assumption|exact Rw.sub (by first|assumption|exact Rw.sub (by assumption) (by omega) rfl) (by omega) rfl) (by omega) (by omega)).trans ?_⟩;rfl)
  |exact DR i2 i0
  |exact Na
  |(constructor<;>(simp only[List.length_cons,List.length_nil];omega))
  |exact⟨True.intro,True.intro⟩
  |done
theorem jq (a0 a1 a2:List (List L))(a3:Int)(a4 a5 a6 a7 a8 a9 a10 a11:List (List L))(a12:Int)(a13:List (List L))(a14 a15 a16 a17:Int)(a18:Bool)(a19 a20:Int)(a21:List (List L))(a22 a23 o0 a n o3:Int)(hp:Rw [.sl [tI]] a0/\Rw [tI,tI] a2/\Ix a0 a2 a n):aP Tryz.prog 82 [.ptr [.s 1 a0,.s 1 a1,.s 2 a2,.v (.int .i64 a3),.s 1 a4,.s 2 a5,.s 3 a6,.s 3 a7,.s 4 a8,.s 1 a9,.s 1 a10,.s 1 a11,.v (.int .i64 a12),.s 3 a13,.v (.int .i64 a14),.v (.int .i64 a15),.v (.int .i64 a16),.v (.int .i64 a17),.v (.bool a18),.v (.int .i64 a19),.v (.int .i64 a20),.s 1 a21,.v (.int .i64 a22),.v (.int .i64 a23)],.agg [.v (.int .i64 o0),.v (.int .i64 a),.v (.int .i64 n),.v (.int .i64 o3)]] [.one (.s 1 (clL a0 a2 a n))]:=by
 obtain⟨hc,he,hC⟩:=hp;refine ai Od0.B ag mixed 48 _ [31] [.tmp 4] Tryz.func82 rfl rfl rfl rfl rfl ?_;intro O r (F:Od0.Fns) hO hr (hF:F=Od0.F0);cbv
 repeat' first|refine And.intro ?_ ?_|(refine aG (fun hb=>?_) (fun hb=>?_)<;>cbv)|(refine⟨[0,3,5,6],[3,5],Int×List (List L),fun s_=>match s_ with|(i,o)=>[.reg 6 (.one (.v (.int .i64 i))),.reg 5 (.one (.vw 5 0 0 0 (O.ln o))),.leaf 5 0 ⟨0,0,none,.own (.s 1 o)⟩],fun s_=>match s_ with|(i,o)=>0<=i/\i<=n/\C7 a0 a2 a i o,fun s_=>match s_ with|(i,o)=>(n-i).toNat,⟨(0,[]),?_,?_⟩,?_⟩;rotate_left;(focus (cbv;done));intro s_ hi;obtain⟨i,o⟩:=s_;replace hi:0<=i/\i<=n/\C7 a0 a2 a i o:=hi;obtain⟨i0,i1,i2⟩:=hi;cbv)|(refine aa (O.ar .add .i64 i 1,O.cat o (O.sub [[.v (.int .i64 (O.gi (O.gs a0 (F.peF a2 (O.ar .quo .i64 (O.ar .add .i64 a i) 16)) 0) (O.ar .rem .i64 (O.ar .add .i64 a i) 16) 0))]] 0 (O.ln [[.v (.int .i64 (O.gi (O.gs a0 (F.peF a2 (O.ar .quo .i64 (O.ar .add .i64 a i) 16)) 0) (O.ar .rem .i64 (O.ar .add .i64 a i) 16) 0))]]))) ?_ ?_ ?_;rotate_left 2;focus (cbv;done))
 all_goals(subst hO hr hF;(try simp only[af,SS,sa,az]at*);(try simp only[nc]at*);(try simp only[aF]at*))
 all_goals(try simp only[Od0.F0]at*)
 all_goals(try have cb:=hC.b)
 all_goals(try have z:=I2 hC i0 (by assumption))
 all_goals(try rw[z.2.1,z.2.2.1]at*)
 all_goals(try have f:=hC.f i i0 (by assumption))
 all_goals(try have hr:Rw [tI] (ay a0 (peF a2 ((a+i)/16)) 0):=Rw.sub (fs:=[.sl [tI]]) hc (by omega) rfl)
 all_goals try rw[bD (by omega) (by omega)]
 all_goals(try have w1:=AQ i2 i0)
 all_goals first
  | (show(_:List DV)=_
     first
      |exact eQ (AP i2 i1 (by omega))
      |done)
  |omega
  |(refine⟨by omega,by omega,(Rw.eta (by first|assumption|exact Rw.sub (by first|assumption|exact Rw.sub (by assumption) (by omega) rfl) (by omega) rfl) (by omega) (by omega)).trans ?_⟩;rfl)
  |exact DR i2 i0
  |exact Na
  |(constructor<;>(simp only[List.length_cons,List.length_nil];omega))
  |exact⟨True.intro,True.intro⟩
  |done
namespace Od2
structure Fns where
 hpI:List (List L)->List (List L)->List (List L)->Int->List (List L)->List (List L)->List (List L)->List (List L)->List (List L)->List (List L)->List (List L)->List (List L)->Int->List (List L)->Int->Int->Int->Int->Bool->Int->Int->List (List L)->Int->Int->Bool
 clL:List (List L)->List (List L)->Int->Int->List (List L)
 oiI:List (List L)->Int->Int
def F0 :Fns:=⟨hpI,clL,oiI⟩
def ct (F:Fns):CT:=fun f ds=>match f with
 | 55=>match ds with
   |[.agg [.s 1 a0,.s 1 a1,.s 2 a2,.v (.int .i64 a3),.s 1 a4,.s 2 a5,.s 3 a6,.s 3 a7,.s 4 a8,.s 1 a9,.s 1 a10,.s 1 a11,.v (.int .i64 a12),.s 3 a13,.v (.int .i64 a14),.v (.int .i64 a15),.v (.int .i64 a16),.v (.int .i64 a17),.v (.bool a18),.v (.int .i64 a19),.v (.int .i64 a20),.s 1 a21,.v (.int .i64 a22),.v (.int .i64 a23)]]=>some (fun _=>jC a0 a1 a2 a4 a5 a6 a7 a8 a9 a10 a11 a13 a21,[.one (.v (.bool (F.hpI a0 a1 a2 a3 a4 a5 a6 a7 a8 a9 a10 a11 a12 a13 a14 a15 a16 a17 a18 a19 a20 a21 a22 a23)))])
   |_=>none
 | 44=>match ds with
   |[.agg [.s 1 a0,.s 1 a1,.s 2 a2,.v (.int .i64 a3),.s 1 a4,.s 2 a5,.s 3 a6,.s 3 a7,.s 4 a8,.s 1 a9,.s 1 a10,.s 1 a11,.v (.int .i64 a12),.s 3 a13,.v (.int .i64 a14),.v (.int .i64 a15),.v (.int .i64 a16),.v (.int .i64 a17),.v (.bool a18),.v (.int .i64 a19),.v (.int .i64 a20),.s 1 a21,.v (.int .i64 a22),.v (.int .i64 a23)]]=>some (fun _=>jC a0 a1 a2 a4 a5 a6 a7 a8 a9 a10 a11 a13 a21,[.one (.v (.bool (F.hpI a0 a1 a2 a3 a4 a5 a6 a7 a8 a9 a10 a11 a12 a13 a14 a15 a16 a17 a18 a19 a20 a21 a22 a23)))])
   |_=>none
 | 101=>match ds with
   |[.agg [.s 1 a0,.s 1 a1,.s 2 a2,.v (.int .i64 a3),.s 1 a4,.s 2 a5,.s 3 a6,.s 3 a7,.s 4 a8,.s 1 a9,.s 1 a10,.s 1 a11,.v (.int .i64 a12),.s 3 a13,.v (.int .i64 a14),.v (.int .i64 a15),.v (.int .i64 a16),.v (.int .i64 a17),.v (.bool a18),.v (.int .i64 a19),.v (.int .i64 a20),.s 1 a21,.v (.int .i64 a22),.v (.int .i64 a23)],.one (.v (.int .i64 a)),.one (.v (.int .i64 n))]=>some (fun _=>Rw [.sl [tI]] a0/\Rw [tI,tI] a2/\Ix a0 a2 a n,[.one (.s 1 (F.clL a0 a2 a n))])
   |_=>none
 | 82=>match ds with
   |[.ptr [.s 1 a0,.s 1 a1,.s 2 a2,.v (.int .i64 a3),.s 1 a4,.s 2 a5,.s 3 a6,.s 3 a7,.s 4 a8,.s 1 a9,.s 1 a10,.s 1 a11,.v (.int .i64 a12),.s 3 a13,.v (.int .i64 a14),.v (.int .i64 a15),.v (.int .i64 a16),.v (.int .i64 a17),.v (.bool a18),.v (.int .i64 a19),.v (.int .i64 a20),.s 1 a21,.v (.int .i64 a22),.v (.int .i64 a23)],.agg [.v (.int .i64 o0),.v (.int .i64 a),.v (.int .i64 n),.v (.int .i64 o3)]]=>some (fun _=>Rw [.sl [tI]] a0/\Rw [tI,tI] a2/\Ix a0 a2 a n,[.one (.s 1 (F.clL a0 a2 a n))])
   |_=>none
 | 99=>match ds with
   |[.one (.s 4 os),.fn 100 [[.v (.int .i64 id)]]]=>some (fun _=>Rw [tI,tI,tI,tI] os/\os.length<=1099511627776,[.one (.v (.int .i64 (F.oiI os id)))])
   |_=>none
 |_=>none
theorem ak :aW Tryz.prog (ct F0):=by
 intro f ds pre res h hp;unfold ct at h;split at h<;>(try split at h)<;>cases h
 exact dF _ _ _ _ _ _ _ _ _ _ _ _ _ _ _ _ _ _ _ _ _ _ _ _ hp;exact fo _ _ _ _ _ _ _ _ _ _ _ _ _ _ _ _ _ _ _ _ _ _ _ _ hp;exact rt _ _ _ _ _ _ _ _ _ _ _ _ _ _ _ _ _ _ _ _ _ _ _ _ _ _ hp;exact jq _ _ _ _ _ _ _ _ _ _ _ _ _ _ _ _ _ _ _ _ _ _ _ _ _ _ _ _ hp;exact bJ _ _ hp
def B :TB Tryz.prog:=tb ak
end Od2
theorem jg (a0 a1 a2:List (List L))(a3:Int)(a4 a5 a6 a7 a8 a9 a10 a11:List (List L))(a12:Int)(a13:List (List L))(a14 a15 a16 a17:Int)(a18:Bool)(a19 a20:Int)(a21:List (List L))(a22 a23 id:Int)(hp:jC a0 a1 a2 a4 a5 a6 a7 a8 a9 a10 a11 a13 a21):aP Tryz.prog 30 [.agg [.s 1 a0,.s 1 a1,.s 2 a2,.v (.int .i64 a3),.s 1 a4,.s 2 a5,.s 3 a6,.s 3 a7,.s 4 a8,.s 1 a9,.s 1 a10,.s 1 a11,.v (.int .i64 a12),.s 3 a13,.v (.int .i64 a14),.v (.int .i64 a15),.v (.int .i64 a16),.v (.int .i64 a17),.v (.bool a18),.v (.int .i64 a19),.v (.int .i64 a20),.s 1 a21,.v (.int .i64 a22),.v (.int .i64 a23)],.one (.v (.int .i64 id))] [.one (.s 1 (ctsL (hpI a0 a1 a2 a3 a4 a5 a6 a7 a8 a9 a10 a11 a12 a13 a14 a15 a16 a17 a18 a19 a20 a21 a22 a23) a8 a0 a2 id)),.one (.v (.bool (ctsB (hpI a0 a1 a2 a3 a4 a5 a6 a7 a8 a9 a10 a11 a12 a13 a14 a15 a16 a17 a18 a19 a20 a21 a22 a23) a8 id)))]:=by
 have N:=hp.n;have how:=N.ow;have hol:=N.ol;refine ai Od2.B ag mixed 32 _ [31,4] [.tmp 4,.tmp 5] Tryz.func30 rfl rfl rfl rfl rfl ?_;intro O r (F:Od2.Fns) hO hr (hF:F=Od2.F0);cbv
 repeat' first|refine And.intro ?_ ?_|(refine aG (fun hb=>?_) (fun hb=>?_)<;>cbv)
 all_goals(subst hO hr hF;(try simp only[af,SS,sa,az]at*);(try simp only[nc]at*);(try simp only[aF]at*))
 all_goals(try simp only[Od2.F0]at*)
 all_goals(try have hok:hpI a0 a1 a2 a3 a4 a5 a6 a7 a8 a9 a10 a11 a12 a13 a14 a15 a16 a17 a18 a19 a20 a21 a22 a23=true:=(by assumption))
 all_goals(try have OC:=s8 N.ow (by omega) hok)
 all_goals(try have ol:=JU (os:=a8) (id:=id) (by omega))
 all_goals first
  | (show(_:List DV)=_
     first
      |(have q:=AX (b:=(hpI a0 a1 a2 a3 a4 a5 a6 a7 a8 a9 a10 a11 a12 a13 a14 a15 a16 a17 a18 a19 a20 a21 a22 a23)) (os:=a8) (cs:=a0) (es:=a2) (id:=id) (by omega);exact nW q.1.symm q.2.symm)
      |(have q:=AW (b:=(hpI a0 a1 a2 a3 a4 a5 a6 a7 a8 a9 a10 a11 a12 a13 a14 a15 a16 a17 a18 a19 a20 a21 a22 a23)) (os:=a8) (cs:=a0) (es:=a2) (id:=id) (by assumption);exact nW q.1.symm q.2.symm)
      |(rw[hok];have q:=zm (os:=a8) (cs:=a0) (es:=a2) (id:=id) (by omega);exact nW q.1 q.2)
      |done)
  |omega
  |(refine⟨by omega,by omega,(Rw.eta (by first|assumption|exact Rw.sub (by first|assumption|exact Rw.sub (by assumption) (by omega) rfl) (by omega) rfl) (by omega) (by omega)).trans ?_⟩;rfl)
  |(show aK _ _=true;kernel_rfl)
  |exact⟨how,by omega⟩
  |exact⟨hp.c,hp.e,vX OC (by omega) (by omega)⟩
  |exact⟨True.intro,True.intro⟩
  |done
theorem qo (a0 a1 a2:List (List L))(a3:Int)(a4 a5 a6 a7 a8 a9 a10 a11:List (List L))(a12:Int)(a13:List (List L))(a14 a15 a16 a17:Int)(a18:Bool)(a19 a20:Int)(a21:List (List L))(a22 a23 id:Int)(hp:jC a0 a1 a2 a4 a5 a6 a7 a8 a9 a10 a11 a13 a21):aP Tryz.prog 29 [.agg [.s 1 a0,.s 1 a1,.s 2 a2,.v (.int .i64 a3),.s 1 a4,.s 2 a5,.s 3 a6,.s 3 a7,.s 4 a8,.s 1 a9,.s 1 a10,.s 1 a11,.v (.int .i64 a12),.s 3 a13,.v (.int .i64 a14),.v (.int .i64 a15),.v (.int .i64 a16),.v (.int .i64 a17),.v (.bool a18),.v (.int .i64 a19),.v (.int .i64 a20),.s 1 a21,.v (.int .i64 a22),.v (.int .i64 a23)],.one (.v (.int .i64 id))] [.one (.s 1 (ctsL (hpI a0 a1 a2 a3 a4 a5 a6 a7 a8 a9 a10 a11 a12 a13 a14 a15 a16 a17 a18 a19 a20 a21 a22 a23) a8 a0 a2 id)),.one (.v (.bool (ctsB (hpI a0 a1 a2 a3 a4 a5 a6 a7 a8 a9 a10 a11 a12 a13 a14 a15 a16 a17 a18 a19 a20 a21 a22 a23) a8 id)))]:=by
 have N:=hp.n;have how:=N.ow;have hol:=N.ol;refine ai Od2.B ag mixed 33 _ [31,4] [.tmp 4,.tmp 5] Tryz.func29 rfl rfl rfl rfl rfl ?_;intro O r (F:Od2.Fns) hO hr (hF:F=Od2.F0);cbv
 repeat' first|refine And.intro ?_ ?_|(refine aG (fun hb=>?_) (fun hb=>?_)<;>cbv)|(refine⟨[1,2,6],[2],Int,fun i=>[.reg 6 (.one (.v (.int .i64 i)))],fun i=>0<=i/\i<=((a8.length:Nat):Int)/\upto (bV (jB a8 id)) i,fun i=>(a8.length)-i.toNat,⟨0,?_,?_⟩,?_⟩;rotate_left;(focus (cbv;done));intro i hi;replace hi:0<=i/\i<=((a8.length:Nat):Int)/\upto (bV (jB a8 id)) i:=hi;obtain⟨i0,i1,i2⟩:=hi;cbv)|(refine aa (O.ar .add .i64 i 1) ?_ ?_ ?_;rotate_left 2;focus (cbv;done))
 all_goals(subst hO hr hF;(try simp only[af,SS,sa,az]at*);(try simp only[nc]at*);(try simp only[aF]at*))
 all_goals(try simp only[Od2.F0]at*)
 all_goals try rw[bD (by omega) (by omega)]
 all_goals(try have hok:hpI a0 a1 a2 a3 a4 a5 a6 a7 a8 a9 a10 a11 a12 a13 a14 a15 a16 a17 a18 a19 a20 a21 a22 a23=true:=(by assumption))
 all_goals(try have OC:=s8 N.ow (by omega) hok)
 all_goals first
  | (show(_:List DV)=_
     first
      |(have q:=AX (b:=(hpI a0 a1 a2 a3 a4 a5 a6 a7 a8 a9 a10 a11 a12 a13 a14 a15 a16 a17 a18 a19 a20 a21 a22 a23)) (os:=a8) (cs:=a0) (es:=a2) (id:=id) (HZ i2 (by omega));exact nW q.1.symm q.2.symm)
      |(have q:=AW (b:=(hpI a0 a1 a2 a3 a4 a5 a6 a7 a8 a9 a10 a11 a12 a13 a14 a15 a16 a17 a18 a19 a20 a21 a22 a23)) (os:=a8) (cs:=a0) (es:=a2) (id:=id) (by assumption);exact nW q.1.symm q.2.symm)
      |(rw[hok];have e:=Fq i2 i0 (by assumption) (by assumption);have q:=zm (os:=a8) (cs:=a0) (es:=a2) (id:=id) (by omega);rw[e]at q;exact nW q.1 q.2)
      |done)
  |omega
  |(refine⟨by omega,by omega,(Rw.eta (by first|assumption|exact Rw.sub (by first|assumption|exact Rw.sub (by assumption) (by omega) rfl) (by omega) rfl) (by omega) (by omega)).trans ?_⟩;rfl)
  |exact⟨hp.c,hp.e,vX OC (by omega) (by omega)⟩
  |exact aL
  |exact ax i2 (hH (sD (by assumption)))
  |exact⟨True.intro,True.intro⟩
  |done
end Go.V