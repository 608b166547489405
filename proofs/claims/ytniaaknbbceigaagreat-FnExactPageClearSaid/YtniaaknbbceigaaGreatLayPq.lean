/-
  Contracts, by evaluation.
-/
import Derived.Test.YtniaaknbbceigaaGreatS10
import Derived.Test.YtniaaknbbceigaaGreatHB
import Derived.Test.YtniaaknbbceigaaGreatLayOq
set_option linter.all false
namespace Go.V
open Go Go.Proofs
set_option maxRecDepth 1000000
set_option maxHeartbeats 8000000
namespace Pa0
structure Fns where
 peM:List (List L)->Int->Int
 peF:List (List L)->Int->Int
def F0 :Fns:=⟨peM,peF⟩
def ct (F:Fns):CT:=fun f ds=>match f,ds with
 |176,[.agg [.s 2 es],.one (.v (.int .i64 p))]=>some (fun _=>Rw [tI,tI] es,[.agg [.v (.int .i64 (F.peM es p)),.v (.int .i64 (F.peF es p))]])
 |_,_=>none
theorem ak :aW Tryz.prog (ct F0):=by
 intro f ds pre res h hp;unfold ct at h;split at h<;>(try split at h)<;>cases h
 exact di _ _ hp
def B :TB Tryz.prog:=tb ak
end Pa0
theorem uc (a0 a1 a2:List (List L))(a3:Int)(a4:List (List L))(p:Int)(hp:Rw [tI,tI] a2):aP Tryz.prog 218 [.agg [.s 1 a0,.s 1 a1,.s 2 a2,.v (.int .i64 a3),.s 1 a4],.one (.v (.int .i64 p))] [.one (.v (.bool (mapB a2 p)))]:=by
 refine ai Pa0.B ag mixed 12 _ [4] [.tmp 4] Tryz.func218 rfl rfl rfl rfl rfl ?_;intro O r (F:Pa0.Fns) hO hr (hF:F=Pa0.F0);cbv
 repeat' first|refine And.intro ?_ ?_|(refine aG (fun hb=>?_) (fun hb=>?_)<;>cbv)
 all_goals(subst hO hr hF;(try simp only[af,SS,sa,az]at*);(try simp only[nc]at*);(try simp only[aF]at*))
 all_goals(try simp only[Pa0.F0]at*)
 all_goals first|(show(_:List DV)=_;refine ah ?_;unfold mapB;rw[v5];done)|exact hp|done
namespace Pa1
structure Fns where
 fpg:List (List L)->Int->List (List L)
 mapB:List (List L)->Int->Bool
 rhB:List (List L)->Int->Bool
 peM:List (List L)->Int->Int
 peF:List (List L)->Int->Int
 mshB:Int->Int->Int->Int->Int->Int->Bool
def F0 :Fns:=⟨fpg,mapB,rhB,peM,peF,mshB⟩
def ct (F:Fns):CT:=fun f ds=>match f,ds with
 |179,[.agg [.s 1 a0,.s 1 a1,.s 2 a2,.v (.int .i64 a3),.s 1 a4,.s 2 a5,.s 3 a6,.s 3 a7,.s 4 a8,.s 1 a9,.s 1 a10,.s 1 a11,.v (.int .i64 a12),.s 3 a13,.v (.int .i64 a14),.v (.int .i64 a15),.v (.int .i64 a16),.v (.int .i64 a17),.v (.bool a18),.v (.int .i64 a19),.v (.int .i64 a20),.s 1 a21,.v (.int .i64 a22),.v (.int .i64 a23)],.one (.v (.int .i64 pg))]=>some (fun _=>Rw [tI,tI] a2/\a2.length<=1099511627776,[.one (.s 1 (F.fpg a2 pg))])
 |218,[.agg [.s 1 a0,.s 1 a1,.s 2 a2,.v (.int .i64 a3),.s 1 a4],.one (.v (.int .i64 p))]=>some (fun _=>Rw [tI,tI] a2,[.one (.v (.bool (F.mapB a2 p)))])
 |219,[.one (.s 2 os),.one (.v (.int .i64 id))]=>some (fun _=>Rw [tI,tI] os/\os.length<=1099511627776,[.one (.v (.bool (F.rhB os id)))])
 |176,[.agg [.s 2 es],.one (.v (.int .i64 p))]=>some (fun _=>Rw [tI,tI] es,[.agg [.v (.int .i64 (F.peM es p)),.v (.int .i64 (F.peF es p))]])
 |220,[.agg [.v (.int .i64 p1),.v (.int .i64 k1),.v (.int .i64 b1)],.agg [.v (.int .i64 p2),.v (.int .i64 k2),.v (.int .i64 b2)]]=>some (fun _=>True,[.one (.v (.bool (F.mshB p1 k1 b1 p2 k2 b2)))])
 |_,_=>none
theorem ak :aW Tryz.prog (ct F0):=by
 intro f ds pre res h hp;unfold ct at h;split at h<;>(try split at h)<;>cases h
 exact eH _ _ _ _ _ _ _ _ _ _ _ _ _ _ _ _ _ _ _ _ _ _ _ _ _ hp;exact uc _ _ _ _ _ _ hp;exact pw _ _ hp;exact di _ _ hp;exact pq _ _ _ _ _ _ hp
def B :TB Tryz.prog:=tb ak
end Pa1
theorem rz (a0 a1 a2:List (List L))(a3:Int)(a4 a5 a6 a7 a8 a9 a10 a11:List (List L))(a12:Int)(a13:List (List L))(a14 a15 a16 a17:Int)(a18:Bool)(a19 a20:Int)(a21:List (List L))(a22 a23:Int)(hp:vG a6 a7 a8 a9 a10 a11 a13/\layOk a6 a7=true/\Rw [tI,tI] a2/\a2.length<=1099511627776/\Rw [tI,tI] a5/\a5.length<=1099511627776):aP Tryz.prog 145 [.agg [.s 1 a0,.s 1 a1,.s 2 a2,.v (.int .i64 a3),.s 1 a4,.s 2 a5,.s 3 a6,.s 3 a7,.s 4 a8,.s 1 a9,.s 1 a10,.s 1 a11,.v (.int .i64 a12),.s 3 a13,.v (.int .i64 a14),.v (.int .i64 a15),.v (.int .i64 a16),.v (.int .i64 a17),.v (.bool a18),.v (.int .i64 a19),.v (.int .i64 a20),.s 1 a21,.v (.int .i64 a22),.v (.int .i64 a23)]] [.one (.v (.bool (pgI a2 a5 a6 a7)))]:=by
 obtain⟨N,hlay,hew,hel,hfw,hfl⟩:=hp;have hsw:=N.sw;have hlw:=N.lw;have hsl:=N.sl;have hll:=N.ll;have F:=Bl hlay;have lgF:∀ j:Int,0<=j->j<a7.length->0<=ab a7 j 0/\1<=ab a7 j 1/\ab a7 j 0+ab a7 j 1<=32:=fun j h0 h1=>by
  have t:=fH (F.l j.toNat (by omega));rw[Int.toNat_of_nonneg h0]at t;have b:=gK t.1;omega
 refine ai Pa1.B ag mixed 177 _ [4] [.tmp 2] Tryz.func145 rfl rfl rfl rfl rfl ?_;intro O r (F:Pa1.Fns) hO hr (hF:F=Pa1.F0);cbv
 repeat' first|refine And.intro ?_ ?_|(refine aG (fun hb=>?_) (fun hb=>?_)<;>cbv)|(refine⟨[1,18,19,20],[1],Int,fun i=>[.reg 20 (.one (.v (.int .i64 i)))],fun i=>0<=i/\i<=(a6.length:Int)/\upto (q9 a6) i,fun i=>a6.length-i.toNat,⟨0,?_,?_⟩,?_⟩;rotate_left;(focus (cbv;done));intro i hi;replace hi:0<=i/\i<=(a6.length:Int)/\upto (q9 a6) i:=hi;obtain⟨i0,i1,i2⟩:=hi;cbv)|(refine⟨[1,5,42,43,44],[1,40],Int×List (List L),fun s_=>match s_ with|(q,m)=>[.reg 44 (.one (.v (.int .i64 q))),.leaf 40 0 ⟨0,0,none,.own (.m true m)⟩],fun s_=>match s_ with|(q,m)=>0<=q/\q<=(a6.length:Int)/\rf m (hL a6 q.toNat),fun s_=>match s_ with|(q,m)=>a6.length-q.toNat,⟨(0,[]),?_,?_⟩,?_⟩;rotate_left;(focus (cbv;done));intro s_ hq;obtain⟨q,m⟩:=s_;replace hq:0<=q/\q<=(a6.length:Int)/\rf m (hL a6 q.toNat):=hq;obtain⟨q0,q1,q2⟩:=hq;cbv)|(refine⟨[1,5,53,54,55],[1,40],Int×List (List L),fun s_=>match s_ with|(j,m1)=>[.reg 55 (.one (.v (.int .i64 j))),.leaf 40 0 ⟨0,0,none,.own (.m true m1)⟩],fun s_=>match s_ with|(j,m1)=>0<=j/\j<=(a7.length:Int)/\MM a2 a6 a7 j m1,fun s_=>match s_ with|(j,m1)=>a7.length-j.toNat,⟨(0,m),?_,?_⟩,?_⟩;rotate_left;(focus (cbv;done));intro s_ hj;obtain⟨j,m1⟩:=s_;replace hj:0<=j/\j<=(a7.length:Int)/\MM a2 a6 a7 j m1:=hj;obtain⟨j0,j1,j2⟩:=hj;cbv)|(refine⟨[1,5,9,10,53,54,55],[1,40,9],Int×List (List L),fun s_=>match s_ with|(p,m2)=>[.reg 10 (.one (.v (.int .i64 p))),.leaf 40 0 ⟨0,0,none,.own (.m true m2)⟩],fun s_=>match s_ with|(p,m2)=>ab a7 j 0<=p/\p<=ab a7 j 0+ab a7 j 1/\ML a2 a6 a7 j (p-ab a7 j 0) m2,fun s_=>match s_ with|(p,m2)=>(ab a7 j 0+ab a7 j 1-p).toNat,⟨(O.gi a7 j 0,m1),?_,?_⟩,?_⟩;rotate_left;(focus (cbv;done));intro s_ hp;obtain⟨p,m2⟩:=s_;replace hp:ab a7 j 0<=p/\p<=ab a7 j 0+ab a7 j 1/\ML a2 a6 a7 j (p-ab a7 j 0) m2:=hp;obtain⟨p0,p1,p2⟩:=hp;cbv)|(refine⟨[1,5,98,99],[1,40],Int,fun e=>[.reg 99 (.one (.v (.int .i64 e)))],fun e=>0<=e/\e<=(a2.length:Int)/\upto (uI a2 a5 a6 a7) e,fun e=>a2.length-e.toNat,⟨0,?_,?_⟩,?_⟩;rotate_left;(focus (cbv;done));intro e he;replace he:0<=e/\e<=(a2.length:Int)/\upto (uI a2 a5 a6 a7) e:=he;obtain⟨e0,e1,e2⟩:=he;cbv)|(refine⟨[1,122],[1],List Int,fun vs=>[.reg 122 (.one (.it m1 vs))],fun vs=>True/\∀ k∈vs,k<(a2.length:Int),fun vs=>m1.length-vs.length,⟨[],?_,?_⟩,?_⟩;rotate_left;(focus (cbv;done));intro vs qB;replace qB:True/\∀ k∈vs,k<(a2.length:Int):=qB;obtain⟨vs0,vs1⟩:=qB;cbv)|(refine⟨[1,136,137,138],[1],Int,fun u=>[.reg 138 (.one (.v (.int .i64 u)))],fun u=>0<=u/\u<=(a6.length:Int)/\upto (E3 a2 a6) u,fun u=>a6.length-u.toNat,⟨0,?_,?_⟩,?_⟩;rotate_left;(focus (cbv;done));intro u hu;replace hu:0<=u/\u<=(a6.length:Int)/\upto (E3 a2 a6) u:=hu;obtain⟨u0,u1,u2⟩:=hu;cbv)|(refine⟨[1,14,136,137,138,146,147,148],[1,14],Int,fun v=>[.reg 148 (.one (.v (.int .i64 v)))],fun v=>0<=v/\v<=u/\upto (CJ a2 a6 u) v,fun v=>(u-v).toNat,⟨0,?_,?_⟩,?_⟩;rotate_left;(focus (cbv;done));intro v hv;replace hv:0<=v/\v<=u/\upto (CJ a2 a6 u) v:=hv;obtain⟨v0,v1,v2⟩:=hv;cbv)|(refine aa (O.ar .add .i64 p 1,O.mu m2 p (.v (.bool true))) ?_ ?_ ?_;rotate_left 2;focus (cbv;done))|(refine aa (O.ar .add .i64 j 1,m2) ?_ ?_ ?_;rotate_left 2;focus (cbv;done))|(refine aa (O.ar .add .i64 q 1,O.mu m (O.gi a6 q 0) (.v (.bool true))) ?_ ?_ ?_;rotate_left 2;focus (cbv;done))|(refine aa (O.ar .add .i64 v 1) ?_ ?_ ?_;rotate_left 2;focus (cbv;done))|(refine aa (O.ar .add .i64 u 1) ?_ ?_ ?_;rotate_left 2;focus (cbv;done))|(refine aa (O.ar .add .i64 e 1) ?_ ?_ ?_;rotate_left 2;focus (cbv;done))|(refine aa (O.ar .add .i64 i 1) ?_ ?_ ?_;rotate_left 2;focus (cbv;done))|(refine aa (kk::vs) ?_ ?_ ?_;rotate_left 2;focus (cbv;done))|((intro(kk:Int) (hkk:O.pr _);cbv))|((intro(hkk:O.pr _);cbv))
 all_goals(subst hO hr hF;(try simp only[af,SS,sa,az]at*);(try simp only[nc]at*);(try simp only[aF]at*))
 all_goals(try simp only[Pa1.F0]at*)
 all_goals try rw[bD (by omega) (by omega)]
 all_goals(try have zi:=tF i0 (by omega))
 all_goals(try simp only[zi]at*)
 all_goals(try have zj:=tF j0 (by omega))
 all_goals(try simp only[zj]at*)
 all_goals(try have lf:=lgF j j0 (by assumption))
 all_goals(try have zl:aV .add .i64 (ab a7 j 0) (ab a7 j 1)=ab a7 j 0+ab a7 j 1:=aB (by omega))
 all_goals(try simp only[zl]at*)
 all_goals(try have zp:aV .add .i64 p 1=p+1:=aB (by omega))
 all_goals(try simp only[zp]at*)
 all_goals(try have zv:aV .add .i64 v 1=v+1:=aB (by omega))
 all_goals(try simp only[zv]at*)
 all_goals(try simp only[OW (L8 j2 j1 (by assumption))]at*)
 all_goals(try simp only[tG]at*)
 all_goals(try have tl:(List.take u.toNat a6).length=u.toNat:=by(rw[List.length_take];omega))
 all_goals(try have hwt:=Rw.take hsw u.toNat)
 all_goals(try simp only[qQ (es:=a6) (n:=u.toNat) (i:=v) (by omega)]at*)
 all_goals first
  | (show(_:List DV)=_
     first
      |(refine ah ?_;symm;exact O0 i0 (by assumption) (Cd (by assumption) (by assumption)))
      |(refine ah ?_;symm;exact Kb j0 (by assumption) (Jz (Cd (by assumption) (by assumption))))
      |(refine ah ?_;symm;exact Kb j0 (by assumption) (O4 p0 (by assumption) (by omega)))
      |(refine ah ?_;symm;exact Kc e0 (by assumption) (Jd (by assumption)))
      |(refine ah ?_;symm;exact Kc e0 (by assumption) (Je (by assumption)))
      |(refine ah ?_;symm;exact O1 (OP (((L8 j2 j1 (by assumption)).k _).1 hkk.1) (by assumption)))
      |(refine ah ?_;symm;exact O2 u0 (by assumption) (QJ v0 (by omega) (by assumption) (by assumption)))
      |(refine ah ?_;symm;exact QR i2 (by omega) j2.ok (by omega) e2 (by omega) (QN (L8 j2 j1 (by assumption)) vs1 hkk) u2 (by omega))
      |done)
  |omega
  |(refine⟨by omega,by omega,(Rw.eta (by first|assumption|exact Rw.sub (by first|assumption|exact Rw.sub (by assumption) (by omega) rfl) (by omega) rfl) (by omega) (by omega)).trans ?_⟩;rfl)
  |(show aK _ _=true;kernel_rfl)
  |exact⟨hew,hel⟩
  |exact⟨hfw,hfl⟩
  |exact aL
  |exact ax i2 (Ce (by omega))
  |exact ax i2 (Cf (by assumption))
  |(rw[ko q0];exact Fy q2)
  |exact OV
  |exact QS q2 q1 (by omega)
  |exact O3 j2 (Ce (by omega))
  |exact O3 j2 (Cf (by assumption))
  |exact O5 p2 p0 (by omega)
  |exact O6 p2 j0 (by omega) p1 (by omega)
  |exact ax e2 (Ng (by assumption) (by assumption))
  |exact PZ vs1 (by assumption)
  |exact fun k hk=>by cases hk
  |(have q:=hkk.2;simp only[List.length_cons];omega)
  |exact ax v2 (Oh (by assumption))
  |exact ax v2 (Oi (by assumption))
  |exact ax u2 (QK v2 (by omega) u0)
  |done
namespace Pa2
structure Fns where
 fpg:List (List L)->Int->List (List L)
 hasB:List (List L)->Int->Bool
 rhB:List (List L)->Int->Bool
def F0 :Fns:=⟨fpg,hasB,rhB⟩
def ct (F:Fns):CT:=fun f ds=>match f,ds with
 |171,[.agg [.s 1 a0,.s 1 a1,.s 2 a2,.v (.int .i64 a3),.s 1 a4,.s 2 a5,.s 3 a6,.s 3 a7,.s 4 a8,.s 1 a9,.s 1 a10,.s 1 a11,.v (.int .i64 a12),.s 3 a13,.v (.int .i64 a14),.v (.int .i64 a15),.v (.int .i64 a16),.v (.int .i64 a17),.v (.bool a18),.v (.int .i64 a19),.v (.int .i64 a20),.s 1 a21,.v (.int .i64 a22),.v (.int .i64 a23)],.one (.v (.int .i64 pg))]=>some (fun _=>Rw [tI,tI] a2/\a2.length<=1099511627776,[.one (.s 1 (F.fpg a2 pg))])
 |201,[.one (.s 1 l),.one (.v (.int .i64 x))]=>some (fun _=>Rw [tI] l,[.one (.v (.bool (F.hasB l x)))])
 |203,[.one (.s 2 os),.one (.v (.int .i64 id))]=>some (fun _=>Rw [tI,tI] os/\os.length<=1099511627776,[.one (.v (.bool (F.rhB os id)))])
 |_,_=>none
theorem ak :aW Tryz.prog (ct F0):=by
 intro f ds pre res h hp;unfold ct at h;split at h<;>(try split at h)<;>cases h
 exact eJ _ _ _ _ _ _ _ _ _ _ _ _ _ _ _ _ _ _ _ _ _ _ _ _ _ hp;exact fu _ _ hp;exact qv _ _ hp
def B :TB Tryz.prog:=tb ak
end Pa2
theorem qz (a0 a1 a2:List (List L))(a3:Int)(a4 a5 a6 a7 a8 a9 a10 a11:List (List L))(a12:Int)(a13:List (List L))(a14 a15 a16 a17:Int)(a18:Bool)(a19 a20:Int)(a21:List (List L))(a22 a23:Int)(hp:vG a6 a7 a8 a9 a10 a11 a13/\layOk a6 a7=true/\Rw [tI,tI] a2/\a2.length<=1099511627776/\Rw [tI,tI] a5/\a5.length<=1099511627776):aP Tryz.prog 121 [.agg [.s 1 a0,.s 1 a1,.s 2 a2,.v (.int .i64 a3),.s 1 a4,.s 2 a5,.s 3 a6,.s 3 a7,.s 4 a8,.s 1 a9,.s 1 a10,.s 1 a11,.v (.int .i64 a12),.s 3 a13,.v (.int .i64 a14),.v (.int .i64 a15),.v (.int .i64 a16),.v (.int .i64 a17),.v (.bool a18),.v (.int .i64 a19),.v (.int .i64 a20),.s 1 a21,.v (.int .i64 a22),.v (.int .i64 a23)]] [.one (.v (.bool (pgS a2 a5 a6 a7)))]:=by
 obtain⟨N,hlay,hew,hel,hfw,hfl⟩:=hp;have hsw:=N.sw;have hlw:=N.lw;have hsl:=N.sl;have hll:=N.ll;have F:=Bl hlay;have lgF:∀ j:Int,0<=j->j<a7.length->0<=ab a7 j 0/\1<=ab a7 j 1/\ab a7 j 0+ab a7 j 1<=32:=fun j h0 h1=>by
  have t:=fH (F.l j.toNat (by omega));rw[Int.toNat_of_nonneg h0]at t;have b:=gK t.1;omega
 refine ai Pa2.B ag mixed 144 _ [4] [.tmp 2] Tryz.func121 rfl rfl rfl rfl rfl ?_;intro O r (F:Pa2.Fns) hO hr (hF:F=Pa2.F0);cbv
 repeat' first|refine And.intro ?_ ?_|(refine aG (fun hb=>?_) (fun hb=>?_)<;>cbv)|(refine⟨[1,3,4,5,6],[1,3,5],Int×List (List L),fun s_=>match s_ with|(i,o)=>[.reg 6 (.one (.v (.int .i64 i))),.reg 5 (.one (.vw 5 0 0 0 (O.ln o))),.leaf 5 0 ⟨0,0,none,.own (.s 1 o)⟩],fun s_=>match s_ with|(i,o)=>0<=i/\i<=(a6.length:Int)/\KH a6 i o,fun s_=>match s_ with|(i,o)=>a6.length-i.toNat,⟨(0,[]),?_,?_⟩,?_⟩;rotate_left;(focus (cbv;done));intro s_ hi;obtain⟨i,o⟩:=s_;replace hi:0<=i/\i<=(a6.length:Int)/\KH a6 i o:=hi;obtain⟨i0,i1,i2⟩:=hi;cbv)|(refine⟨[1,3,4,5,7],[1,3,5],Int×List (List L),fun s_=>match s_ with|(j,o1)=>[.reg 7 (.one (.v (.int .i64 j))),.reg 5 (.one (.vw 5 0 0 0 (O.ln o1))),.leaf 5 0 ⟨0,0,none,.own (.s 1 o1)⟩],fun s_=>match s_ with|(j,o1)=>0<=j/\j<=(a7.length:Int)/\GM a2 a6 a7 j o1,fun s_=>match s_ with|(j,o1)=>a7.length-j.toNat,⟨(0,o),?_,?_⟩,?_⟩;rotate_left;(focus (cbv;done));intro s_ hj;obtain⟨j,o1⟩:=s_;replace hj:0<=j/\j<=(a7.length:Int)/\GM a2 a6 a7 j o1:=hj;obtain⟨j0,j1,j2⟩:=hj;cbv)|(refine⟨[1,3,4,5,7,8],[1,3,5],Int×List (List L),fun s_=>match s_ with|(k,o2)=>[.reg 8 (.one (.v (.int .i64 k))),.reg 5 (.one (.vw 5 0 0 0 (O.ln o2))),.leaf 5 0 ⟨0,0,none,.own (.s 1 o2)⟩],fun s_=>match s_ with|(k,o2)=>0<=k/\k<=ab a7 j 1/\KG a2 a6 a7 j k o2,fun s_=>match s_ with|(k,o2)=>(ab a7 j 1-k).toNat,⟨(0,o1),?_,?_⟩,?_⟩;rotate_left;(focus (cbv;done));intro s_ hk;obtain⟨k,o2⟩:=s_;replace hk:0<=k/\k<=ab a7 j 1/\KG a2 a6 a7 j k o2:=hk;obtain⟨k0,k1,k2⟩:=hk;cbv)|(refine⟨[1,3,4,5,10],[1,3,5],Int,fun t=>[.reg 10 (.one (.v (.int .i64 t)))],fun t=>0<=t/\t<=(o1.length:Int)/\upto (fun t=>decide (ab o1 t 0<a2.length)) t,fun t=>o1.length-t.toNat,⟨0,?_,?_⟩,?_⟩;rotate_left;(focus (cbv;done));intro t ht;replace ht:0<=t/\t<=(o1.length:Int)/\upto (fun t=>decide (ab o1 t 0<a2.length)) t:=ht;obtain⟨t0,t1,t2⟩:=ht;cbv)|(refine⟨[1,3,4,5,11],[1,3,5],Int,fun e=>[.reg 11 (.one (.v (.int .i64 e)))],fun e=>0<=e/\e<=(a2.length:Int)/\upto (uI a2 a5 a6 a7) e,fun e=>a2.length-e.toNat,⟨0,?_,?_⟩,?_⟩;rotate_left;(focus (cbv;done));intro e he;replace he:0<=e/\e<=(a2.length:Int)/\upto (uI a2 a5 a6 a7) e:=he;obtain⟨e0,e1,e2⟩:=he;cbv)|(refine aa (O.ar .add .i64 k 1,O.cat o2 (O.sub [[.v (.int .i64 (O.ar .add .i64 (O.gi a7 j 0) k))]] 0 (O.ln [[.v (.int .i64 (O.ar .add .i64 (O.gi a7 j 0) k))]]))) ?_ ?_ ?_;rotate_left 2;focus (cbv;done))|(refine aa (O.ar .add .i64 j 1,o2) ?_ ?_ ?_;rotate_left 2;focus (cbv;done))|(refine aa (O.ar .add .i64 e 1) ?_ ?_ ?_;rotate_left 2;focus (cbv;done))|(refine aa (O.ar .add .i64 t 1) ?_ ?_ ?_;rotate_left 2;focus (cbv;done))|(refine aa (O.ar .add .i64 i 1,O.cat o (O.sub [[.v (.int .i64 (O.gi a6 i 0))]] 0 (O.ln [[.v (.int .i64 (O.gi a6 i 0))]]))) ?_ ?_ ?_;rotate_left 2;focus (cbv;done))
 all_goals(subst hO hr hF;(try simp only[af,SS,sa,az]at*);(try simp only[nc]at*);(try simp only[aF]at*))
 all_goals(try simp only[Pa2.F0]at*)
 all_goals try rw[bD (by omega) (by omega)]
 all_goals(try have zi:=tF i0 (by omega))
 all_goals(try simp only[zi]at*)
 all_goals(try have zj:=tF j0 (by omega))
 all_goals(try simp only[zj]at*)
 all_goals(try have lf:=lgF j j0 (by assumption))
 all_goals(try have z6:aV .add .i64 k 1=k+1:=aB (by omega))
 all_goals(try simp only[z6]at*)
 all_goals(try have z5:aV .add .i64 (ab a7 j 0) k=ab a7 j 0+k:=aB (by omega))
 all_goals(try simp only[z5]at*)
 all_goals(try have w1:=Q1 (by assumption))
 all_goals(try have w2:=QV k2 (by omega))
 all_goals(try have w3:=Pn hlay j2 j1 (by assumption) hsl hll)
 all_goals(try simp only[fP t0]at*)
 all_goals(try have w4:=w3.1)
 all_goals(try unfold maxLen at w4)
 all_goals(try have z7:aV .add .i64 t 1=t+1:=aB (by omega))
 all_goals(try simp only[z7]at*)
 all_goals(try simp only[QY j2 j1 (by assumption)]at*)
 all_goals(try simp only[Om e0 (by assumption)]at*)
 all_goals first
  | (show(_:List DV)=_
     first
      |(refine ah ?_;symm;exact O9 i0 (by assumption) (Cd (by assumption) (by assumption)))
      |(refine ah ?_;symm;exact Kg j0 (by assumption) (Jz (Cd (by assumption) (by assumption))))
      |(refine ah ?_;symm;exact Kg j0 (by assumption) (JA k0 (by assumption) (by omega)))
      |(refine ah ?_;symm;exact Pb (QX j2 j1 (by assumption) t0 (by assumption) (by assumption)))
      |(refine ah ?_;symm;exact Kh e0 (by assumption) (Jd (by assumption)))
      |(refine ah ?_;symm;exact Kh e0 (by assumption) (K2 (by assumption) (by assumption)))
      |(refine ah ?_;symm;exact QT i2.ok (by omega) j2.ok (by omega) e2 (by omega) (QZ j2 j1 (by assumption) t2 (by omega)))
      |done)
  |omega
  |(refine⟨by omega,by omega,(Rw.eta (by first|assumption|exact Rw.sub (by first|assumption|exact Rw.sub (by assumption) (by omega) rfl) (by omega) rfl) (by omega) (by omega)).trans ?_⟩;rfl)
  |(show aK _ _=true;kernel_rfl)
  |exact⟨hew,hel⟩
  |exact⟨hfw,hfl⟩
  |exact kZ w3 t0 (by assumption)
  |(constructor<;>(simp only[List.length_cons,List.length_nil];omega))
  |exact Kl i2 i0 (Ce (by omega))
  |exact Kl i2 i0 (Cf (by assumption))
  |exact Q0
  |exact QW i2 i1 (by omega)
  |exact Pj j2 (Ce (by omega))
  |exact Pj j2 (Cf (by assumption))
  |exact Pm k2 k0 (by omega)
  |exact Po k2 j0 (by omega) (by omega) k1 (by omega)
  |exact aL
  |exact ax t2 (decide_eq_true (by assumption))
  |exact ax e2 (Nh (by assumption) (by assumption))
  |exact⟨True.intro,True.intro⟩
  |done
namespace Pa3
structure Fns where
 fpg:List (List L)->Int->List (List L)
 spI:List (List L)->Int->Int
 mshB:Int->Int->Int->Int->Int->Int->Bool
def F0 :Fns:=⟨fpg,spI,mshB⟩
def ct (F:Fns):CT:=fun f ds=>match f,ds with
 |171,[.agg [.s 1 a0,.s 1 a1,.s 2 a2,.v (.int .i64 a3),.s 1 a4,.s 2 a5,.s 3 a6,.s 3 a7,.s 4 a8,.s 1 a9,.s 1 a10,.s 1 a11,.v (.int .i64 a12),.s 3 a13,.v (.int .i64 a14),.v (.int .i64 a15),.v (.int .i64 a16),.v (.int .i64 a17),.v (.bool a18),.v (.int .i64 a19),.v (.int .i64 a20),.s 1 a21,.v (.int .i64 a22),.v (.int .i64 a23)],.one (.v (.int .i64 pg))]=>some (fun _=>Rw [tI,tI] a2/\a2.length<=1099511627776,[.one (.s 1 (F.fpg a2 pg))])
 |73,[.agg [.s 1 a0,.s 1 a1,.s 2 a2,.v (.int .i64 a3),.s 1 a4,.s 2 a5,.s 3 a6,.s 3 a7,.s 4 a8,.s 1 a9,.s 1 a10,.s 1 a11,.v (.int .i64 a12),.s 3 a13,.v (.int .i64 a14),.v (.int .i64 a15),.v (.int .i64 a16),.v (.int .i64 a17),.v (.bool a18),.v (.int .i64 a19),.v (.int .i64 a20),.s 1 a21,.v (.int .i64 a22),.v (.int .i64 a23)],.one (.v (.int .i64 pg))]=>some (fun _=>Rw [tI,tI,tI] a6/\a6.length<=1099511627776,[.one (.v (.int .i64 (F.spI a6 pg)))])
 |204,[.agg [.v (.int .i64 p1),.v (.int .i64 k1),.v (.int .i64 b1)],.agg [.v (.int .i64 p2),.v (.int .i64 k2),.v (.int .i64 b2)]]=>some (fun _=>True,[.one (.v (.bool (F.mshB p1 k1 b1 p2 k2 b2)))])
 |_,_=>none
theorem ak :aW Tryz.prog (ct F0):=by
 intro f ds pre res h hp;unfold ct at h;split at h<;>(try split at h)<;>cases h
 exact eJ _ _ _ _ _ _ _ _ _ _ _ _ _ _ _ _ _ _ _ _ _ _ _ _ _ hp;exact ft _ _ _ _ _ _ _ _ _ _ _ _ _ _ _ _ _ _ _ _ _ _ _ _ _ hp;exact qq _ _ _ _ _ _ hp
def B :TB Tryz.prog:=tb ak
end Pa3
theorem nV (a0 a1 a2:List (List L))(a3:Int)(a4 a5 a6 a7 a8 a9 a10 a11:List (List L))(a12:Int)(a13:List (List L))(a14 a15 a16 a17:Int)(a18:Bool)(a19 a20:Int)(a21:List (List L))(a22 a23:Int)(hp:vG a6 a7 a8 a9 a10 a11 a13/\Rw [tI,tI] a2/\a2.length<=1099511627776):aP Tryz.prog 122 [.agg [.s 1 a0,.s 1 a1,.s 2 a2,.v (.int .i64 a3),.s 1 a4,.s 2 a5,.s 3 a6,.s 3 a7,.s 4 a8,.s 1 a9,.s 1 a10,.s 1 a11,.v (.int .i64 a12),.s 3 a13,.v (.int .i64 a14),.v (.int .i64 a15),.v (.int .i64 a16),.v (.int .i64 a17),.v (.bool a18),.v (.int .i64 a19),.v (.int .i64 a20),.s 1 a21,.v (.int .i64 a22),.v (.int .i64 a23)]] [.one (.v (.bool (smS a2 a6)))]:=by
 obtain⟨N,hew,hel⟩:=hp;have hsw:=N.sw;have hsl:=N.sl;have fr:=fun p=>zt (es:=a2) (p:=p) hel
 refine ai Pa3.B ag mixed 55 _ [4] [.tmp 2] Tryz.func122 rfl rfl rfl rfl rfl ?_;intro O r (F:Pa3.Fns) hO hr (hF:F=Pa3.F0);cbv
 repeat' first|refine And.intro ?_ ?_|(refine aG (fun hb=>?_) (fun hb=>?_)<;>cbv)|(refine⟨[1,3],[1],Int,fun i=>[.reg 3 (.one (.v (.int .i64 i)))],fun i=>0<=i/\i<=(a6.length:Int)/\upto (msA a2 a6) i,fun i=>a6.length-i.toNat,⟨0,?_,?_⟩,?_⟩;rotate_left;(focus (cbv;done));intro i hi;replace hi:0<=i/\i<=(a6.length:Int)/\upto (msA a2 a6) i:=hi;obtain⟨i0,i1,i2⟩:=hi;cbv)|(refine⟨[1,3,4,5],[1,4],Int,fun k=>[.reg 5 (.one (.v (.int .i64 k)))],fun k=>0<=k/\k<=((fpg a2 (ab a6 i 0)).length:Int)/\upto (EX a2 a6 i) k,fun k=>(fpg a2 (ab a6 i 0)).length-k.toNat,⟨0,?_,?_⟩,?_⟩;rotate_left;(focus (cbv;done));intro k hk;replace hk:0<=k/\k<=((fpg a2 (ab a6 i 0)).length:Int)/\upto (EX a2 a6 i) k:=hk;obtain⟨k0,k1,k2⟩:=hk;cbv)|(refine aa (O.ar .add .i64 k 1) ?_ ?_ ?_;rotate_left 2;focus (cbv;done))|(refine aa (O.ar .add .i64 i 1) ?_ ?_ ?_;rotate_left 2;focus (cbv;done))
 all_goals(subst hO hr hF;(try simp only[af,SS,sa,az]at*);(try simp only[nc]at*);(try simp only[aF]at*))
 all_goals(try simp only[Pa3.F0]at*)
 all_goals try rw[bD (by omega) (by omega)]
 all_goals(try simp only[fP k0]at*)
 all_goals(try have w1:=fr (ab a6 i 0))
 all_goals(try have w2:=w1.1)
 all_goals(try have w3:=w1.2)
 all_goals(try have z6:aV .add .i64 k 1=k+1:=aB (by omega))
 all_goals(try simp only[z6]at*)
 all_goals(try have w4:=fun h=>Gq (sp:=a6) (p:=ab (fpg a2 (ab a6 i 0)) k 0) h)
 all_goals first
  | (show(_:List DV)=_
     first
      |(refine ah ?_;symm;exact be (p:=msA a2 a6) i0 (by assumption) (OB k0 (by assumption) (by assumption) (by assumption)))
      |(refine ah ?_;symm;exact be (p:=msA a2 a6) i0 (by assumption) (OD k0 (by assumption) (by assumption) (by assumption)))
      |(refine ah ?_;symm;exact aT i2 (by omega))
      |done)
  |omega
  |(refine⟨by omega,by omega,(Rw.eta (by first|assumption|exact Rw.sub (by first|assumption|exact Rw.sub (by assumption) (by omega) rfl) (by omega) rfl) (by omega) (by omega)).trans ?_⟩;rfl)
  |(show aK _ _=true;kernel_rfl)
  |exact⟨hew,hel⟩
  |exact⟨hsw,by omega⟩
  |exact kZ w2 k0 (by assumption)
  |exact aL
  |exact ax k2 (Oj (by assumption))
  |exact ax k2 (Ol (by assumption) (by assumption))
  |exact ax i2 (aT k2 (by omega))
  |(have q:true=false:=(by assumption);cases q)
  |exact⟨True.intro,True.intro⟩
  |done
end Go.V