/- Contracts. -/
import Derived.Test.YtcodmgmliopheaaGreatHoOt
set_option linter.all false
namespace Go.V
open Go Go.Proofs
set_option maxRecDepth 1000000
set_option maxHeartbeats 8000000
namespace Hr0
structure aQ where
 inR:Int->Int->Int->Bool
 shuL:Int->Int->aa
 shuS:Int->Int->Int
 tnB:aa->Int->Bool
 mshB:Int->Int->Int->Int->Int->Int->Bool
abbrev F0 :aQ:=⟨inR,shuL,shuS,tnB,mshB⟩
def ct (F:aQ):CT:=fun f ds=>match f,ds with
 |91,[.one (.v (.int .i64 x)),.one (.v (.int .i64 a)),.one (.v (.int .i64 b))]=>some (fun _=>True,[.k (F.inR x a b)])
 |175,[.one (.v (.int .i64 c))]=>some (fun _=>True,[.k (F.inR c 0 1073741823)])
 |207,[.one (.v (.int .i64 s)),.one (.v (.int .i64 n))]=>some (fun _=>True,[.one (.s 1 (F.shuL s n)),.j (F.shuS s n)])
 |208,[.one (.s 2 es),.one (.v (.int .i64 x))]=>some (fun _=>Rw [tI,tI] es/\es.length<=1099511627776,[.k (F.tnB es x)])
 |209,[.agg [.v (.int .i64 p1),.v (.int .i64 k1),.v (.int .i64 b1)],.agg [.v (.int .i64 p2),.v (.int .i64 k2),.v (.int .i64 b2)]]=>some (fun _=>True,[.k (F.mshB p1 k1 b1 p2 k2 b2)])
 |89,[.one (.v (.int .i64 x)),.one (.v (.int .i64 a)),.one (.v (.int .i64 b))]=>some (fun _=>True,[.k (F.inR x a b)])
 |309,[.one (.v (.int .i64 s)),.one (.v (.int .i64 n))]=>some (fun _=>True,[.one (.s 1 (F.shuL s n)),.j (F.shuS s n)])
 |270,[.agg [.v (.int .i64 p1),.v (.int .i64 k1),.v (.int .i64 b1)],.agg [.v (.int .i64 p2),.v (.int .i64 k2),.v (.int .i64 b2)]]=>some (fun _=>True,[.k (F.mshB p1 k1 b1 p2 k2 b2)])
 |_,_=>none
theorem ah :aR (ct F0):=by
 intro f ds pre res h hp;unfold ct at h;split at h<;>cases h
 exact aU hp;exact eb hp;exact qx hp;exact xR hp;exact fG hp;exact bc hp;exact rE hp;exact fL hp
abbrev B :cq:=tb ah
end Hr0
theorem mw {sp:aa}{s k:Int}(hp:Rw [tI,tI,tI] sp/\sp.length<=1073741824):ap 85 [.one (.s 3 sp),.j s,.j k] [.one (.s 2 (sqL sp s k)),.j (sqS sp s k)]:=by
 obtain⟨hw,hl⟩:=hp;refine cb Hr0.B Tryz.func85 ?_
 intro O r F hO hr hF;cbv
 repeat' first|apply And.intro|(apply bi<;>intro hb<;>cbv)|(refine⟨[0,2,10,11,12,13,14],[13,36],Int×aa,fun s_=>match s_ with|(p,o)=>[.reg 14 (.j p),.reg 13 (.one (.vw 13 0 0 0 (O.ln o))),.leaf 13 0 ⟨0,0,none,.own (.s 2 o)⟩],fun s_=>match s_ with|(p,o)=>0<=p/\p<=k/\Ez sp (shuL s sp.length) ((sp.length:Int)/2) p o,fun s_=>match s_ with|(p,o)=>(k-p).toNat,⟨(0,[]),?_,?_⟩,?_⟩;rotate_left;(focus (cbv;done));intro s_ hp;obtain⟨p,o⟩:=s_;replace hp:0<=p/\p<=k/\Ez sp (shuL s sp.length) ((sp.length:Int)/2) p o:=hp;obtain⟨p0,p1,p2⟩:=hp;cbv)|(refine⟨[0,2,10,11,12,13,14,53,54,55],[13,36],Int×aa,fun s_=>match s_ with|(i,q)=>[.reg 55 (.j i),.reg 13 (.one (.vw 13 0 0 0 (O.ln q))),.leaf 13 0 ⟨0,0,none,.own (.s 2 q)⟩],fun s_=>match s_ with|(i,q)=>0<=i/\i<=(sp.length:Int)/2/\Ey sp (shuL s sp.length) ((sp.length:Int)/2) p i o q,fun s_=>match s_ with|(i,q)=>((sp.length:Int)/2-i).toNat,⟨(0,o),?_,?_⟩,?_⟩;rotate_left;(focus (cbv;done));intro s_ hi;obtain⟨i,q⟩:=s_;replace hi:0<=i/\i<=(sp.length:Int)/2/\Ey sp (shuL s sp.length) ((sp.length:Int)/2) p i o q:=hi;obtain⟨i0,i1,i2⟩:=hi;cbv)|(refine ab (O.ar .add .i64 i 1,O.cat q (O.sub [[.i (O.pi (.s 1 (F.shuL s (O.zi (O.ln sp)))) [(O.ad (O.ad 0 0) i,0)]),.i (O.pi (.s 1 (F.shuL s (O.zi (O.ln sp)))) [(O.ad (O.ad 0 (O.ar .quo .i64 (O.zi (O.ln sp)) 2)) (O.ar .rem .i64 (O.ar .add .i64 i p) (O.zi (O.df (O.zi (O.ln (F.shuL s (O.zi (O.ln sp))))) (O.ar .quo .i64 (O.zi (O.ln sp)) 2)))),0)])]] 0 (O.ln [[.i (O.pi (.s 1 (F.shuL s (O.zi (O.ln sp)))) [(O.ad (O.ad 0 0) i,0)]),.i (O.pi (.s 1 (F.shuL s (O.zi (O.ln sp)))) [(O.ad (O.ad 0 (O.ar .quo .i64 (O.zi (O.ln sp)) 2)) (O.ar .rem .i64 (O.ar .add .i64 i p) (O.zi (O.df (O.zi (O.ln (F.shuL s (O.zi (O.ln sp))))) (O.ar .quo .i64 (O.zi (O.ln sp)) 2)))),0)])]]))) ?_ ?_ ?_;focus (cbv;done))|(refine ab (O.ar .add .i64 i 1,q) ?_ ?_ ?_;focus (cbv;done))|(refine ab (O.ar .add .i64 p 1,q) ?_ ?_ ?_;focus (cbv;done))
 all_goals(subst hO hr hF;(try simp only[nc]at*);(try simp only[ai,SS,sa,az]at*))
 all_goals(have n0:(0:Int)<=sp.length:=Int.natCast_nonneg _;(try have n1:(sp.length:Int)<=16:=by assumption);(try have kk:=bE.1 (by assumption:inR k 0 16=true));(try have ks:inR s 0 1073741823=true:=by assumption);(try have nn:inR (sp.length:Int) 0 64=true:=bE.2 ⟨by omega,by omega⟩);(try have ol:=sy ks nn);(try have oi:=BZ ks nn);(try have ow:=Hu (s:=s) (n:=sp.length));(try have q2:=R4 n0 n1);(try simp only[q2]at*);(try simp only[NR]at*);(try simp only[Vp n0]at*);(try simp only[Vr ol n0]at*);(try rw[cp (by omega) (by omega)]);(try have S:=(by assumption:Ez sp (shuL s sp.length) ((sp.length:Int)/2) p o));(try have F:=(by assumption:Ey sp (shuL s sp.length) ((sp.length:Int)/2) p i o q));(try have sb:=RZ S (by omega) (by omega) (by omega) (by omega));(try have fl:=F.l);(try have m:=R3 (n:=sp.length) (i:=i) (p:=p) (by omega) (by omega) (by omega) (by omega) n1);(try simp only[m.1]at*);(try simp only[Vo n0 m.2.1]at*);(try have i0:0<=i:=by omega);(try have r0:0<=(sp.length:Int)/2+(i+p)%(sp.length- (sp.length:Int)/2):=by omega);(try simp only[eJ i0,eJ r0]at*);(try have la:=oi.at i0 (by omega));(try have lb:=oi.at r0 (by omega)))
 all_goals first
  | (show(_:List DV)=_
     first
      |exact gR (rQ (Jr (by assumption))).1.symm (rQ (Jr (by assumption))).2.symm
      |exact gR (rQ (sp:=sp) (s:=s) (Js (by assumption))).1.symm (rQ (sp:=sp) (s:=s) (Js (by assumption))).2.symm
      |exact gR (rQ (sp:=sp) (k:=k) (Jt (by assumption))).1.symm (rQ (sp:=sp) (k:=k) (Jt (by assumption))).2.symm
      |(have z:=DJ (k:=k) S (by omega) (R2 n1 (by assumption) ks);exact gR z.1 z.2)
      |done)
  |(show aZ _ _=true;kernel_rfl)
  |omega
  |exact⟨True.intro,True.intro⟩
  |exact⟨F.r,by omega⟩
  |exact nq ow i0 (by omega)
  |exact nq ow r0 (by omega)
  |exact Lh
  |exact Lg S
  |exact pq F i0 (Lk (by assumption))
  |exact pq F i0 (Ll (by rw[eN ol];assumption))
  |exact pq F i0 (Lm (by rw[eN ol];assumption))
  |(have z:=DG F i0 (Lo (by assumption) (by rw[eN ol];assumption) (by rw[eN ol];assumption)) (by omega) (by rw[eN ol];omega) (by omega);rw[eN ol]at z;exact z)
  |(constructor<;>(simp only[List.length_cons,List.length_nil];omega))
  |exact Hz S F (by omega) (by omega) (by omega)
  |(refine⟨by omega,by omega,?_⟩;exact eQ)
  |exact eQ
  |done
theorem mT {sp:aa}{s k:Int}(hp:Rw [tI,tI,tI] sp/\sp.length<=1073741824):ap 202 [.one (.s 3 sp),.j s,.j k] [.one (.s 2 (sqL sp s k)),.j (sqS sp s k)]:=by
 obtain⟨hw,hl⟩:=hp;refine cb Hr0.B Tryz.func202 ?_
 intro O r F hO hr hF;cbv
 repeat' first|apply And.intro|(apply bi<;>intro hb<;>cbv)|(refine⟨[0,2,8,9,10,11,12,13],[8,12,37],Int×aa×aa,fun s_=>match s_ with|(p,o,u)=>[.reg 13 (.j p),.reg 8 (.one (.vw 8 0 0 0 (O.ln o))),.leaf 8 0 ⟨0,0,none,.own (.s 2 o)⟩,.leaf 12 0 ⟨0,0,none,.own (.s 1 u)⟩],fun s_=>match s_ with|(p,o,u)=>0<=p/\p<=k/\Ez sp (shuL s sp.length) ((sp.length:Int)/2) p o/\Ib sp.length o u,fun s_=>match s_ with|(p,o,u)=>(k-p).toNat,⟨(0,[],O.rep (O.zi (O.ln sp)) [.v (.bool false)]),?_,?_⟩,?_⟩;rotate_left;(focus (cbv;done));intro s_ hp;obtain⟨p,o,u⟩:=s_;replace hp:0<=p/\p<=k/\Ez sp (shuL s sp.length) ((sp.length:Int)/2) p o/\Ib sp.length o u:=hp;obtain⟨p0,p1,p2,p3⟩:=hp;cbv)|(refine⟨[0,2,8,9,10,11,12,13,14],[8,12,37],Int×aa×aa,fun s_=>match s_ with|(i,q,v)=>[.reg 14 (.j i),.reg 8 (.one (.vw 8 0 0 0 (O.ln q))),.leaf 8 0 ⟨0,0,none,.own (.s 2 q)⟩,.leaf 12 0 ⟨0,0,none,.own (.s 1 v)⟩],fun s_=>match s_ with|(i,q,v)=>0<=i/\i<=(sp.length:Int)/2/\Ey sp (shuL s sp.length) ((sp.length:Int)/2) p i o q/\Ib sp.length q v,fun s_=>match s_ with|(i,q,v)=>((sp.length:Int)/2-i).toNat,⟨(0,o,u),?_,?_⟩,?_⟩;rotate_left;(focus (cbv;done));intro s_ hi;obtain⟨i,q,v⟩:=s_;replace hi:0<=i/\i<=(sp.length:Int)/2/\Ey sp (shuL s sp.length) ((sp.length:Int)/2) p i o q/\Ib sp.length q v:=hi;obtain⟨i0,i1,i2,i3⟩:=hi;cbv)|(refine ab (O.ar .add .i64 i 1,O.cat q (O.sub [[.i (O.pi (.s 1 (F.shuL s (O.zi (O.ln sp)))) [(O.ad 0 i,0)]),.i (O.pi (.s 1 (F.shuL s (O.zi (O.ln sp)))) [(O.ad 0 (O.ar .add .i64 (O.ar .quo .i64 (O.zi (O.ln (F.shuL s (O.zi (O.ln sp))))) 2) (O.ar .rem .i64 (O.ar .add .i64 i p) (O.ar .sub .i64 (O.zi (O.ln (F.shuL s (O.zi (O.ln sp))))) (O.ar .quo .i64 (O.zi (O.ln (F.shuL s (O.zi (O.ln sp))))) 2)))),0)])]] 0 (O.ln [[.i (O.pi (.s 1 (F.shuL s (O.zi (O.ln sp)))) [(O.ad 0 i,0)]),.i (O.pi (.s 1 (F.shuL s (O.zi (O.ln sp)))) [(O.ad 0 (O.ar .add .i64 (O.ar .quo .i64 (O.zi (O.ln (F.shuL s (O.zi (O.ln sp))))) 2) (O.ar .rem .i64 (O.ar .add .i64 i p) (O.ar .sub .i64 (O.zi (O.ln (F.shuL s (O.zi (O.ln sp))))) (O.ar .quo .i64 (O.zi (O.ln (F.shuL s (O.zi (O.ln sp))))) 2)))),0)])]])),O.up (.s 1 (O.up (.s 1 v) [(O.ad 0 (O.pi (.s 1 (F.shuL s (O.zi (O.ln sp)))) [(O.ad 0 i,0)]),0)] [.v (.bool true)])) [(O.ad 0 (O.pi (.s 1 (F.shuL s (O.zi (O.ln sp)))) [(O.ad 0 (O.ar .add .i64 (O.ar .quo .i64 (O.zi (O.ln (F.shuL s (O.zi (O.ln sp))))) 2) (O.ar .rem .i64 (O.ar .add .i64 i p) (O.ar .sub .i64 (O.zi (O.ln (F.shuL s (O.zi (O.ln sp))))) (O.ar .quo .i64 (O.zi (O.ln (F.shuL s (O.zi (O.ln sp))))) 2)))),0)]),0)] [.v (.bool true)]) ?_ ?_ ?_;focus (cbv;done))|(refine ab (O.ar .add .i64 i 1,q,v) ?_ ?_ ?_;focus (cbv;done))|(refine ab (O.ar .add .i64 p 1,q,v) ?_ ?_ ?_;focus (cbv;done))
 all_goals(subst hO hr hF;(try simp only[nc]at*);(try simp only[ai,SS,sa,az]at*))
 all_goals(have n0:(0:Int)<=sp.length:=Int.natCast_nonneg _;(try have n1:(sp.length:Int)<=16:=by assumption);(try have kk:=bE.1 (by assumption:inR k 0 16=true));(try have ks:inR s 0 1073741823=true:=by assumption);(try have nn:inR (sp.length:Int) 0 64=true:=bE.2 ⟨by omega,by omega⟩);(try have ol:=sy ks nn);(try have oi:=BZ ks nn);(try have ow:=Hu (s:=s) (n:=sp.length));(try have q2:=R4 n0 n1);(try simp only[ol]at*);(try have ol:=sy ks nn);(try simp only[Rx n0]at*);(try simp only[q2]at*);(try simp only[NR]at*);(try have qs:=Vs n0 n1);(try simp only[qs]at*);(try rw[cp (by omega) (by omega)]);(try have S:=(by assumption:Ez sp (shuL s sp.length) ((sp.length:Int)/2) p o));(try have F:=(by assumption:Ey sp (shuL s sp.length) ((sp.length:Int)/2) p i o q));(try have sb:=RZ S (by omega) (by omega) (by omega) (by omega));(try have fl:=F.l);(try have m:=R3 (n:=sp.length) (i:=i) (p:=p) (by omega) (by omega) (by omega) (by omega) n1);(try simp only[m.1]at*);(try have qp:=Vq n0 n1 m.2.1 m.2.2);(try simp only[qp]at*);(try have i0:0<=i:=by omega);(try have r0:0<=(sp.length:Int)/2+(i+p)%(sp.length- (sp.length:Int)/2):=by omega);(try simp only[eJ i0,eJ r0]at*);(try have la:=oi.at i0 (by omega));(try have lb:=oi.at r0 (by omega));(try have U:=(by assumption:Ib sp.length q v));(try have ur:=U.r);(try have ul:=U.l);(try have ua:=Sf U la.1 la.2);(try simp only[ua]at*);(try have ub:=Sf U lb.1 lb.2);(try simp only[ub]at*);(try have uu:=Sg ur la.1 (by omega) lb.1 (by omega));(try simp only[uu]at*))
 all_goals first
  | (show(_:List DV)=_
     first
      |exact gR (rQ (Jr (by assumption))).1.symm (rQ (Jr (by assumption))).2.symm
      |exact gR (rQ (sp:=sp) (s:=s) (Js (by assumption))).1.symm (rQ (sp:=sp) (s:=s) (Js (by assumption))).2.symm
      |exact gR (rQ (sp:=sp) (k:=k) (Jt (by assumption))).1.symm (rQ (sp:=sp) (k:=k) (Jt (by assumption))).2.symm
      |(have z:=DJ (k:=k) S (by omega) (R2 n1 (by assumption) ks);exact gR z.1 z.2)
      |done)
  |(show aZ _ _=true;kernel_rfl)
  |omega
  |exact⟨True.intro,True.intro⟩
  |exact⟨F.r,by omega⟩
  |exact nq ow i0 (by omega)
  |exact nq ow r0 (by omega)
  |exact Lh
  |exact Si (by unfold maxLen;omega)
  |assumption
  |exact KY ur la.1 (by omega)
  |exact Vt ur la.1 (by omega)
  |exact R5 ur la.1 (by omega) lb.1 (by omega)
  |exact KY ur lb.1 (by omega)
  |(have z:=N1 U la.1 la.2 lb.1 lb.2;exact z)
  |exact Lg S
  |exact pq F i0 (Lk (by assumption))
  |exact pq F i0 (Ll (by rw[eN ol];assumption))
  |exact pq F i0 (Lm (by rw[eN ol];assumption))
  |(have z:=DG F i0 (Lo (by assumption) (by rw[eN ol];assumption) (by rw[eN ol];assumption)) (by omega) (by rw[eN ol];omega) (by omega);rw[eN ol]at z;exact z)
  |(constructor<;>(simp only[List.length_cons,List.length_nil];omega))
  |exact Hz S F (by omega) (by omega) (by omega)
  |(refine⟨by omega,by omega,?_⟩;exact eQ)
  |exact eQ
  |done
end Go.V