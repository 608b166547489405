/- Contracts. -/
import Derived.Test.YtcodmgmliopheaaGreatHoNt
import Derived.Test.YtcodmgmliopheaaGreatHoAt
set_option linter.all false
namespace Go.V
open Go Go.Proofs
set_option maxRecDepth 1000000
set_option maxHeartbeats 8000000
namespace Hq1
structure aQ where
 mshB:Int->Int->Int->Int->Int->Int->Bool
 sclL:Int->Int->Int->aa
abbrev F0 :aQ:=⟨mshB,sclL⟩
def ct (F:aQ):CT:=fun f ds=>match f,ds with
 |209,[.agg [.v (.int .i64 p1),.v (.int .i64 k1),.v (.int .i64 b1)],.agg [.v (.int .i64 p2),.v (.int .i64 k2),.v (.int .i64 b2)]]=>some (fun _=>True,[.k (F.mshB p1 k1 b1 p2 k2 b2)])
 |270,[.agg [.v (.int .i64 p1),.v (.int .i64 k1),.v (.int .i64 b1)],.agg [.v (.int .i64 p2),.v (.int .i64 k2),.v (.int .i64 b2)]]=>some (fun _=>True,[.k (F.mshB p1 k1 b1 p2 k2 b2)])
 |210,[.agg [.v (.int .i64 p),.v (.int .i64 k),.v (.int .i64 b)]]=>some (fun _=>True,[.one (.s 1 (F.sclL p k b))])
 |310,[.agg [.v (.int .i64 p),.v (.int .i64 k),.v (.int .i64 b)]]=>some (fun _=>True,[.one (.s 1 (F.sclL p k b))])
 |_,_=>none
theorem ah :aR (ct F0):=by
 intro f ds pre res h hp;unfold ct at h;split at h<;>cases h
 exact fG hp;exact fL hp;exact oB hp;exact oX hp
abbrev B :cq:=tb ah
end Hq1
theorem qq {p k b q l c:Int}(hp:True):ap 86 [.agg [.i p,.i k,.i b],.agg [.i q,.i l,.i c]] [.agg [.i (ppK p k b q l c),.i (ppM p k b q l c),.s 1 (ppC p k b q l c)],.k (mshB p k b q l c)]:=by
 refine cb Hq1.B Tryz.func86 ?_
 exact SJ
theorem rB {p k b q l c:Int}(hp:True):ap 203 [.agg [.i p,.i k,.i b],.agg [.i q,.i l,.i c]] [.agg [.i (ppK p k b q l c),.i (ppM p k b q l c),.s 1 (ppC p k b q l c)],.k (mshB p k b q l c)]:=by
 refine cb Hq1.B Tryz.func203 ?_
 exact SJ
namespace Hq2
structure aQ where
 plOk:Int->Int->aa->Bool
abbrev F0 :aQ:=⟨plOk⟩
def ct (F:aQ):CT:=fun f ds=>match f,ds with
 |211,[.agg [.v (.int .i64 k),.v (.int .i64 m),.s 1 cs]]=>some (fun _=>Rw [tI] cs/\cs.length<=1099511627776,[.k (F.plOk k m cs)])
 |212,[.agg [.v (.int .i64 k),.v (.int .i64 m),.s 1 cs]]=>some (fun _=>Rw [tI] cs/\cs.length<=1099511627776,[.agg [.i k,.i m,.s 1 cs]])
 |278,[.agg [.v (.int .i64 k),.v (.int .i64 m),.s 1 cs]]=>some (fun _=>Rw [tI] cs/\cs.length<=1099511627776,[.k (F.plOk k m cs)])
 |133,[.agg [.v (.int .i64 k),.v (.int .i64 m),.s 1 cs,.v (.int .i64 p),.v (.int .i64 n)]]=>some (fun _=>Rw [tI] cs/\cs.length<=1099511627776,[.agg [.i k,.i m,.s 1 cs,.i p,.i n]])
 |_,_=>none
theorem ah :aR (ct F0):=by
 intro f ds pre res h hp;unfold ct at h;split at h<;>cases h
 exact kY hp;exact jx hp;exact lc hp;exact jW hp
abbrev B :cq:=tb ah
end Hq2
theorem vP {k m:Int}{cs:aa}(hp:Rw [tI] cs/\cs.length<=1099511627776):ap 87 [.agg [.i k,.i m,.s 1 cs]] [.agg [.i (ifZ (plOk k m cs) k),.i (ifZ (plOk k m cs) m),.s 1 (ifR (plOk k m cs) cs []),.i 0,.i 0],.k (plOk k m cs)]:=by
 obtain⟨hw,hl⟩:=hp;refine cb Hq2.B Tryz.func87 ?_
 exact SN
theorem wn {k m:Int}{cs:aa}(hp:Rw [tI] cs/\cs.length<=1099511627776):ap 204 [.agg [.i k,.i m,.s 1 cs]] [.agg [.i (ifZ (plOk k m cs) k),.i (ifZ (plOk k m cs) m),.s 1 (ifR (plOk k m cs) cs []),.i 0,.i 0],.k (plOk k m cs)]:=by
 obtain⟨hw,hl⟩:=hp;refine cb Hq2.B Tryz.func204 ?_
 exact SN
theorem sT {a b x:Int}(hp:True):ap 315 [.agg [.i a,.i b],.ptr [.i x]] [.k (tnP a b x)]:=by
 refine cb nB Tryz.func315 ?_
 intro O r F hO hr hF;cbv
 repeat' first|apply And.intro|(apply bi<;>intro hb<;>cbv)
 all_goals(subst hO hr hF;(try simp only[nc]at*);(try simp only[ai,SS,sa,az]at*))
 all_goals first
  | (show(_:List DV)=_
     first
      |exact aj (Sd (by assumption)).symm
      |exact aj (Se (by assumption)).symm
      |done)
  |done
namespace Hq4
structure aQ where
 tnP:Int->Int->Int->Bool
abbrev F0 :aQ:=⟨tnP⟩
def ct (F:aQ):CT:=fun f ds=>match f,ds with
 |315,[.agg [.v (.int .i64 a),.v (.int .i64 b)],.ptr [.v (.int .i64 x)]]=>some (fun _=>True,[.k (F.tnP a b x)])
 |_,_=>none
theorem ah :aR (ct F0):=by
 intro f ds pre res h hp;unfold ct at h;split at h<;>cases h
 exact sT hp
abbrev B :cq:=tb ah
end Hq4
theorem bY {es:aa}{x:Int}(hp:Rw [tI,tI] es/\es.length<=1099511627776):ap 395 [.one (.s 2 es),.fn 315 [[.i x]]] [.j (tnI es x)]:=by
 obtain⟨hw,hn⟩:=hp;refine cb Hq4.B Tryz.func395 ?_
 intro O r F hO hr hF;cbv
 repeat' first|apply And.intro|(apply bi<;>intro hb<;>cbv)|(refine⟨[0,1,7,8],[0],Int,fun i=>[.reg 8 (.j i)],fun i=>0<=i/\i<=((es.length:Nat):Int)/\upto (co (Oz es x)) i,fun i=>(es.length)-i.toNat,⟨0,?_,?_⟩,?_⟩;rotate_left;(focus (cbv;done));intro i hi;replace hi:0<=i/\i<=((es.length:Nat):Int)/\upto (co (Oz es x)) i:=hi;obtain⟨i0,i1,i2⟩:=hi;cbv)|(refine ab (O.ar .add .i64 i 1) ?_ ?_ ?_;focus (cbv;done))
 all_goals(subst hO hr hF;(try simp only[nc]at*);(try simp only[ai,SS,sa,az]at*);(try rw[cp (by omega) (by omega)]))
 all_goals first
  | (show(_:List DV)=_
     first
      |exact cM (ed i2 i0 (by assumption) (show Oz es x i=true from by assumption)).symm
      |exact cM (dG i2 (by assumption)).symm
      |done)
  |omega
  |exact eQ
  |(show(lk _ _).isSome=true;kernel_rfl)
  |exact bj
  |exact aW i2 (lN (show Oz es x i=false from by assumption))
  |done
namespace Hq5
structure aQ where
 tnI:aa->Int->Int
abbrev F0 :aQ:=⟨tnI⟩
def ct (F:aQ):CT:=fun f ds=>match f,ds with
 |395,[.one (.s 2 es),.fn 315 [[.v (.int .i64 x)]]]=>some (fun _=>Rw [tI,tI] es/\es.length<=1099511627776,[.j (F.tnI es x)])
 |_,_=>none
theorem ah :aR (ct F0):=by
 intro f ds pre res h hp;unfold ct at h;split at h<;>cases h
 exact bY hp
abbrev B :cq:=tb ah
end Hq5
theorem bR {es:aa}{x:Int}(hp:Rw [tI,tI] es/\es.length<=1099511627776):ap 314 [.one (.s 2 es),.fn 315 [[.i x]]] [.k (tnB es x)]:=by
 refine cb Hq5.B Tryz.func314 ?_
 intro O r F hO hr hF;cbv
 repeat' first|apply And.intro|(apply bi<;>intro hb<;>cbv)
 all_goals(subst hO hr hF;(try simp only[nc]at*);(try simp only[ai,SS,sa,az]at*))
 all_goals first
  | (show(_:List DV)=_
     first
      |exact rfl
      |done)
  |exact hp
  |done
namespace Hq6
structure aQ where
 tnB:aa->Int->Bool
abbrev F0 :aQ:=⟨tnB⟩
def ct (F:aQ):CT:=fun f ds=>match f,ds with
 |314,[.one (.s 2 es),.fn 315 [[.v (.int .i64 x)]]]=>some (fun _=>Rw [tI,tI] es/\es.length<=1099511627776,[.k (F.tnB es x)])
 |_,_=>none
theorem ah :aR (ct F0):=by
 intro f ds pre res h hp;unfold ct at h;split at h<;>cases h
 exact bR hp
abbrev B :cq:=tb ah
end Hq6
theorem xR {es:aa}{x:Int}(hp:Rw [tI,tI] es/\es.length<=1099511627776):ap 208 [.one (.s 2 es),.j x] [.k (tnB es x)]:=by
 refine cb Hq6.B Tryz.func208 ?_
 intro O r F hO hr hF;cbv
 repeat' first|apply And.intro|(apply bi<;>intro hb<;>cbv)
 all_goals(subst hO hr hF;(try simp only[nc]at*);(try simp only[ai,SS,sa,az]at*))
 all_goals first
  | (show(_:List DV)=_
     first
      |exact rfl
      |done)
  |exact hp
  |(show(lk _ _).isSome=true;kernel_rfl)
  |(show aZ _ _=true;kernel_rfl)
  |done
end Go.V