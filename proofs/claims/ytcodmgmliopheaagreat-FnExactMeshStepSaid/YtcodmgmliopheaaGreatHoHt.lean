/- Contracts. -/
import Derived.Test.YtcodmgmliopheaaGreatHoGt
set_option linter.all false
open Go
open And renaming intro->AT
open True renaming intro->VT
namespace Go.V
open Go Go.Proofs
set_option maxRecDepth 1000000
set_option maxHeartbeats 8000000
namespace Zh0
structure aQ where
 ccB:aa->aa->aa->Int->aa->Bool
 mapB:aa->Int->Bool
 inR:Int->Int->Int->Bool
 peM:aa->Int->Int
 peF:aa->Int->Int
abbrev F0 :aQ:=⟨ccB,mapB,inR,peM,peF⟩
def ct (F:aQ):CT:=fun f ds=>match f,ds with
 |159,[.agg [.s 1 cs,.s 1 us,.s 2 es,.v (.int .i64 c),.s 1 rs]]=>some (fun _=>Rw [.sl [tI]] cs/\Rw [tB] us/\Rw [tI,tI] es/\Rw [tI] rs/\ag cs<=1099511627776/\ag us<=1099511627776/\ag es<=1099511627776/\ag rs<=1099511627776,[.agg [.s 1 cs,.s 1 us,.s 2 es,.i c,.s 1 rs]])
 |333,[.agg [.s 1 cs,.s 1 us,.s 2 es,.v (.int .i64 c),.s 1 rs]]=>some (fun _=>Rw [.sl [tI]] cs/\Rw [tB] us/\Rw [tI,tI] es/\Rw [tI] rs,[.k (F.ccB cs us es c rs)])
 |289,[.agg [.s 1 a0,.s 1 a1,.s 2 a2,.v (.int .i64 a3),.s 1 a4],.one (.v (.int .i64 p))]=>some (fun _=>Rw [tI,tI] a2,[.k (F.mapB a2 p)])
 |316,[.one (.v (.int .i64 c))]=>some (fun _=>True,[.k (F.inR c 0 15)])
 |112,[.agg [.s 2 es],.one (.v (.int .i64 p))]=>some (fun _=>Rw [tI,tI] es,[.agg [.i (F.peM es p),.i (F.peF es p)]])
 |328,[.ptr [.s 1 cs,.s 1 us,.s 2 es,.v (.int .i64 c),.s 1 rs],.one (.v (.int .i64 p))]=>some (fun _=>Rw [tI,tI] es,[.j (F.peM es p)])
 |89,[.one (.v (.int .i64 x)),.one (.v (.int .i64 a)),.one (.v (.int .i64 b))]=>some (fun _=>True,[.k (F.inR x a b)])
 |_,_=>none
theorem aj :aR (ct F0):=by
 intro f ds pre res h hp;unfold ct at h;split at h<;>cases h
 exact cY hp;exact gj hp;exact fw hp;exact lR hp;exact cP hp;exact gy hp;exact be hp
abbrev B :cy:=tb aj
end Zh0
theorem yr {cs us es:aa}{c:Int}{rs:aa}{p q:Int}{xs:aa}(hp:Rw [.sl [tI]] cs/\Rw [tB] us/\Rw [tI,tI] es/\Rw [tI] rs/\ag cs<=1099511627776/\ag us<=1099511627776/\ag es<=1099511627776/\ag rs<=1099511627776/\Rw [tI] xs/\xs.length=1):aw 335 [.agg [.s 1 cs,.s 1 us,.s 2 es,.i c,.s 1 rs],.j p,.j q,.one (.s 1 xs)] [.agg [.s 1 (kdC (ccB cs us es c rs) cs es p q xs),.s 1 us,.s 2 es,.i c,.s 1 rs],.k (kdB (ccB cs us es c rs) es p q xs)]:=by
 obtain⟨wc,wu,we,wr,k1,k2,k3,k4,wx,lx⟩:=hp;refine cb Zh0.B Tryz.func335 ?_
 intro O r F hO hr hF;cbv
 repeat' first|apply AT|(apply bi<;>intro hb<;>cbv)|(refine⟨[4,8,10,11,12,45,46,47],[4,8,10],Int×aa,fun s_=>match s_ with|(i,d)=>[.reg 47 (.j i),.leaf 10 0 ⟨0,0,none,.own (.s 1 d)⟩],fun s_=>match s_ with|(i,d)=>0<=i/\i<=(xs.length:Int)/\Jq cs es p q xs i d,fun s_=>match s_ with|(i,d)=>xs.length-i.toNat,⟨(0,cs),?_,?_⟩,?_⟩;rotate_left;(focus (cbv;done));intro s_ hi;obtain⟨i,d⟩:=s_;replace hi:0<=i/\i<=(xs.length:Int)/\Jq cs es p q xs i d:=hi;obtain⟨i0,i1,i2⟩:=hi;cbv)|(refine ab (O.ar .add .i64 i 1,O.up (.s 1 d) [(O.ad 0 (F.peF es q),0),(O.ad 0 (O.gi xs i 0),0)] [.i (O.gi (O.gs cs (F.peF es p) 0) (O.gi xs i 0) 0)]) ?_ ?_ ?_;focus (cbv;done))
 all_goals(subst hO hr hF;(try simp only[nc]at*);(try simp only[ah,SS,sa,az]at*);(try simp only[vt]at*);(try rw[cE (by omega) (by omega)]);(try have cc:=xx (cs:=cs) (us:=us) (es:=es) (c:=c) (rs:=rs) (by assumption));(try have km:=(uZ cc.2).1);(try have mp:mapB es p=true:=(by assumption));(try have mq:mapB es q=true:=(by assumption));(try have fp:=oa km (of_decide_eq_true mp));(try have fq:=oa km (of_decide_eq_true mq));(try have xi:=bH.1 (by assumption:inR (af xs i 0) 0 15=true));(try have lp:=km.l (peF es p) fp.1 fp.2);(try have lq:=km.l (peF es q) fq.1 fq.2);(try have d0:=i2.z (by omega));(try have dw:Rw [.sl [tI]] d:=(by rw[d0];exact wc));(try have gp:=Hf wc fp.1 fp.2);(try have dl:d.length=cs.length:=(by rw[d0])))
 all_goals first
  | (show(_:List DV)=_
     first
      |(rw[show ccB cs us es c rs=false from(by assumption)];exact rfl)
      |(have z:=Mc (es:=es) (p:=p) (q:=q) (xs:=xs) (by assumption);rw[show ccB cs us es c rs=true from(by assumption)];exact iJ (Ej z).symm rfl rfl rfl rfl z.symm)
      |(have z:=Md (es:=es) (p:=p) (q:=q) (xs:=xs) (by assumption);rw[show ccB cs us es c rs=true from(by assumption)];exact iJ (Ej z).symm rfl rfl rfl rfl z.symm)
      |(have e0:i=0:=(by omega);subst e0;have z:=Me (es:=es) (p:=p) (q:=q) (xs:=xs) (by assumption);rw[show ccB cs us es c rs=true from(by assumption)];exact iJ (Ej z).symm rfl rfl rfl rfl z.symm)
      |(have z:=Mf mp mq i2 (by omega);rw[show ccB cs us es c rs=true from(by assumption)];exact iJ z.2 rfl rfl rfl rfl z.1.symm)
      |done)
  |omega
  |exact fe
  |exact⟨wc,wu,we,wr,k1,k2,k3,k4⟩
  |exact⟨wc,wu,we,wr⟩
  |exact we
  |exact J8
  |(rw[Je dw fq.1 (by rw[d0];exact fq.2) (by omega) (by rw[d0];omega)];exact J9 i2 i0 (by omega) (by assumption))
  |exact C7 dw fq.1 (by rw[d0];exact fq.2) (by omega) (by rw[d0];omega)
  |exact nQ dw fq.1 (by rw[d0];exact fq.2)
  |exact⟨by omega,by rw[d0];omega,kC dw fq.1 (by rw[d0];exact fq.2)⟩
  |(show aV _ _=true;kernel_rfl)
  |exact⟨VT,VT⟩
  |exact VT
  |done
theorem rX {cs us es:aa}{c:Int}{rs:aa}{p q:Int}{xs:aa}(hp:Rw [.sl [tI]] cs/\Rw [tB] us/\Rw [tI,tI] es/\Rw [tI] rs/\ir cs us es/\Rw [tI] xs/\xs.length=1):j7 330 [.mp [.own (.s 1 cs),.own (.s 1 us),.own (.s 2 es),.own (.i c),.own (.s 1 rs)],.j p,.j q,.one (.s 1 xs)] [[.own (.s 1 (kcC cs es p q xs)),.own (.s 1 us),.own (.s 2 es),.own (.i c),.own (.s 1 rs)]] [.k (kcB es p q xs)]:=by
 obtain⟨wc,wu,we,wr,km,wx,lx⟩:=hp;refine pb Zh0.B Tryz.func330 ?_
 intro O r os F hO hr hos hF;cbv
 repeat' first|apply AT|(apply bi<;>intro hb<;>cbv)|(refine⟨[0,1,2,3,9],[0],Int,fun i=>[.reg 9 (.j i)],fun i=>0<=i/\i<=(xs.length:Int)/\(0<i->inR (af xs 0 0) 0 15=true),fun i=>xs.length-i.toNat,⟨0,?_,?_⟩,?_⟩;rotate_left;(focus (cbv;done));intro i hi;replace hi:0<=i/\i<=(xs.length:Int)/\(0<i->inR (af xs 0 0) 0 15=true):=hi;obtain⟨i0,i1,i2⟩:=hi;cbv)|(refine⟨[0,3,10,11,12],[0],Int×aa,fun s_=>match s_ with|(k,d)=>[.reg 12 (.j k),.leaf 0 0 ⟨0,0,none,.own (.s 1 d)⟩],fun s_=>match s_ with|(k,d)=>0<=k/\k<=(xs.length:Int)/\Jq cs es p q xs k d,fun s_=>match s_ with|(k,d)=>xs.length-k.toNat,⟨(0,cs),?_,?_⟩,?_⟩;rotate_left;(focus (cbv;done));intro s_ hk;obtain⟨k,d⟩:=s_;replace hk:0<=k/\k<=(xs.length:Int)/\Jq cs es p q xs k d:=hk;obtain⟨k0,k1,k2⟩:=hk;cbv)|(refine ab (O.ar .add .i64 i 1) ?_ ?_ ?_;focus (cbv;done))|(refine ab (O.ar .add .i64 k 1,O.up (.s 1 d) [(O.ad 0 (O.pi (.s 2 es) [(O.ad 0 q,1)]),0),(O.ad 0 (O.gi xs k 0),0)] [.i (O.pi (.s 1 d) [(O.ad 0 (O.pi (.s 2 es) [(O.ad 0 p,1)]),0),(O.ad 0 (O.gi xs k 0),0)])]) ?_ ?_ ?_;focus (cbv;done))
 all_goals((try subst hos);subst hO hr hF;(try simp only[nc]at*);(try simp only[ah,SS,sa,az]at*);(try simp only[vt]at*);(try rw[cE (by omega) (by omega)]);(try have mp:mapB es p=true:=decide_eq_true (by assumption));(try have mq:mapB es q=true:=decide_eq_true (by assumption));(try have ap:=fW mp);(try have aq:=fW mq);(try have p0:=ap.1.1);(try have p1:=ap.1.2);(try have q0:=aq.1.1);(try have q1:=aq.1.2);(try have ep:=ap.2.2.1);(try have eq:=aq.2.2.1);(try simp only[Ev (l:=es) (sz:=2) (j:=1) (i:=p) p0]at*);(try simp only[Ev (l:=es) (sz:=2) (j:=1) (i:=q) q0]at*);(try simp only[<-ep]at*);(try simp only[<-eq]at*);(try have fp:=oa km (of_decide_eq_true mp));(try have fq:=oa km (of_decide_eq_true mq));(try have lp:=km.l (peF es p) fp.1 fp.2);(try have lq:=km.l (peF es q) fq.1 fq.2);(try have d0:=k2.z (by omega));(try subst d0);(try have k00:k=0:=(by omega));(try subst k00);(try have xk:=bH.1 (i2 (by omega)));(try have pii:=Qg wc fp.1 fp.2 xk.1 (by omega));(try simp only[pii]at*))
 all_goals first
  | (show(_:List DV)=_
     first
      |exact ai (Mc (decide_eq_false (fun n=>n (by assumption)))).symm
      |exact ai (Md (decide_eq_false (fun n=>n (by assumption)))).symm
      |(have e0:i=0:=(by omega);subst e0;exact ai (Me (by assumption)).symm)
      |exact ai (Mf mp mq k2 (by omega)).1.symm
      |done)
  | (show(_:List H)=_
     first
      |(rw[Ej (cs:=cs) (es:=es) (p:=p) (q:=q) (xs:=xs) (Mc (decide_eq_false (fun n=>n (by assumption))))];exact rfl)
      |(rw[Ej (cs:=cs) (es:=es) (p:=p) (q:=q) (xs:=xs) (Md (decide_eq_false (fun n=>n (by assumption))))];exact rfl)
      |(have e0:i=0:=(by omega);subst e0;rw[Ej (cs:=cs) (es:=es) (p:=p) (q:=q) (xs:=xs) (Me (by assumption))];exact rfl)
      |(rw[(Mf mp mq k2 (by omega)).2];exact rfl)
      |done)
  |omega
  |exact fe
  |exact we
  |exact J8
  |(intro _;have e0:i=0:=(by omega);subst e0;assumption)
  |exact fun h=>absurd h (by omega)
  |exact Em we p0 p1 (by decide)
  |exact Em we q0 q1 (by decide)
  |exact S9 wc fp.1 fp.2 xk.1 (by omega)
  |exact nQ wc fq.1 fq.2
  |exact nQ wc fp.1 fp.2
  |exact⟨by omega,by omega,kC wc fq.1 fq.2⟩
  |exact⟨by omega,by omega,kC wc fp.1 fp.2⟩
  |exact C7 wc fq.1 fq.2 xk.1 (by omega)
  |(rw[Je wc fq.1 fq.2 xk.1 (by omega)];exact J9 k2 k0 (by omega) (i2 (by omega)))
  |(show aV _ _=true;kernel_rfl)
  |exact⟨VT,VT⟩
  |exact VT
  |done
end Go.V