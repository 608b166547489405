/- Contracts. -/
import Derived.Test.YtcodmgmliopheaaGreatHoCt
set_option linter.all false
open Go
open And renaming intro->AT
open List renaming length_set->Wh
open True renaming intro->VT
namespace Go.V
open Go Go.Proofs
set_option maxRecDepth 1000000
set_option maxHeartbeats 8000000
namespace Zg0
structure aQ where
 hasB:aa->Int->Bool
abbrev F0 :aQ:=⟨hasB⟩
def ct (F:aQ):CT:=fun f ds=>match f,ds with
 |159,[.agg [.s 1 cs,.s 1 us,.s 2 es,.v (.int .i64 c),.s 1 rs]]=>some (fun _=>Rw [.sl [tI]] cs/\Rw [tB] us/\Rw [tI,tI] es/\Rw [tI] rs/\ag cs<=1099511627776/\ag us<=1099511627776/\ag es<=1099511627776/\ag rs<=1099511627776,[.agg [.s 1 cs,.s 1 us,.s 2 es,.i c,.s 1 rs]])
 |410,[.one (.s 1 l),.one (.v (.int .i64 x))]=>some (fun _=>Rw [tI] l/\l.length<=1099511627776,[.k (F.hasB l x)])
 |266,[.one (.s 1 l),.one (.v (.int .i64 x))]=>some (fun _=>Rw [tI] l,[.k (F.hasB l x)])
 |_,_=>none
theorem aj :aR (ct F0):=by
 intro f ds pre res h hp;unfold ct at h;split at h<;>cases h
 exact cY hp;exact gO hp;exact eB hp
abbrev B :cy:=tb aj
end Zg0
theorem ta {cs us es:aa}{c:Int}{rs:aa}(hp:Rw [.sl [tI]] cs/\Rw [tB] us/\Rw [tI,tI] es/\Rw [tI] rs/\ag cs<=1099511627776/\ag us<=1099511627776/\ag es<=1099511627776/\ag rs<=1099511627776/\0<=c/\c<=100000):aw 400 [.agg [.s 1 cs,.s 1 us,.s 2 es,.i c,.s 1 rs]] [.agg [.s 1 cs,.s 1 us,.s 2 es,.i (c1N c),.s 1 rs],.k (nhR rs c)]:=by
 obtain⟨wc,wu,we,wr,k1,k2,k3,k4,c0,c1⟩:=hp;have l4:=aU (es:=rs);have e1:bJ .add .i64 c 1=c+1:=bB (by omega);refine cb Zg0.B Tryz.func400 ?_
 intro O r F hO hr hF;cbv
 repeat' first|apply AT|(apply bi<;>intro hb<;>cbv)
 all_goals(subst hO hr hF;(try simp only[nc]at*);(try simp only[ah,SS,sa,az]at*);(try simp only[e1]at*))
 all_goals first|(show(_:List DV)=_;exact rfl)|exact⟨wc,wu,we,wr,k1,k2,k3,k4⟩|exact⟨wr,by omega⟩|(show aV _ _=true;kernel_rfl)|exact⟨VT,VT⟩|exact VT|done
theorem t7 {cs us es:aa}{c:Int}{rs:aa}(hp:Rw [tI] rs/\0<=c/\c<=100000):j7 397 [.mp [.own (.s 1 cs),.own (.s 1 us),.own (.s 2 es),.own (.i c),.own (.s 1 rs)]] [[.own (.s 1 cs),.own (.s 1 us),.own (.s 2 es),.own (.i (c1N c)),.own (.s 1 rs)]] [.k (nhR rs c)]:=by
 obtain⟨wr,c0,c1⟩:=hp;have e1:bJ .add .i64 c 1=c+1:=bB (by omega);have e2:bJ .sub .i64 (c+1) 1=c:=(cO (by omega)).trans (by omega);refine pb Zg0.B Tryz.func397 ?_
 intro O r os F hO hr hos hF;cbv
 repeat' first|apply AT|(apply bi<;>intro hb<;>cbv)
 all_goals((try subst hos);subst hO hr hF;(try simp only[nc]at*);(try simp only[ah,SS,sa,az]at*);(try simp only[e1]at*);(try simp only[e2]at*))
 all_goals first|(show(_:List DV)=_;exact rfl)|(show(_:List H)=_;exact rfl)|exact wr|(show aV _ _=true;kernel_rfl)|exact⟨VT,VT⟩|exact VT|done
namespace Zg1
structure aQ where
 ccB:aa->aa->aa->Int->aa->Bool
 c1N:Int->Int
 nhR:aa->Int->Bool
 mapB:aa->Int->Bool
 dfC:aa->aa->Int->aa
 dfU:aa->aa->Int->aa
 peM:aa->Int->Int
 inR:Int->Int->Int->Bool
abbrev F0 :aQ:=⟨ccB,c1N,nhR,mapB,dfC,dfU,peM,inR⟩
def ct (F:aQ):CT:=fun f ds=>match f,ds with
 |159,[.agg [.s 1 cs,.s 1 us,.s 2 es,.v (.int .i64 c),.s 1 rs]]=>some (fun _=>Rw [.sl [tI]] cs/\Rw [tB] us/\Rw [tI,tI] es/\Rw [tI] rs/\ag cs<=1099511627776/\ag us<=1099511627776/\ag es<=1099511627776/\ag rs<=1099511627776,[.agg [.s 1 cs,.s 1 us,.s 2 es,.i c,.s 1 rs]])
 |333,[.agg [.s 1 cs,.s 1 us,.s 2 es,.v (.int .i64 c),.s 1 rs]]=>some (fun _=>Rw [.sl [tI]] cs/\Rw [tB] us/\Rw [tI,tI] es/\Rw [tI] rs,[.k (F.ccB cs us es c rs)])
 |400,[.agg [.s 1 cs,.s 1 us,.s 2 es,.v (.int .i64 c),.s 1 rs]]=>some (fun _=>Rw [.sl [tI]] cs/\Rw [tB] us/\Rw [tI,tI] es/\Rw [tI] rs/\ag cs<=1099511627776/\ag us<=1099511627776/\ag es<=1099511627776/\ag rs<=1099511627776/\0<=c/\c<=100000,[.agg [.s 1 cs,.s 1 us,.s 2 es,.i (F.c1N c),.s 1 rs],.k (F.nhR rs c)])
 |289,[.agg [.s 1 a0,.s 1 a1,.s 2 a2,.v (.int .i64 a3),.s 1 a4],.one (.v (.int .i64 p))]=>some (fun _=>Rw [tI,tI] a2,[.k (F.mapB a2 p)])
 |328,[.ptr [.s 1 cs,.s 1 us,.s 2 es,.v (.int .i64 c),.s 1 rs],.one (.v (.int .i64 p))]=>some (fun _=>Rw [tI,tI] es,[.j (F.peM es p)])
 |89,[.one (.v (.int .i64 x)),.one (.v (.int .i64 a)),.one (.v (.int .i64 b))]=>some (fun _=>True,[.k (F.inR x a b)])
 |_,_=>none
theorem aj :aR (ct F0):=by
 intro f ds pre res h hp;unfold ct at h;split at h<;>cases h
 exact cY hp;exact gj hp;exact ta hp;exact fw hp;exact gy hp;exact be hp
def pt (F:aQ):PT:=fun f=>match f with
 | 343=>some fun ds=>match ds with
   |[.mp [.own (.s 1 cs),.own (.s 1 us),.own (.s 2 es),.own (.v (.int .i64 c)),.own (.s 1 rs)],.one (.v (.int .i64 f))]=>some (fun _=>Rw [.sl [tI]] cs/\Rw [tB] us/\Rw [tI,tI] es/\es.length<=1099511627776/\0<=f/\f<cs.length/\us.length=cs.length,[[.own (.s 1 (F.dfC cs es f)),.own (.s 1 (F.dfU us es f)),.own (.s 2 es),.own (.i c),.own (.s 1 rs)]],[])
   |_=>none
 | 397=>some fun ds=>match ds with
   |[.mp [.own (.s 1 cs),.own (.s 1 us),.own (.s 2 es),.own (.v (.int .i64 c)),.own (.s 1 rs)]]=>some (fun _=>Rw [tI] rs/\0<=c/\c<=100000,[[.own (.s 1 cs),.own (.s 1 us),.own (.s 2 es),.own (.i (F.c1N c)),.own (.s 1 rs)]],[.k (F.nhR rs c)])
   |_=>none
 | 398=>some fun ds=>match ds with
   |[.mp [.own (.s 1 cs),.own (.s 1 us),.own (.s 2 es),.own (.v (.int .i64 c)),.own (.s 1 rs)],.one (.v (.int .i64 f))]=>some (fun _=>Rw [.sl [tI]] cs/\Rw [tB] us/\Rw [tI,tI] es/\es.length<=1099511627776/\0<=f/\f<cs.length/\us.length=cs.length,[[.own (.s 1 (F.dfC cs es f)),.own (.s 1 (F.dfU us es f)),.own (.s 2 es),.own (.i c),.own (.s 1 rs)]],[])
   |_=>none
 |_=>none
theorem iO :sR (pt F0):=by
 intro f mk h ds pre outs res hm hp;unfold pt at h;split at h
 ·cases h;dsimp only at hm;split at hm
  ·cases hm;exact te hp
  ·cases hm
 ·cases h;dsimp only at hm;split at hm
  ·cases hm;exact t7 hp
  ·cases hm
 ·cases h;dsimp only at hm;split at hm
  ·cases hm;exact t9 hp
  ·cases hm
 ·cases h
abbrev B :cy:={Φ:=aQ,F0:=F0,ct:=ct,hc:=aj,pt:=pt,hp:=iO}
end Zg1
theorem qI {cs us es:aa}{c:Int}{rs:aa}{p m:Int}(hp:Rw [.sl [tI]] cs/\Rw [tB] us/\Rw [tI,tI] es/\Rw [tI] rs/\ag cs<=1099511627776/\ag us<=1099511627776/\ag es<=1099511627776/\ag rs<=1099511627776):aw 334 [.agg [.s 1 cs,.s 1 us,.s 2 es,.i c,.s 1 rs],.j p,.j m] [.agg [.s 1 cs,.s 1 us,.s 2 (kqE (ccB cs us es c rs) es c rs p m),.i (kqN (ccB cs us es c rs) c),.s 1 rs],.k (kqB (ccB cs us es c rs) es c rs p m)]:=by
 obtain⟨wc,wu,we,wr,k1,k2,k3,k4⟩:=hp;refine cb Zg1.B Tryz.func334 ?_
 intro O r F hO hr hF;cbv
 repeat' first|apply AT|(apply bi<;>intro hb<;>cbv)
 all_goals(subst hO hr hF;(try simp only[nc]at*);(try simp only[ah,SS,sa,az]at*);(try have cc:=xx (cs:=cs) (us:=us) (es:=es) (c:=c) (rs:=rs) (by assumption));(try have kr:=uZ cc.2);(try have km:=kr.1);(try have c0:=kr.2.1);(try have c1:=kr.2.2.1);(try have nh:nhR rs c=true:=(by assumption));(try have mp:mapB es p=true:=(by first|assumption|exact decide_eq_true (by assumption)));(try have at_:=fW mp);(try have p0:=at_.1.1);(try have p1:=at_.1.2);(try have pf:=at_.2.2.1))
 all_goals first
  | (show(_:List DV)=_
     first
      |(exfalso;have q:false=true:=(by assumption);cases q)
      |(rw[show ccB cs us es c rs=false from(by assumption)];exact rfl)
      |(have q:=Mp (es:=es) (p:=p) (m:=m) (rs:=rs) (c:=c) (by assumption);rw[show ccB cs us es c rs=true from(by assumption)];exact iJ rfl rfl (Ek q).symm rfl rfl q.symm)
      |(have q:=O9 (es:=es) (p:=p) (m:=m) (rs:=rs) (c:=c) (by assumption);rw[show ccB cs us es c rs=true from(by assumption)];exact iJ rfl rfl (Ek q).symm rfl rfl q.symm)
      |(have q:=Mq (es:=es) (p:=p) (m:=m) (rs:=rs) (c:=c) (by omega);rw[show ccB cs us es c rs=true from(by assumption)];exact iJ rfl rfl (Ek q).symm rfl rfl q.symm)
      |(have q:=Mr (m:=m) nh mp (by omega);rw[show ccB cs us es c rs=true from(by assumption)];exact iJ rfl rfl ((QT we p0 p1 pf).trans (Pb q).symm) rfl rfl q.symm)
      |done)
  |omega
  |exact⟨wc,wu,we,wr,k1,k2,k3,k4,c0,c1⟩
  |exact⟨wc,wu,we,wr,k1,k2,k3,k4⟩
  |exact⟨wc,wu,we,wr⟩
  |exact we
  |exact QW we p0 p1 (by decide)
  |(show aV _ _=true;kernel_rfl)
  |exact⟨VT,VT⟩
  |exact VT
  |done
theorem gV {cs us es:aa}{c:Int}{rs:aa}{p m:Int}(hp:Rw [.sl [tI]] cs/\Rw [tB] us/\Rw [tI,tI] es/\Rw [tI] rs/\ir cs us es/\0<=c/\c<=100000):j7 329 [.mp [.own (.s 1 cs),.own (.s 1 us),.own (.s 2 es),.own (.i c),.own (.s 1 rs)],.j p,.j m] [[.own (.s 1 cs),.own (.s 1 us),.own (.s 2 (kpE es c rs p m)),.own (.i (c1N c)),.own (.s 1 rs)]] [.k (kpB es c rs p m)]:=by
 obtain⟨wc,wu,we,wr,km,c0,c1⟩:=hp;refine pb Zg1.B Tryz.func329 ?_
 intro O r os F hO hr hos hF;cbv
 repeat' first|apply AT|(apply bi<;>intro hb<;>cbv)
 all_goals((try subst hos);subst hO hr hF;(try simp only[nc]at*);(try simp only[ah,SS,sa,az]at*);(try have nh:nhR rs c=true:=(by assumption));(try have mp:mapB es p=true:=(by first|assumption|exact decide_eq_true (by assumption)));(try have at_:=fW mp);(try have p0:=at_.1.1);(try have p1:=at_.1.2);(try have pf:=at_.2.2.1))
 all_goals first
  | (show(_:List DV)=_
     first
      |exact ai (Mp (by assumption)).symm
      |exact ai (Ka (by assumption)).symm
      |exact ai (Mq (fun e=>by have r:=nR.1 (by assumption:inR m 1 2=false);omega)).symm
      |exact ai (Mr nh mp (by have:=bH.1 (by assumption:inR m 1 2=true);omega)).symm
      |done)
  | (show(_:List H)=_
     first
      |(have q:=Ek (Mp (es:=es) (p:=p) (m:=m) (rs:=rs) (c:=c) (by assumption));rw[q];exact rfl)
      |(have q:=Ek (Ka (es:=es) (p:=p) (m:=m) (rs:=rs) (c:=c) (by assumption));rw[q];exact rfl)
      |(have q:=Ek (Mq (es:=es) (p:=p) (m:=m) (rs:=rs) (c:=c) (fun e=>by have r:=nR.1 (by assumption:inR m 1 2=false);omega));rw[q];exact rfl)
      |(have q:=Pb (Mr (m:=m) nh mp (by have:=bH.1 (by assumption:inR m 1 2=true);omega));rw[q,QT we p0 p1 pf];exact rfl)
      |done)
  |omega
  |exact⟨wr,c0,c1⟩
  |exact we
  |exact QW we p0 p1 (by decide)
  |(show aV _ _=true;kernel_rfl)
  |exact⟨VT,VT⟩
  |exact VT
  |done
theorem wj {cs us es:aa}{c:Int}{rs:aa}{p q:Int}(hp:Rw [.sl [tI]] cs/\Rw [tB] us/\Rw [tI,tI] es/\Rw [tI] rs/\ag cs<=1099511627776/\ag us<=1099511627776/\ag es<=1099511627776/\ag rs<=1099511627776):aw 336 [.agg [.s 1 cs,.s 1 us,.s 2 es,.i c,.s 1 rs],.j p,.j q] [.agg [.s 1 (krC (ccB cs us es c rs) cs es c rs p q),.s 1 (krU (ccB cs us es c rs) us es c rs p q),.s 2 (krE (ccB cs us es c rs) es c rs p q),.i (kqN (ccB cs us es c rs) c),.s 1 rs],.k (krB (ccB cs us es c rs) es c rs p q)]:=by
 obtain⟨wc,wu,we,wr,k1,k2,k3,k4⟩:=hp;refine cb Zg1.B Tryz.func336 ?_
 intro O r F hO hr hF;cbv
 repeat' first|apply AT|(apply bi<;>intro hb<;>cbv)
 all_goals(subst hO hr hF;(try simp only[nc]at*);(try simp only[ah,SS,sa,az]at*);(try have cc:=xx (cs:=cs) (us:=us) (es:=es) (c:=c) (rs:=rs) (by assumption));(try have kr:=uZ cc.2);(try have km:=kr.1);(try have c0:=kr.2.1);(try have c1:=kr.2.2.1);(try have nh:nhR rs c=true:=(by assumption));(try have mp:mapB es p=true:=(by first|assumption|exact decide_eq_true (by assumption)));(try have at_:=fW mp);(try have p0:=at_.1.1);(try have p1:=at_.1.2);(try have pf:=at_.2.2.1);(try have mq:mapB es q=true:=(by first|assumption|exact decide_eq_true (by assumption)));(try have aq:=fW mq);(try have q0:=aq.1.1);(try have q1:=aq.1.2);(try have qf:=aq.2.2.1);(try have fr:=nW km mp);(try have fq:=nW km mq);(try have cn:=km.n1);(try have en:=km.e1);(try have ul:=km.u);(try simp only[Ev (l:=es) (sz:=2) (j:=1) (i:=p) p0]at*);(try simp only[Ev (l:=es) (sz:=2) (j:=1) (i:=q) q0]at*);(try have um:=KJ (m:=2) (f:=af es q 1) we p0 p1);(try simp only[um]at*);(try have rm:=IR (p:=p) (m:=2) (f:=af es q 1) we (by omega) (by omega));(try have ll:(oA es p 2 (af es q 1)).length=es.length:=Wh))
 all_goals first
  | (show(_:List DV)=_
     first
      |(exfalso;have q:false=true:=(by assumption);cases q)
      |(rw[show ccB cs us es c rs=false from(by assumption)];exact rfl)
      |(have z:=Mj (es:=es) (p:=p) (q:=q) (rs:=rs) (c:=c) (by assumption);have y:=AK (cs:=cs) (us:=us) z;rw[show ccB cs us es c rs=true from(by assumption)];exact iJ y.1.symm y.2.1.symm y.2.2.symm rfl rfl z.symm)
      |(have z:=Mk (es:=es) (p:=p) (q:=q) (rs:=rs) (c:=c) (by assumption);have y:=AK (cs:=cs) (us:=us) z;rw[show ccB cs us es c rs=true from(by assumption)];exact iJ y.1.symm y.2.1.symm y.2.2.symm rfl rfl z.symm)
      |(have z:=Ml (es:=es) (p:=p) (q:=q) (rs:=rs) (c:=c) (by assumption);have y:=AK (cs:=cs) (us:=us) z;rw[show ccB cs us es c rs=true from(by assumption)];exact iJ y.1.symm y.2.1.symm y.2.2.symm rfl rfl z.symm)
      |(have z:=Mm (es:=es) (p:=p) (q:=q) (rs:=rs) (c:=c) (by omega);have y:=AK (cs:=cs) (us:=us) z;rw[show ccB cs us es c rs=true from(by assumption)];exact iJ y.1.symm y.2.1.symm y.2.2.symm rfl rfl z.symm)
      |(have z:=Mn nh mp mq (by assumption);have y:=O8 (cs:=cs) (us:=us) z;rw[pf,qf]at y;rw[show ccB cs us es c rs=true from(by assumption)];exact iJ y.1.symm y.2.1.symm y.2.2.symm rfl rfl z.symm)
      |done)
  |omega
  |exact⟨wc,wu,we,wr,k1,k2,k3,k4,c0,c1⟩
  |exact⟨wc,wu,we,wr,k1,k2,k3,k4⟩
  |exact⟨wc,wu,we,wr⟩
  |exact we
  |exact KN we p0 p1
  |exact Em we p0 p1 (by decide)
  |exact Em we q0 q1 (by decide)
  |exact⟨wc,wu,rm,by omega,fr.1,fr.2,ul⟩
  |(show aV _ _=true;kernel_rfl)
  |exact⟨VT,VT⟩
  |exact VT
  |done
theorem yA {cs us es:aa}{c:Int}{rs:aa}{p q:Int}(hp:Rw [.sl [tI]] cs/\Rw [tB] us/\Rw [tI,tI] es/\Rw [tI] rs/\ir cs us es/\0<=c/\c<=100000):j7 331 [.mp [.own (.s 1 cs),.own (.s 1 us),.own (.s 2 es),.own (.i c),.own (.s 1 rs)],.j p,.j q] [[.own (.s 1 (koC cs es c rs p q)),.own (.s 1 (koU us es c rs p q)),.own (.s 2 (koE es c rs p q)),.own (.i (c1N c)),.own (.s 1 rs)]] [.k (koB es c rs p q)]:=by
 obtain⟨wc,wu,we,wr,km,c0,c1⟩:=hp;refine pb Zg1.B Tryz.func331 ?_
 intro O r os F hO hr hos hF;cbv
 repeat' first|apply AT|(apply bi<;>intro hb<;>cbv)
 all_goals((try subst hos);subst hO hr hF;(try simp only[nc]at*);(try simp only[ah,SS,sa,az]at*);(try have nh:nhR rs c=true:=(by assumption));(try have mp:mapB es p=true:=(by first|assumption|exact decide_eq_true (by assumption)));(try have at_:=fW mp);(try have p0:=at_.1.1);(try have p1:=at_.1.2);(try have pf:=at_.2.2.1);(try have mq:mapB es q=true:=(by first|assumption|exact decide_eq_true (by assumption)));(try have aq:=fW mq);(try have q0:=aq.1.1);(try have q1:=aq.1.2);(try have qf:=aq.2.2.1);(try have fr:=nW km mp);(try have fq:=nW km mq);(try have cn:=km.n1);(try have en:=km.e1);(try have ul:=km.u);(try simp only[Ev (l:=es) (sz:=2) (j:=1) (i:=p) p0]at*);(try simp only[Ev (l:=es) (sz:=2) (j:=1) (i:=q) q0]at*);(try have um:=KJ (m:=2) (f:=af es q 1) we p0 p1);(try simp only[um]at*);(try have rm:=IR (p:=p) (m:=2) (f:=af es q 1) we (by omega) (by omega));(try have ll:(oA es p 2 (af es q 1)).length=es.length:=Wh))
 all_goals first
  | (show(_:List DV)=_
     first
      |exact ai (Mj (by assumption)).symm
      |exact ai (Mk (decide_eq_false (fun n=>n (by assumption)))).symm
      |exact ai (Ml (decide_eq_false (fun n=>n (by assumption)))).symm
      |exact ai (Mm (by assumption)).symm
      |exact ai (Mn nh mp mq (by assumption)).symm
      |done)
  | (show(_:List H)=_
     first
      |(have y:=AK (cs:=cs) (us:=us) (Mj (es:=es) (p:=p) (q:=q) (rs:=rs) (c:=c) (by assumption));rw[y.1,y.2.1,y.2.2];exact rfl)
      |(have y:=AK (cs:=cs) (us:=us) (Mk (es:=es) (p:=p) (q:=q) (rs:=rs) (c:=c) (decide_eq_false (fun n=>n (by assumption))));rw[y.1,y.2.1,y.2.2];exact rfl)
      |(have y:=AK (cs:=cs) (us:=us) (Ml (es:=es) (p:=p) (q:=q) (rs:=rs) (c:=c) (decide_eq_false (fun n=>n (by assumption))));rw[y.1,y.2.1,y.2.2];exact rfl)
      |(have y:=AK (cs:=cs) (us:=us) (Mm (es:=es) (p:=p) (q:=q) (rs:=rs) (c:=c) (by assumption));rw[y.1,y.2.1,y.2.2];exact rfl)
      |(have y:=O8 (cs:=cs) (us:=us) (Mn nh mp mq (by assumption));rw[pf,qf]at y;rw[y.1,y.2.1,y.2.2];exact rfl)
      |done)
  |omega
  |exact⟨wr,c0,c1⟩
  |exact we
  |exact KN we p0 p1
  |exact Em we p0 p1 (by decide)
  |exact Em we q0 q1 (by decide)
  |exact⟨wc,wu,rm,by omega,fr.1,fr.2,ul⟩
  |(show aV _ _=true;kernel_rfl)
  |exact⟨VT,VT⟩
  |exact VT
  |done
end Go.V