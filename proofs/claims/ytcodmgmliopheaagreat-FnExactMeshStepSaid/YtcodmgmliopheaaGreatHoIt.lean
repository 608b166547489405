/- Contracts. -/
import Derived.Test.YtcodmgmliopheaaGreatHoHt
import Derived.Test.YtcodmgmliopheaaGreatHoBt
set_option linter.all false
open Go
open And renaming intro->AT
open True renaming intro->VT
namespace Go.V
open Go Go.Proofs
set_option maxRecDepth 1000000
set_option maxHeartbeats 8000000
namespace Zi0
structure aQ where
 smM:aa->aa->aa->Int->Int
 smF:aa->aa->aa->Int->Int
 inR:Int->Int->Int->Bool
 leM:aa->Int->Int
 leF:aa->Int->Int
 leK:Int->Int
 machOk:aa->aa->aa->Bool
abbrev F0 :aQ:=⟨smM,smF,inR,leM,leF,leK,machOk⟩
def ct (F:aQ):CT:=fun f ds=>match f,ds with
 |283,[.agg [.s 1 cs,.s 1 us,.s 2 es]]=>some (fun _=>Rw [.sl [tI]] cs/\Rw [tB] us/\Rw [tI,tI] es/\ag cs<=1099511627776/\ag us<=1099511627776/\ag es<=1099511627776,[.agg [.s 1 cs,.s 1 us,.s 2 es]])
 |401,[.agg [.s 1 cs,.s 1 us,.s 2 es],.one (.v (.int .i64 a))]=>some (fun _=>Rw [.sl [tI]] cs/\Rw [tB] us/\Rw [tI,tI] es/\(-9223372036854775808<=a/\a<=9223372036854775807),[.agg [.i (F.smM cs us es a),.i (F.smF cs us es a)]])
 |91,[.one (.v (.int .i64 x)),.one (.v (.int .i64 a)),.one (.v (.int .i64 b))]=>some (fun _=>True,[.k (F.inR x a b)])
 |262,[.agg [.s 1 cs,.s 1 us,.s 2 es]]=>some (fun _=>Rw [.sl [tI]] cs/\Rw [tB] us/\Rw [tI,tI] es/\ag cs<=1099511627776/\ag us<=1099511627776/\ag es<=1099511627776,[.agg [.s 1 cs,.s 1 us,.s 2 es]])
 |424,[.agg [.s 1 b0,.s 1 b1,.s 2 es],.one (.v (.int .i64 a))]=>some (fun _=>Rw [tI,tI] es/\(-9223372036854775808<=a/\a<=9223372036854775807),[.agg [.i (F.leM es a),.i (F.leF es a)],.j (F.leK a)])
 |263,[.agg [.s 1 cs,.s 1 us,.s 2 es]]=>some (fun _=>Rw [.sl [tI]] cs/\Rw [tB] us/\Rw [tI,tI] es,[.k (F.machOk cs us es)])
 |89,[.one (.v (.int .i64 x)),.one (.v (.int .i64 a)),.one (.v (.int .i64 b))]=>some (fun _=>True,[.k (F.inR x a b)])
 |_,_=>none
theorem aj :aR (ct F0):=by
 intro f ds pre res h hp;unfold ct at h;split at h<;>cases h
 exact eG hp;exact kq hp;exact bc hp;exact kv hp;exact rW hp;exact iD hp;exact be hp
abbrev B :cy:=tb aj
end Zi0
theorem yz {cs us es:aa}{a v:Int}(hp:Rw [.sl [tI]] cs/\Rw [tB] us/\Rw [tI,tI] es/\ag cs<=1099511627776/\ag us<=1099511627776/\ag es<=1099511627776/\(-9223372036854775808<=a/\a<=9223372036854775807)):aw 399 [.agg [.s 1 cs,.s 1 us,.s 2 es],.j a,.j v] [.agg [.s 1 (stC cs us es a v),.s 1 us,.s 2 es],.j (stK cs us es a v)]:=by
 obtain⟨hc,hu,he,hn,hm,hk,ha⟩:=hp;refine cb Zi0.B Tryz.func399 ?_
 intro O r F hO hr hF;cbv
 repeat' first|apply AT|(apply bi<;>intro hb<;>cbv)
 all_goals(subst hO hr hF;(try simp only[nc]at*);(try simp only[ah,SS,sa,az]at*);(try simp only[vt]at*);(try(have hi:machOk cs us es=true:=(by assumption);simp only[<- (mC (a:=a) hi).1, <- (mC (a:=a) hi).2]at*));(try(have hk0:leK a=a%16:=(jn (es:=[]) (by have:=(A8 (cs:=cs) (us:=us) (es:=es) (a:=a) (by assumption)).2;omega)).2.2;simp only[hk0]at*));(try(have hs:=Hb (cs:=cs) (us:=us) (es:=es) (a:=a) (by assumption);have ha0:=(A8 (cs:=cs) (us:=us) (es:=es) (a:=a) (by assumption)).2));(try simp only[ya (n:=16) ha0]at*))
 all_goals first|(show aV _ _=true;kernel_rfl)|exact⟨hc,hu,he,hn,hm,hk⟩|exact⟨hc,hu,he,ha⟩|exact⟨he,ha⟩|exact⟨hc,hu,he⟩|exact oD (Bb (qC (.inl (by assumption))).1).2.symm rfl rfl (Bb (qC (.inl (by assumption))).1).1.symm|exact oD (Bb (by assumption)).2.symm rfl rfl (Bb (by assumption)).1.symm|exact oD (I1 (by assumption)).2.symm rfl rfl (I1 (by assumption)).1.symm|exact oD (I2 (by assumption) (by assumption) (by assumption)).2.symm rfl rfl (I2 (by assumption) (by assumption) (by assumption)).1.symm|exact oD ((Je hc hs.1 hs.2.1 (by omega) (by omega)).trans (I0 (by assumption) (by assumption) (by assumption)).2.symm) rfl rfl (I0 (by assumption) (by assumption) (by assumption)).1.symm|exact C7 hc hs.1 hs.2.1 (by omega) (by omega)|exact nQ hc hs.1 hs.2.1|exact⟨by omega,by omega,kC hc hs.1 hs.2.1⟩|exact⟨trivial,trivial⟩|trivial|omega|trace_state
namespace Zi1
structure aQ where
 ccB:aa->aa->aa->Int->aa->Bool
 jbOk:Int->Int->aa->Int->Int->Bool
 mapB:aa->Int->Bool
 peM:aa->Int->Int
 peF:aa->Int->Int
 kqE:Bool->aa->Int->aa->Int->Int->aa
 kqN:Bool->Int->Int
 kqB:Bool->aa->Int->aa->Int->Int->Bool
 kdC:Bool->aa->aa->Int->Int->aa->aa
 kdB:Bool->aa->Int->Int->aa->Bool
 krC:Bool->aa->aa->Int->aa->Int->Int->aa
 krU:Bool->aa->aa->Int->aa->Int->Int->aa
 krE:Bool->aa->Int->aa->Int->Int->aa
 krB:Bool->aa->Int->aa->Int->Int->Bool
 stC:aa->aa->aa->Int->Int->aa
 stK:aa->aa->aa->Int->Int->Int
abbrev F0 :aQ:=⟨ccB,jbOk,mapB,peM,peF,kqE,kqN,kqB,kdC,kdB,krC,krU,krE,krB,stC,stK⟩
def ct (F:aQ):CT:=fun f ds=>match f,ds with
 |159,[.agg [.s 1 cs,.s 1 us,.s 2 es,.v (.int .i64 c),.s 1 rs]]=>some (fun _=>Rw [.sl [tI]] cs/\Rw [tB] us/\Rw [tI,tI] es/\Rw [tI] rs/\ag cs<=1099511627776/\ag us<=1099511627776/\ag es<=1099511627776/\ag rs<=1099511627776,[.agg [.s 1 cs,.s 1 us,.s 2 es,.i c,.s 1 rs]])
 |164,[.agg [.v (.int .i64 k),.v (.int .i64 m),.s 1 cs,.v (.int .i64 p),.v (.int .i64 n)]]=>some (fun _=>Rw [tI] cs/\cs.length<=1099511627776,[.agg [.i k,.i m,.s 1 cs,.i p,.i n]])
 |333,[.agg [.s 1 cs,.s 1 us,.s 2 es,.v (.int .i64 c),.s 1 rs]]=>some (fun _=>Rw [.sl [tI]] cs/\Rw [tB] us/\Rw [tI,tI] es/\Rw [tI] rs,[.k (F.ccB cs us es c rs)])
 |176,[.agg [.v (.int .i64 k),.v (.int .i64 m),.s 1 cs,.v (.int .i64 ph),.v (.int .i64 nx)]]=>some (fun _=>Rw [tI] cs/\cs.length<=1099511627776,[.k (F.jbOk k m cs ph nx)])
 |289,[.agg [.s 1 a0,.s 1 a1,.s 2 a2,.v (.int .i64 a3),.s 1 a4],.one (.v (.int .i64 p))]=>some (fun _=>Rw [tI,tI] a2,[.k (F.mapB a2 p)])
 |112,[.agg [.s 2 es],.one (.v (.int .i64 p))]=>some (fun _=>Rw [tI,tI] es,[.agg [.i (F.peM es p),.i (F.peF es p)]])
 |334,[.agg [.s 1 cs,.s 1 us,.s 2 es,.v (.int .i64 c),.s 1 rs],.one (.v (.int .i64 p)),.one (.v (.int .i64 m))]=>some (fun _=>Rw [.sl [tI]] cs/\Rw [tB] us/\Rw [tI,tI] es/\Rw [tI] rs/\ag cs<=1099511627776/\ag us<=1099511627776/\ag es<=1099511627776/\ag rs<=1099511627776,[.agg [.s 1 cs,.s 1 us,.s 2 (F.kqE (F.ccB cs us es c rs) es c rs p m),.i (F.kqN (F.ccB cs us es c rs) c),.s 1 rs],.k (F.kqB (F.ccB cs us es c rs) es c rs p m)])
 |335,[.agg [.s 1 cs,.s 1 us,.s 2 es,.v (.int .i64 c),.s 1 rs],.one (.v (.int .i64 p)),.one (.v (.int .i64 q)),.one (.s 1 xs)]=>some (fun _=>Rw [.sl [tI]] cs/\Rw [tB] us/\Rw [tI,tI] es/\Rw [tI] rs/\ag cs<=1099511627776/\ag us<=1099511627776/\ag es<=1099511627776/\ag rs<=1099511627776/\Rw [tI] xs/\xs.length=1,[.agg [.s 1 (F.kdC (F.ccB cs us es c rs) cs es p q xs),.s 1 us,.s 2 es,.i c,.s 1 rs],.k (F.kdB (F.ccB cs us es c rs) es p q xs)])
 |336,[.agg [.s 1 cs,.s 1 us,.s 2 es,.v (.int .i64 c),.s 1 rs],.one (.v (.int .i64 p)),.one (.v (.int .i64 q))]=>some (fun _=>Rw [.sl [tI]] cs/\Rw [tB] us/\Rw [tI,tI] es/\Rw [tI] rs/\ag cs<=1099511627776/\ag us<=1099511627776/\ag es<=1099511627776/\ag rs<=1099511627776,[.agg [.s 1 (F.krC (F.ccB cs us es c rs) cs es c rs p q),.s 1 (F.krU (F.ccB cs us es c rs) us es c rs p q),.s 2 (F.krE (F.ccB cs us es c rs) es c rs p q),.i (F.kqN (F.ccB cs us es c rs) c),.s 1 rs],.k (F.krB (F.ccB cs us es c rs) es c rs p q)])
 |337,[.agg [.s 1 cs,.s 1 us,.s 2 es],.one (.v (.int .i64 a)),.one (.v (.int .i64 v))]=>some (fun _=>Rw [.sl [tI]] cs/\Rw [tB] us/\Rw [tI,tI] es/\ag cs<=1099511627776/\ag us<=1099511627776/\ag es<=1099511627776/\(-9223372036854775808<=a/\a<=9223372036854775807),[.agg [.s 1 (F.stC cs us es a v),.s 1 us,.s 2 es],.j (F.stK cs us es a v)])
 |_,_=>none
theorem aj :aR (ct F0):=by
 intro f ds pre res h hp;unfold ct at h;split at h<;>cases h
 exact cY hp;exact kn hp;exact gj hp;exact mP hp;exact fw hp;exact cP hp;exact qI hp;exact yr hp;exact wj hp;exact yt hp
abbrev B :cy:=tb aj
end Zi1
theorem s7 {cs us es:aa}{c:Int}{rs:aa}{kp mv:Int}{xs:aa}{ph nx:Int}(hp:Rw [.sl [tI]] cs/\Rw [tB] us/\Rw [tI,tI] es/\Rw [tI] rs/\ag cs<=1099511627776/\ag us<=1099511627776/\ag es<=1099511627776/\ag rs<=1099511627776/\Rw [tI] xs/\xs.length<=1099511627776):aw 226 [.agg [.s 1 cs,.s 1 us,.s 2 es,.i c,.s 1 rs],.agg [.i kp,.i mv,.s 1 xs,.i ph,.i nx]] [.agg [.s 1 (ifR (jmB (ccB cs us es c rs) es kp mv xs ph nx) (jsC cs us es c rs kp mv xs ph nx) cs),.s 1 (ifR (jmB (ccB cs us es c rs) es kp mv xs ph nx) (jsU us es c rs kp mv ph) us),.s 2 (ifR (jmB (ccB cs us es c rs) es kp mv xs ph nx) (jsE es c rs kp mv ph nx) es),.i (ifN (jmB (ccB cs us es c rs) es kp mv xs ph nx) (jsN c ph nx) c),.s 1 rs],.agg [.i kp,.i mv,.s 1 xs,.i (ifN (jmB (ccB cs us es c rs) es kp mv xs ph nx) (jsP es c rs kp mv xs ph nx) ph),.i (ifN (jmB (ccB cs us es c rs) es kp mv xs ph nx) (jsX xs ph nx) nx)]]:=by
 obtain⟨wc,wu,we,wr,k1,k2,k3,k4,wx,lx⟩:=hp;refine cb Zi1.B Tryz.func226 ?_
 intro O r F hO hr hF;cbv
 repeat' first|apply AT|(apply bi<;>intro hb<;>cbv)
 all_goals(subst hO hr hF;(try simp only[nc]at*);(try simp only[ah,SS,sa,az]at*);(try have c1:ccB cs us es c rs=true:=(by assumption));(try have j1:jbOk kp mv xs ph nx=true:=(by assumption));(try have m1:mapB es kp=true:=(by assumption));(try have m2:mapB es mv=true:=(by assumption));(try have g1:jmB (ccB cs us es c rs) es kp mv xs ph nx=true:=SO c1 j1 m1 m2 (by assumption));(try have J:=RN j1);(try have n0:=J.n0);(try have n1:=J.n1);(try have kk0:=J.k0);(try have kk1:=J.k1);(try simp only[SX c1]at*);(try simp only[SY c1]at*);(try simp only[SV c1]at*);(try simp only[S5 c1]at*);(try simp only[S7 c1]at*);(try simp only[S6 c1]at*);(try simp only[SZ c1]at*);(try simp only[SR c1]at*);(try have xe:=KR wx n0 (by omega) (a:=nx.toNat) rfl (b:=Oi (bJ .add .i64 nx 1) nx) (by rw[bB (by omega)];unfold Oi;omega));(try simp only[xe]at*);(try have xm:bJ .sub .i64 nx 1=nx-1:=cO (by omega));(try simp only[xm]at*);(try have xp:bJ .add .i64 nx 1=nx+1:=bB (by omega));(try simp only[xp]at*);(try have xi:=J.x (nx-1) (by omega) (by omega));(try have xk:bJ .mul .i64 kp 16=kp*16:=(by first|exact mul64 (by omega)|exact Ce (by omega)));(try simp only[xk]at*);(try have xa:bJ .add .i64 (kp*16) (af xs (nx-1) 0)=kp*16+af xs (nx-1) 0:=bB (by omega));(try simp only[xa]at*))
 all_goals first
  | (show(_:List DV)=_
     first
      |(rw[O3 (es:=es) (kp:=kp) (mv:=mv) (xs:=xs) (ph:=ph) (nx:=nx) (by assumption:ccB cs us es c rs=false)];exact rfl)
      |(rw[O4 (k:=ccB cs us es c rs) (es:=es) (by assumption:jbOk kp mv xs ph nx=false)];exact rfl)
      |(rw[O5 (k:=ccB cs us es c rs) (mv:=mv) (xs:=xs) (ph:=ph) (nx:=nx) (by assumption:mapB es kp=false)];exact rfl)
      |(rw[O6 (k:=ccB cs us es c rs) (kp:=kp) (xs:=xs) (ph:=ph) (nx:=nx) (by assumption:mapB es mv=false)];exact rfl)
      |(rw[SL (k:=ccB cs us es c rs) (xs:=xs) (ph:=ph) (nx:=nx) (by assumption:peF es kp=peF es mv)];exact rfl)
      |(have q:=FQ (cs:=cs) (us:=us) (es:=es) (c:=c) (rs:=rs) (kp:=kp) (mv:=mv) (xs:=xs) (nx:=nx) (by assumption:ph=0);have z:=J5 (es:=es) (c:=c) (rs:=rs) (kp:=kp) (mv:=mv) (xs:=xs) (nx:=nx) (by assumption:ph=0) (by assumption);rw[g1];exact iI q.1.symm q.2.1.symm q.2.2.1.symm q.2.2.2.1.symm rfl z.symm q.2.2.2.2.symm)
      |(have q:=FQ (cs:=cs) (us:=us) (es:=es) (c:=c) (rs:=rs) (kp:=kp) (mv:=mv) (xs:=xs) (nx:=nx) (by assumption:ph=0);have z:=J4 (es:=es) (c:=c) (rs:=rs) (kp:=kp) (mv:=mv) (xs:=xs) (nx:=nx) (by assumption:ph=0) (by assumption);rw[g1];exact iI q.1.symm q.2.1.symm q.2.2.1.symm q.2.2.2.1.symm rfl z.symm q.2.2.2.2.symm)
      |(have q:=FR (cs:=cs) (us:=us) (es:=es) (c:=c) (rs:=rs) (kp:=kp) (mv:=mv) (xs:=xs) (nx:=nx) (by assumption:ph=1) (by assumption);have z:=q.2.2.2.2.2;rw[g1];exact iI q.1.symm q.2.1.symm q.2.2.1.symm q.2.2.2.1.symm rfl z.symm q.2.2.2.2.1.symm)
      |(have q:=AG (cs:=cs) (us:=us) (es:=es) (c:=c) (rs:=rs) (kp:=kp) (mv:=mv) (xs:=xs) (nx:=nx) (by assumption:ph=1) (by assumption);have z:=q.2.2.2.2.2;rw[g1];exact iI q.1.symm q.2.1.symm q.2.2.1.symm q.2.2.2.1.symm rfl z.symm q.2.2.2.2.1.symm)
      |(have q:=FT (cs:=cs) (us:=us) (es:=es) (c:=c) (rs:=rs) (kp:=kp) (mv:=mv) (xs:=xs) (nx:=nx) (by assumption:ph=2);have z:=J7 (es:=es) (c:=c) (rs:=rs) (kp:=kp) (mv:=mv) (xs:=xs) (nx:=nx) (by assumption:ph=2) (by assumption);rw[g1];exact iI q.1.symm q.2.1.symm q.2.2.1.symm q.2.2.2.1.symm rfl z.symm q.2.2.2.2.symm)
      |(have q:=FT (cs:=cs) (us:=us) (es:=es) (c:=c) (rs:=rs) (kp:=kp) (mv:=mv) (xs:=xs) (nx:=nx) (by assumption:ph=2);have z:=J6 (es:=es) (c:=c) (rs:=rs) (kp:=kp) (mv:=mv) (xs:=xs) (nx:=nx) (by assumption:ph=2) (by assumption);rw[g1];exact iI q.1.symm q.2.1.symm q.2.2.1.symm q.2.2.2.1.symm rfl z.symm q.2.2.2.2.symm)
      |(have q:=xQ (cs:=cs) (us:=us) (es:=es) (c:=c) (rs:=rs) (kp:=kp) (mv:=mv) (xs:=xs) (nx:=nx) (by assumption:ph=3) (by omega);have z:=q.2.2.2.2.2;rw[g1];exact iI q.1.symm q.2.1.symm q.2.2.1.symm q.2.2.2.1.symm rfl z.symm q.2.2.2.2.1.symm)
      |(have q:=lV (cs:=cs) (us:=us) (es:=es) (c:=c) (rs:=rs) (kp:=kp) (mv:=mv) (xs:=xs) (nx:=nx) (by assumption:ph=3) (by omega);have z:=FU (es:=es) (c:=c) (rs:=rs) (kp:=kp) (mv:=mv) (xs:=xs) (nx:=nx) (by assumption:ph=3) (by omega) (by assumption);rw[g1];exact iI q.1.symm q.2.1.symm q.2.2.1.symm q.2.2.2.1.symm rfl z.symm q.2.2.2.2.symm)
      |(have q:=lV (cs:=cs) (us:=us) (es:=es) (c:=c) (rs:=rs) (kp:=kp) (mv:=mv) (xs:=xs) (nx:=nx) (by assumption:ph=3) (by omega);have z:=AH (es:=es) (c:=c) (rs:=rs) (kp:=kp) (mv:=mv) (xs:=xs) (nx:=nx) (by assumption:ph=3) (by assumption);rw[g1];exact iI q.1.symm q.2.1.symm q.2.2.1.symm q.2.2.2.1.symm rfl z.symm q.2.2.2.2.symm)
      |(have q:=Ma (cs:=cs) (us:=us) (es:=es) (c:=c) (rs:=rs) (kp:=kp) (mv:=mv) (xs:=xs) (nx:=nx) (by assumption:ph≠0) (by assumption:ph≠1) (by assumption:ph≠2) (by assumption:ph≠3);have z:=q.2.2.2.2.2;rw[g1];exact iI q.1.symm q.2.1.symm q.2.2.1.symm q.2.2.2.1.symm rfl z.symm q.2.2.2.2.1.symm)
      |(have q:=AG (cs:=cs) (us:=us) (es:=es) (c:=c) (rs:=rs) (kp:=kp) (mv:=mv) (xs:=xs) (nx:=nx) (by assumption:ph=1) (by assumption);have z:=q.2.2.2.2.2;rw[g1];exact iI q.1.symm q.2.1.symm q.2.2.1.symm q.2.2.2.1.symm rfl ((by assumption:ph=1).trans z.symm) q.2.2.2.2.1.symm)
      |(have q:=xQ (cs:=cs) (us:=us) (es:=es) (c:=c) (rs:=rs) (kp:=kp) (mv:=mv) (xs:=xs) (nx:=nx) (by assumption:ph=3) (by omega);have z:=q.2.2.2.2.2;rw[g1];exact iI q.1.symm q.2.1.symm q.2.2.1.symm q.2.2.2.1.symm rfl ((by assumption:ph=3).trans z.symm) q.2.2.2.2.1.symm)
      |(have q:=lV (cs:=cs) (us:=us) (es:=es) (c:=c) (rs:=rs) (kp:=kp) (mv:=mv) (xs:=xs) (nx:=nx) (by assumption:ph=3) (by omega);have z:=AH (es:=es) (c:=c) (rs:=rs) (kp:=kp) (mv:=mv) (xs:=xs) (nx:=nx) (by assumption:ph=3) (by assumption);rw[g1];exact iI q.1.symm q.2.1.symm q.2.2.1.symm q.2.2.2.1.symm rfl ((by assumption:ph=3).trans z.symm) q.2.2.2.2.symm)
      |done)
  |omega
  |exact⟨wc,wu,we,wr,k1,k2,k3,k4⟩
  |exact⟨wc,wu,we,wr⟩
  |exact⟨wc,wu,we,wr,k1,k2,k3,k4,KS wx n0 (by omega),rfl⟩
  |exact⟨wc,wu,we,k1,k2,k3,by omega⟩
  |exact⟨wx,lx⟩
  |exact we
  |exact yN wx (by omega) (by omega)
  |exact⟨by omega,by omega,Rw.eta wx (by omega) (by omega)⟩
  |(show aV _ _=true;kernel_rfl)
  |exact⟨VT,VT⟩
  |exact VT
  |done
namespace Zi2
structure aQ where
 ccB:aa->aa->aa->Int->aa->Bool
 jbOk:Int->Int->aa->Int->Int->Bool
 peM:aa->Int->Int
 peF:aa->Int->Int
abbrev F0 :aQ:=⟨ccB,jbOk,peM,peF⟩
def ct (F:aQ):CT:=fun f ds=>match f,ds with
 |102,[.agg [.s 1 cs,.s 1 us,.s 2 es,.v (.int .i64 c),.s 1 rs]]=>some (fun _=>Rw [.sl [tI]] cs/\Rw [tB] us/\Rw [tI,tI] es/\Rw [tI] rs,[.k (F.ccB cs us es c rs)])
 |145,[.agg [.v (.int .i64 k),.v (.int .i64 m),.s 1 cs,.v (.int .i64 ph),.v (.int .i64 nx)]]=>some (fun _=>Rw [tI] cs/\cs.length<=1099511627776,[.k (F.jbOk k m cs ph nx)])
 |328,[.ptr [.s 1 cs,.s 1 us,.s 2 es,.v (.int .i64 c),.s 1 rs],.one (.v (.int .i64 p))]=>some (fun _=>Rw [tI,tI] es,[.j (F.peM es p)])
 |234,[.agg [.s 2 es],.one (.v (.int .i64 p))]=>some (fun _=>Rw [tI,tI] es,[.agg [.i (F.peM es p),.i (F.peF es p)]])
 |_,_=>none
theorem aj :aR (ct F0):=by
 intro f ds pre res h hp;unfold ct at h;split at h<;>cases h
 exact lU hp;exact nC hp;exact gy hp;exact dY hp
abbrev B :cy:=tb aj
end Zi2
theorem wV {cs us es:aa}{c:Int}{rs:aa}{kp mv:Int}{xs:aa}{ph nx:Int}(hp:Rw [.sl [tI]] cs/\Rw [tB] us/\Rw [tI,tI] es/\Rw [tI] rs/\Rw [tI] xs/\xs.length<=1099511627776):aw 223 [.agg [.s 1 cs,.s 1 us,.s 2 es,.i c,.s 1 rs],.agg [.i kp,.i mv,.s 1 xs,.i ph,.i nx]] [.k (jmB (ccB cs us es c rs) es kp mv xs ph nx)]:=by
 obtain⟨wc,wu,we,wr,wx,lx⟩:=hp;refine cb Zi2.B Tryz.func223 ?_
 intro O r F hO hr hF;cbv
 repeat' first|apply AT|(apply bi<;>intro hb<;>cbv)
 all_goals(subst hO hr hF;(try simp only[nc]at*);(try simp only[ah,SS,sa,az]at*);(try have c1:ccB cs us es c rs=true:=(by assumption));(try have j1:jbOk kp mv xs ph nx=true:=(by assumption)))
 all_goals first
  | (show(_:List DV)=_
     first
      |exact ai (O3 (by assumption)).symm
      |exact ai (O4 (by assumption)).symm
      |exact ai (O5 (PM (by assumption))).symm
      |exact ai (O6 (PM (by assumption))).symm
      |exact ai (SN c1 j1 (PN (by assumption)) (PN (by assumption)))
      |done)
  |omega
  |exact⟨wc,wu,we,wr⟩
  |exact⟨wx,lx⟩
  |exact we
  |(show aV _ _=true;kernel_rfl)
  |exact⟨VT,VT⟩
  |exact VT
  |done
namespace Zi3
structure aQ where
 stC:aa->aa->aa->Int->Int->aa
 stK:aa->aa->aa->Int->Int->Int
 kpB:aa->Int->aa->Int->Int->Bool
 kpE:aa->Int->aa->Int->Int->aa
 c1N:Int->Int
abbrev F0 :aQ:=⟨stC,stK,kpB,kpE,c1N⟩
def ct (F:aQ):CT:=fun f ds=>match f,ds with
 |399,[.agg [.s 1 cs,.s 1 us,.s 2 es],.one (.v (.int .i64 a)),.one (.v (.int .i64 v))]=>some (fun _=>Rw [.sl [tI]] cs/\Rw [tB] us/\Rw [tI,tI] es/\ag cs<=1099511627776/\ag us<=1099511627776/\ag es<=1099511627776/\(-9223372036854775808<=a/\a<=9223372036854775807),[.agg [.s 1 (F.stC cs us es a v),.s 1 us,.s 2 es],.j (F.stK cs us es a v)])
 |_,_=>none
theorem aj :aR (ct F0):=by
 intro f ds pre res h hp;unfold ct at h;split at h<;>cases h
 exact yz hp
def pt (F:aQ):PT:=fun f=>match f with
 | 329=>some fun ds=>match ds with
   |[.mp [.own (.s 1 cs),.own (.s 1 us),.own (.s 2 es),.own (.v (.int .i64 c)),.own (.s 1 rs)],.one (.v (.int .i64 p)),.one (.v (.int .i64 m))]=>some (fun _=>Rw [.sl [tI]] cs/\Rw [tB] us/\Rw [tI,tI] es/\Rw [tI] rs/\ir cs us es/\0<=c/\c<=100000,[[.own (.s 1 cs),.own (.s 1 us),.own (.s 2 (F.kpE es c rs p m)),.own (.i (F.c1N c)),.own (.s 1 rs)]],[.k (F.kpB es c rs p m)])
   |_=>none
 |_=>none
theorem iO :sR (pt F0):=by
 intro f mk h ds pre outs res hm hp;unfold pt at h;split at h
 ·cases h;dsimp only at hm;split at hm
  ·cases hm;exact gV hp
  ·cases hm
 ·cases h
abbrev B :cy:={Φ:=aQ,F0:=F0,ct:=ct,hc:=aj,pt:=pt,hp:=iO}
end Zi3
theorem ua {cs us es:aa}{c:Int}{rs:aa}{kp mv:Int}{xs:aa}{ph nx:Int}(hp:Rw [.sl [tI]] cs/\Rw [tB] us/\Rw [tI,tI] es/\Rw [tI] rs/\ir cs us es/\0<=c/\c<=100000/\Rw [tI] xs/\NC kp mv xs ph nx/\mapB es kp=true/\mapB es mv=true/\ph=3):j7 332 [.mp [.own (.s 1 cs),.own (.s 1 us),.own (.s 2 es),.own (.i c),.own (.s 1 rs)],.mp [.own (.i kp),.own (.i mv),.own (.s 1 xs),.own (.i ph),.own (.i nx)]] [[.own (.s 1 (jsC cs us es c rs kp mv xs ph nx)),.own (.s 1 (jsU us es c rs kp mv ph)),.own (.s 2 (jsE es c rs kp mv ph nx)),.own (.i (jsN c ph nx)),.own (.s 1 rs)],[.own (.i kp),.own (.i mv),.own (.s 1 xs),.own (.i (jsP es c rs kp mv xs ph nx)),.own (.i (jsX xs ph nx))]] []:=by
 obtain⟨wc,wu,we,wr,hm,hc0,hc1,wx,J,m1,m2,rfl⟩:=hp;have n0:=J.n0;have n1:=J.n1;have kk0:=J.k0;have kk1:=J.k1;have cc:=Dr hm wc wu we;have lx:=wx.1;simp only[maxLen]at lx;refine pb Zi3.B Tryz.func332 ?_
 intro O r os F hO hr hos hF;cbv
 repeat' first|apply AT|(apply bi<;>intro hb<;>cbv)
 all_goals((try subst hos);subst hO hr hF;(try simp only[nc]at*);(try simp only[ah,SS,sa,az]at*);(try have xm:bJ .sub .i64 nx 1=nx-1:=cO (by omega));(try simp only[xm]at*);(try simp only[jx (l:=xs) (show 0<=nx-1 by omega)]at*);(try have xi:=J.x (nx-1) (by omega) (by omega));(try have xk:bJ .mul .i64 kp 16=kp*16:=(by first|exact mul64 (by omega)|exact Ce (by omega)));(try simp only[xk]at*);(try have xa:bJ .add .i64 (kp*16) (af xs (nx-1) 0)=kp*16+af xs (nx-1) 0:=bB (by omega));(try simp only[xa]at*))
 all_goals first
  | (show(_:List DV)=_
     first
      |exact rfl
      |done)
  | (show(_:List H)=_
     first
      |(have q:=xQ (cs:=cs) (us:=us) (es:=es) (c:=c) (rs:=rs) (kp:=kp) (mv:=mv) (xs:=xs) (ph:=3) (nx:=nx) rfl (by omega);simp only[q.1,q.2.1,q.2.2.1,q.2.2.2.1,q.2.2.2.2.1,q.2.2.2.2.2];exact rfl)
      |(have q:=lV (cs:=cs) (us:=us) (es:=es) (c:=c) (rs:=rs) (kp:=kp) (mv:=mv) (xs:=xs) (ph:=3) (nx:=nx) rfl (by omega);simp only[q.1,q.2.1,q.2.2.1,q.2.2.2.1,q.2.2.2.2];exact rfl)
      |(have q:=lV (cs:=cs) (us:=us) (es:=es) (c:=c) (rs:=rs) (kp:=kp) (mv:=mv) (xs:=xs) (ph:=3) (nx:=nx) rfl (by omega);have z:=FU (es:=es) (c:=c) (rs:=rs) (kp:=kp) (mv:=mv) (xs:=xs) (ph:=3) (nx:=nx) rfl (by omega) (by assumption);simp only[q.1,q.2.1,q.2.2.1,q.2.2.2.1,q.2.2.2.2,z];exact rfl)
      |(have q:=lV (cs:=cs) (us:=us) (es:=es) (c:=c) (rs:=rs) (kp:=kp) (mv:=mv) (xs:=xs) (ph:=3) (nx:=nx) rfl (by omega);have z:=AH (es:=es) (c:=c) (rs:=rs) (kp:=kp) (mv:=mv) (xs:=xs) (ph:=3) (nx:=nx) rfl (by assumption);simp only[q.1,q.2.1,q.2.2.1,q.2.2.2.1,q.2.2.2.2,z];exact rfl)
      |done)
  |omega
  |exact⟨wc,wu,we,wr,hm,hc0,hc1⟩
  |exact⟨wc,wu,we,by omega,by omega,by omega,by omega⟩
  |exact yN wx (by omega) (by omega)
  |(show aV _ _=true;kernel_rfl)
  |exact⟨VT,VT⟩
  |exact VT
  |done
namespace Zi4
structure aQ where
 kpB:aa->Int->aa->Int->Int->Bool
 kpE:aa->Int->aa->Int->Int->aa
 c1N:Int->Int
 kcB:aa->Int->Int->aa->Bool
 kcC:aa->aa->Int->Int->aa->aa
 koB:aa->Int->aa->Int->Int->Bool
 koC:aa->aa->Int->aa->Int->Int->aa
 koU:aa->aa->Int->aa->Int->Int->aa
 koE:aa->Int->aa->Int->Int->aa
 jsC:aa->aa->aa->Int->aa->Int->Int->aa->Int->Int->aa
 jsU:aa->aa->Int->aa->Int->Int->Int->aa
 jsE:aa->Int->aa->Int->Int->Int->Int->aa
 jsN:Int->Int->Int->Int
 jsP:aa->Int->aa->Int->Int->aa->Int->Int->Int
 jsX:aa->Int->Int->Int
abbrev F0 :aQ:=⟨kpB,kpE,c1N,kcB,kcC,koB,koC,koU,koE,jsC,jsU,jsE,jsN,jsP,jsX⟩
def pt (F:aQ):PT:=fun f=>match f with
 | 329=>some fun ds=>match ds with
   |[.mp [.own (.s 1 cs),.own (.s 1 us),.own (.s 2 es),.own (.v (.int .i64 c)),.own (.s 1 rs)],.one (.v (.int .i64 p)),.one (.v (.int .i64 m))]=>some (fun _=>Rw [.sl [tI]] cs/\Rw [tB] us/\Rw [tI,tI] es/\Rw [tI] rs/\ir cs us es/\0<=c/\c<=100000,[[.own (.s 1 cs),.own (.s 1 us),.own (.s 2 (F.kpE es c rs p m)),.own (.i (F.c1N c)),.own (.s 1 rs)]],[.k (F.kpB es c rs p m)])
   |_=>none
 | 330=>some fun ds=>match ds with
   |[.mp [.own (.s 1 cs),.own (.s 1 us),.own (.s 2 es),.own (.v (.int .i64 c)),.own (.s 1 rs)],.one (.v (.int .i64 p)),.one (.v (.int .i64 q)),.one (.s 1 xs)]=>some (fun _=>Rw [.sl [tI]] cs/\Rw [tB] us/\Rw [tI,tI] es/\Rw [tI] rs/\ir cs us es/\Rw [tI] xs/\xs.length=1,[[.own (.s 1 (F.kcC cs es p q xs)),.own (.s 1 us),.own (.s 2 es),.own (.i c),.own (.s 1 rs)]],[.k (F.kcB es p q xs)])
   |_=>none
 | 331=>some fun ds=>match ds with
   |[.mp [.own (.s 1 cs),.own (.s 1 us),.own (.s 2 es),.own (.v (.int .i64 c)),.own (.s 1 rs)],.one (.v (.int .i64 p)),.one (.v (.int .i64 q))]=>some (fun _=>Rw [.sl [tI]] cs/\Rw [tB] us/\Rw [tI,tI] es/\Rw [tI] rs/\ir cs us es/\0<=c/\c<=100000,[[.own (.s 1 (F.koC cs es c rs p q)),.own (.s 1 (F.koU us es c rs p q)),.own (.s 2 (F.koE es c rs p q)),.own (.i (F.c1N c)),.own (.s 1 rs)]],[.k (F.koB es c rs p q)])
   |_=>none
 | 332=>some fun ds=>match ds with
   |[.mp [.own (.s 1 cs),.own (.s 1 us),.own (.s 2 es),.own (.v (.int .i64 c)),.own (.s 1 rs)],.mp [.own (.v (.int .i64 kp)),.own (.v (.int .i64 mv)),.own (.s 1 xs),.own (.v (.int .i64 ph)),.own (.v (.int .i64 nx))]]=>some (fun _=>Rw [.sl [tI]] cs/\Rw [tB] us/\Rw [tI,tI] es/\Rw [tI] rs/\ir cs us es/\0<=c/\c<=100000/\Rw [tI] xs/\NC kp mv xs ph nx/\mapB es kp=true/\mapB es mv=true/\ph=3,[[.own (.s 1 (F.jsC cs us es c rs kp mv xs ph nx)),.own (.s 1 (F.jsU us es c rs kp mv ph)),.own (.s 2 (F.jsE es c rs kp mv ph nx)),.own (.i (F.jsN c ph nx)),.own (.s 1 rs)],[.own (.i kp),.own (.i mv),.own (.s 1 xs),.own (.i (F.jsP es c rs kp mv xs ph nx)),.own (.i (F.jsX xs ph nx))]],[])
   |_=>none
 |_=>none
theorem iO :sR (pt F0):=by
 intro f mk h ds pre outs res hm hp;unfold pt at h;split at h
 ·cases h;dsimp only at hm;split at hm
  ·cases hm;exact gV hp
  ·cases hm
 ·cases h;dsimp only at hm;split at hm
  ·cases hm;exact rX hp
  ·cases hm
 ·cases h;dsimp only at hm;split at hm
  ·cases hm;exact yA hp
  ·cases hm
 ·cases h;dsimp only at hm;split at hm
  ·cases hm;exact ua hp
  ·cases hm
 ·cases h
abbrev B :cy:={Φ:=aQ,F0:=F0,pt:=pt,hp:=iO}
end Zi4
theorem uf {cs us es:aa}{c:Int}{rs:aa}{kp mv:Int}{xs:aa}{ph nx:Int}(hp:Rw [.sl [tI]] cs/\Rw [tB] us/\Rw [tI,tI] es/\Rw [tI] rs/\ir cs us es/\0<=c/\c<=100000/\Rw [tI] xs/\NC kp mv xs ph nx/\mapB es kp=true/\mapB es mv=true):j7 224 [.mp [.own (.s 1 cs),.own (.s 1 us),.own (.s 2 es),.own (.i c),.own (.s 1 rs)],.mp [.own (.i kp),.own (.i mv),.own (.s 1 xs),.own (.i ph),.own (.i nx)]] [[.own (.s 1 (jsC cs us es c rs kp mv xs ph nx)),.own (.s 1 (jsU us es c rs kp mv ph)),.own (.s 2 (jsE es c rs kp mv ph nx)),.own (.i (jsN c ph nx)),.own (.s 1 rs)],[.own (.i kp),.own (.i mv),.own (.s 1 xs),.own (.i (jsP es c rs kp mv xs ph nx)),.own (.i (jsX xs ph nx))]] []:=by
 obtain⟨wc,wu,we,wr,hm,hc0,hc1,wx,J,m1,m2⟩:=hp;have n0:=J.n0;have n1:=J.n1;have kk0:=J.k0;have kk1:=J.k1;have lx:=wx.1;simp only[maxLen]at lx;refine IE Zi4.B Bc mixed 80 _ [] [] true Tryz.func224 rfl rfl rfl rfl rfl rfl rfl (fun _=>rfl) ?_;intro O r os F hO hr hos hF;cbv
 repeat' first|apply AT|(apply bi<;>intro hb<;>cbv)
 all_goals((try subst hos);subst hO hr hF;(try simp only[nc]at*);(try simp only[ah,SS,sa,az]at*);(try have xp:bJ .add .i64 nx 1=nx+1:=bB (by omega));(try simp only[xp]at*);(try simp only[jx (l:=xs) n0]at*);(try simp only[Uk]at*))
 all_goals first
  | (show(_:List DV)=_
     first
      |exact rfl
      |done)
  | (show(_:List H)=_
     first
      |exact rfl
      |(have q:=FQ (cs:=cs) (us:=us) (es:=es) (c:=c) (rs:=rs) (kp:=kp) (mv:=mv) (xs:=xs) (nx:=nx) (by assumption:ph=0);have z:=J5 (es:=es) (c:=c) (rs:=rs) (kp:=kp) (mv:=mv) (xs:=xs) (nx:=nx) (by assumption:ph=0) (by assumption);rw[q.1,q.2.1,q.2.2.1,q.2.2.2.1,z,q.2.2.2.2];exact rfl)
      |(have q:=FQ (cs:=cs) (us:=us) (es:=es) (c:=c) (rs:=rs) (kp:=kp) (mv:=mv) (xs:=xs) (nx:=nx) (by assumption:ph=0);have z:=J4 (es:=es) (c:=c) (rs:=rs) (kp:=kp) (mv:=mv) (xs:=xs) (nx:=nx) (by assumption:ph=0) (by assumption);rw[q.1,q.2.1,q.2.2.1,q.2.2.2.1,z,q.2.2.2.2];exact rfl)
      |(have q:=FR (cs:=cs) (us:=us) (es:=es) (c:=c) (rs:=rs) (kp:=kp) (mv:=mv) (xs:=xs) (nx:=nx) (by assumption:ph=1) (by assumption);have z:=q.2.2.2.2.2;rw[q.1,q.2.1,q.2.2.1,q.2.2.2.1,z,q.2.2.2.2.1];exact rfl)
      |(have q:=AG (cs:=cs) (us:=us) (es:=es) (c:=c) (rs:=rs) (kp:=kp) (mv:=mv) (xs:=xs) (nx:=nx) (by assumption:ph=1) (by assumption);have z:=q.2.2.2.2.2;rw[q.1,q.2.1,q.2.2.1,q.2.2.2.1,z,q.2.2.2.2.1];exact rfl)
      |(have q:=FT (cs:=cs) (us:=us) (es:=es) (c:=c) (rs:=rs) (kp:=kp) (mv:=mv) (xs:=xs) (nx:=nx) (by assumption:ph=2);have z:=J7 (es:=es) (c:=c) (rs:=rs) (kp:=kp) (mv:=mv) (xs:=xs) (nx:=nx) (by assumption:ph=2) (by assumption);rw[q.1,q.2.1,q.2.2.1,q.2.2.2.1,z,q.2.2.2.2];exact rfl)
      |(have q:=FT (cs:=cs) (us:=us) (es:=es) (c:=c) (rs:=rs) (kp:=kp) (mv:=mv) (xs:=xs) (nx:=nx) (by assumption:ph=2);have z:=J6 (es:=es) (c:=c) (rs:=rs) (kp:=kp) (mv:=mv) (xs:=xs) (nx:=nx) (by assumption:ph=2) (by assumption);rw[q.1,q.2.1,q.2.2.1,q.2.2.2.1,z,q.2.2.2.2];exact rfl)
      |(have q:=xQ (cs:=cs) (us:=us) (es:=es) (c:=c) (rs:=rs) (kp:=kp) (mv:=mv) (xs:=xs) (nx:=nx) (by assumption:ph=3) (by omega);have z:=q.2.2.2.2.2;rw[q.1,q.2.1,q.2.2.1,q.2.2.2.1,z,q.2.2.2.2.1];exact rfl)
      |(have q:=lV (cs:=cs) (us:=us) (es:=es) (c:=c) (rs:=rs) (kp:=kp) (mv:=mv) (xs:=xs) (nx:=nx) (by assumption:ph=3) (by omega);have z:=FU (es:=es) (c:=c) (rs:=rs) (kp:=kp) (mv:=mv) (xs:=xs) (nx:=nx) (by assumption:ph=3) (by omega) (by assumption);rw[q.1,q.2.1,q.2.2.1,q.2.2.2.1,z,q.2.2.2.2];exact rfl)
      |(have q:=lV (cs:=cs) (us:=us) (es:=es) (c:=c) (rs:=rs) (kp:=kp) (mv:=mv) (xs:=xs) (nx:=nx) (by assumption:ph=3) (by omega);have z:=AH (es:=es) (c:=c) (rs:=rs) (kp:=kp) (mv:=mv) (xs:=xs) (nx:=nx) (by assumption:ph=3) (by assumption);rw[q.1,q.2.1,q.2.2.1,q.2.2.2.1,z,q.2.2.2.2];exact rfl)
      |(have q:=Ma (cs:=cs) (us:=us) (es:=es) (c:=c) (rs:=rs) (kp:=kp) (mv:=mv) (xs:=xs) (nx:=nx) (by assumption:ph≠0) (by assumption:ph≠1) (by assumption:ph≠2) (by assumption:ph≠3);have z:=q.2.2.2.2.2;rw[q.1,q.2.1,q.2.2.1,q.2.2.2.1,z,q.2.2.2.2.1];exact rfl)
      |(have q:=AG (cs:=cs) (us:=us) (es:=es) (c:=c) (rs:=rs) (kp:=kp) (mv:=mv) (xs:=xs) (nx:=nx) (by assumption:ph=1) (by assumption);have z:=q.2.2.2.2.2;rw[q.1,q.2.1,q.2.2.1,q.2.2.2.1,z,q.2.2.2.2.1];rw[show ph=1 by assumption];exact rfl)
      |(have q:=xQ (cs:=cs) (us:=us) (es:=es) (c:=c) (rs:=rs) (kp:=kp) (mv:=mv) (xs:=xs) (nx:=nx) (by assumption:ph=3) (by omega);have z:=q.2.2.2.2.2;rw[q.1,q.2.1,q.2.2.1,q.2.2.2.1,z,q.2.2.2.2.1];rw[show ph=3 by assumption];exact rfl)
      |(have q:=lV (cs:=cs) (us:=us) (es:=es) (c:=c) (rs:=rs) (kp:=kp) (mv:=mv) (xs:=xs) (nx:=nx) (by assumption:ph=3) (by omega);have z:=AH (es:=es) (c:=c) (rs:=rs) (kp:=kp) (mv:=mv) (xs:=xs) (nx:=nx) (by assumption:ph=3) (by assumption);rw[q.1,q.2.1,q.2.2.1,q.2.2.2.1,z,q.2.2.2.2];rw[show ph=3 by assumption];exact rfl)
      |done)
  |omega
  |exact⟨wc,wu,we,wr,hm,hc0,hc1⟩
  |exact⟨wc,wu,we,wr,hm,KS wx n0 (by omega),rfl⟩
  |exact⟨wc,wu,we,wr,hm,hc0,hc1,wx,J,m1,m2,by assumption⟩
  |exact yN wx (by omega) (by omega)
  |(show aV _ _=true;kernel_rfl)
  |exact⟨VT,VT⟩
  |exact VT
  |done
namespace Zi5
structure aQ where
 ccB:aa->aa->aa->Int->aa->Bool
abbrev F0 :aQ:=⟨ccB⟩
def ct (F:aQ):CT:=fun f ds=>match f,ds with
 |102,[.agg [.s 1 cs,.s 1 us,.s 2 es,.v (.int .i64 c),.s 1 rs]]=>some (fun _=>Rw [.sl [tI]] cs/\Rw [tB] us/\Rw [tI,tI] es/\Rw [tI] rs,[.k (F.ccB cs us es c rs)])
 |_,_=>none
theorem aj :aR (ct F0):=by
 intro f ds pre res h hp;unfold ct at h;split at h<;>cases h
 exact lU hp
abbrev B :cy:=tb aj
end Zi5
theorem ue {kp mv:Int}{xs:aa}{ph nx:Int}(hp:True):aw 225 [.agg [.i kp,.i mv,.s 1 xs,.i ph,.i nx]] [.k (od ph)]:=by
 refine cb Zi5.B Tryz.func225 ?_
 intro O r F hO hr hF;cbv
 repeat' first|apply AT|(apply bi<;>intro hb<;>cbv)
 all_goals(subst hO hr hF;(try simp only[nc]at*);(try simp only[ah,SS,sa,az]at*))
 all_goals first
  | (show(_:List DV)=_
     first
      |exact ai (Tv (by assumption))
      |exact ai (Tw (by assumption))
      |done)
  |(show aV _ _=true;kernel_rfl)
  |exact VT
  |done
end Go.V