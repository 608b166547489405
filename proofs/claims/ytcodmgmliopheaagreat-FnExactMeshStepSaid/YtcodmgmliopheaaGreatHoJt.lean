/- Contracts. -/
import Derived.Test.YtcodmgmliopheaaGreatHoIt
set_option linter.all false
open Go
open And renaming intro->AT
open True renaming intro->VT
namespace Go.V
open Go Go.Proofs
set_option maxRecDepth 1000000
set_option maxHeartbeats 8000000
namespace Zj0
structure aQ where
 hpI:aa->aa->aa->Int->aa->aa->aa->aa->aa->aa->aa->aa->Int->aa->Int->Int->Int->Int->Bool->Int->Int->aa->Int->Int->Bool
 ifR:Bool->aa->aa->aa
 jmB:Bool->aa->Int->Int->aa->Int->Int->Bool
 ccB:aa->aa->aa->Int->aa->Bool
 jsC:aa->aa->aa->Int->aa->Int->Int->aa->Int->Int->aa
 jsU:aa->aa->Int->aa->Int->Int->Int->aa
 jsE:aa->Int->aa->Int->Int->Int->Int->aa
 ifN:Bool->Int->Int->Int
 jsN:Int->Int->Int->Int
 jsP:aa->Int->aa->Int->Int->aa->Int->Int->Int
 jsX:aa->Int->Int->Int
abbrev F0 :aQ:=⟨hpI,ifR,jmB,ccB,jsC,jsU,jsE,ifN,jsN,jsP,jsX⟩
def ct (F:aQ):CT:=fun f ds=>match f,ds with
 |53,[.agg [.s 1 a0,.s 1 a1,.s 2 a2,.v (.int .i64 a3),.s 1 a4,.s 2 a5,.s 3 a6,.s 3 a7,.s 4 a8,.s 1 a9,.s 1 aA,.s 1 aB,.v (.int .i64 aC),.s 3 aD,.v (.int .i64 aE),.v (.int .i64 aF),.v (.int .i64 aG),.v (.int .i64 aH),.v (.bool aI),.v (.int .i64 aJ),.v (.int .i64 aK),.s 1 aL,.v (.int .i64 aM),.v (.int .i64 aN)]]=>some (fun _=>yk a0 a1 a2 a4 a5 a6 a7 a8 a9 aA aB aD aL,[.agg (ji a0 a1 a2 a3 a4 a5 a6 a7 a8 a9 aA aB aC aD aE aF aG aH aI aJ aK aL aM aN)])
 |55,[.agg [.s 1 a0,.s 1 a1,.s 2 a2,.v (.int .i64 a3),.s 1 a4,.s 2 a5,.s 3 a6,.s 3 a7,.s 4 a8,.s 1 a9,.s 1 aA,.s 1 aB,.v (.int .i64 aC),.s 3 aD,.v (.int .i64 aE),.v (.int .i64 aF),.v (.int .i64 aG),.v (.int .i64 aH),.v (.bool aI),.v (.int .i64 aJ),.v (.int .i64 aK),.s 1 aL,.v (.int .i64 aM),.v (.int .i64 aN)]]=>some (fun _=>NY a0 a1 a2 a4 a5 a6 a7 a8 a9 aA aB aD aL,[.k (F.hpI a0 a1 a2 a3 a4 a5 a6 a7 a8 a9 aA aB aC aD aE aF aG aH aI aJ aK aL aM aN)])
 |226,[.agg [.s 1 cs,.s 1 us,.s 2 es,.v (.int .i64 c),.s 1 rs],.agg [.v (.int .i64 kp),.v (.int .i64 mv),.s 1 xs,.v (.int .i64 ph),.v (.int .i64 nx)]]=>some (fun _=>Rw [.sl [tI]] cs/\Rw [tB] us/\Rw [tI,tI] es/\Rw [tI] rs/\ag cs<=1099511627776/\ag us<=1099511627776/\ag es<=1099511627776/\ag rs<=1099511627776/\Rw [tI] xs/\xs.length<=1099511627776,[.agg [.s 1 (F.ifR (F.jmB (F.ccB cs us es c rs) es kp mv xs ph nx) (F.jsC cs us es c rs kp mv xs ph nx) cs),.s 1 (F.ifR (F.jmB (F.ccB cs us es c rs) es kp mv xs ph nx) (F.jsU us es c rs kp mv ph) us),.s 2 (F.ifR (F.jmB (F.ccB cs us es c rs) es kp mv xs ph nx) (F.jsE es c rs kp mv ph nx) es),.i (F.ifN (F.jmB (F.ccB cs us es c rs) es kp mv xs ph nx) (F.jsN c ph nx) c),.s 1 rs],.agg [.i kp,.i mv,.s 1 xs,.i (F.ifN (F.jmB (F.ccB cs us es c rs) es kp mv xs ph nx) (F.jsP es c rs kp mv xs ph nx) ph),.i (F.ifN (F.jmB (F.ccB cs us es c rs) es kp mv xs ph nx) (F.jsX xs ph nx) nx)]])
 |_,_=>none
theorem aj :aR (ct F0):=by
 intro f ds pre res h hp;unfold ct at h;split at h<;>cases h
 exact qQ hp;exact wi hp;exact s7 hp
abbrev B :cy:=tb aj
end Zj0
theorem qU {a0 a1 a2:aa}{a3:Int}{a4 a5 a6 a7 a8 a9 aA aB:aa}{aC:Int}{aD:aa}{aE aF aG aH:Int}{aI:Bool}{aJ aK:Int}{aL:aa}{aM aN:Int}(hp:yk a0 a1 a2 a4 a5 a6 a7 a8 a9 aA aB aD aL):aw 98 [.agg (ji a0 a1 a2 a3 a4 a5 a6 a7 a8 a9 aA aB aC aD aE aF aG aH aI aJ aK aL aM aN)] [.agg (ji (mcC (msB (hpI a0 a1 a2 a3 a4 a5 a6 a7 a8 a9 aA aB aC aD aE aF aG aH aI aJ aK aL aM aN) a3 aI) a0 a1 a2 a3 a4 aJ aK aL aM aN) (mcU (msB (hpI a0 a1 a2 a3 a4 a5 a6 a7 a8 a9 aA aB aC aD aE aF aG aH aI aJ aK aL aM aN) a3 aI) a0 a1 a2 a3 a4 aJ aK aL aM aN) (mcE (msB (hpI a0 a1 a2 a3 a4 a5 a6 a7 a8 a9 aA aB aC aD aE aF aG aH aI aJ aK aL aM aN) a3 aI) a0 a1 a2 a3 a4 aJ aK aL aM aN) (mcN (msB (hpI a0 a1 a2 a3 a4 a5 a6 a7 a8 a9 aA aB aC aD aE aF aG aH aI aJ aK aL aM aN) a3 aI) a0 a1 a2 a3 a4 aJ aK aL aM aN) a4 a5 a6 a7 a8 a9 aA aB aC aD aE aF aG aH (meB (moB (msB (hpI a0 a1 a2 a3 a4 a5 a6 a7 a8 a9 aA aB aC aD aE aF aG aH aI aJ aK aL aM aN) a3 aI) a0 a1 a2 a3 a4 aJ aK aL aM aN) aI) (ifN (moB (msB (hpI a0 a1 a2 a3 a4 a5 a6 a7 a8 a9 aA aB aC aD aE aF aG aH aI aJ aK aL aM aN) a3 aI) a0 a1 a2 a3 a4 aJ aK aL aM aN) 0 aJ) (ifN (moB (msB (hpI a0 a1 a2 a3 a4 a5 a6 a7 a8 a9 aA aB aC aD aE aF aG aH aI aJ aK aL aM aN) a3 aI) a0 a1 a2 a3 a4 aJ aK aL aM aN) 0 aK) (ifR (moB (msB (hpI a0 a1 a2 a3 a4 a5 a6 a7 a8 a9 aA aB aC aD aE aF aG aH aI aJ aK aL aM aN) a3 aI) a0 a1 a2 a3 a4 aJ aK aL aM aN) [] aL) (ifN (moB (msB (hpI a0 a1 a2 a3 a4 a5 a6 a7 a8 a9 aA aB aC aD aE aF aG aH aI aJ aK aL aM aN) a3 aI) a0 a1 a2 a3 a4 aJ aK aL aM aN) 0 (mphN (msB (hpI a0 a1 a2 a3 a4 a5 a6 a7 a8 a9 aA aB aC aD aE aF aG aH aI aJ aK aL aM aN) a3 aI) a0 a1 a2 a3 a4 aJ aK aL aM aN)) (ifN (moB (msB (hpI a0 a1 a2 a3 a4 a5 a6 a7 a8 a9 aA aB aC aD aE aF aG aH aI aJ aK aL aM aN) a3 aI) a0 a1 a2 a3 a4 aJ aK aL aM aN) 0 (mqhN (msB (hpI a0 a1 a2 a3 a4 a5 a6 a7 a8 a9 aA aB aC aD aE aF aG aH aI aJ aK aL aM aN) a3 aI) a0 a1 a2 a3 a4 aJ aK aL aM aN))),.j (mphN (msB (hpI a0 a1 a2 a3 a4 a5 a6 a7 a8 a9 aA aB aC aD aE aF aG aH aI aJ aK aL aM aN) a3 aI) a0 a1 a2 a3 a4 aJ aK aL aM aN),.k (msB (hpI a0 a1 a2 a3 a4 a5 a6 a7 a8 a9 aA aB aC aD aE aF aG aH aI aJ aK aL aM aN) a3 aI)]:=by
 have c0:=hp.c0;have c1:=hp.c1;have c2:=hp.c2;have c4:=hp.c4;have c21:=hp.c21;have l21:=aU (es:=aL);refine cb Zj0.B Tryz.func98 ?_
 intro O r F hO hr hF;cbv
 repeat' first|apply AT|(apply bi<;>intro hb<;>cbv)
 all_goals(subst hO hr hF;(try simp only[nc]at*);(try simp only[ah,SS,sa,az]at*);(try simp only[PG,PU]at*))
 all_goals first
  | (show(_:List DV)=_
     first
      |(have g0:msB (hpI a0 a1 a2 a3 a4 a5 a6 a7 a8 a9 aA aB aC aD aE aF aG aH aI aJ aK aL aM aN) a3 aI=false:=(by rw[show aI=false by assumption];exact Km);rw[g0];exact rfl)
      |(have g0:msB (hpI a0 a1 a2 a3 a4 a5 a6 a7 a8 a9 aA aB aC aD aE aF aG aH aI aJ aK aL aM aN) a3 aI=false:=Kn (by omega);rw[g0];exact rfl)
      |(have g0:msB (hpI a0 a1 a2 a3 a4 a5 a6 a7 a8 a9 aA aB aC aD aE aF aG aH aI aJ aK aL aM aN) a3 aI=false:=Ko (by assumption);rw[g0];exact rfl)
      |(have g1:msB (hpI a0 a1 a2 a3 a4 a5 a6 a7 a8 a9 aA aB aC aD aE aF aG aH aI aJ aK aL aM aN) a3 aI=true:=Dt (by assumption) (by omega) (by assumption);have o1:moB true a0 a1 a2 a3 a4 aJ aK aL aM aN=true:=Tp (by assumption);rw[g1,o1];exact rfl)
      |(have g1:msB (hpI a0 a1 a2 a3 a4 a5 a6 a7 a8 a9 aA aB aC aD aE aF aG aH aI aJ aK aL aM aN) a3 aI=true:=Dt (by assumption) (by omega) (by assumption);have o1:moB true a0 a1 a2 a3 a4 aJ aK aL aM aN=true:=Tq (by assumption);rw[g1,o1];exact rfl)
      |(have g1:msB (hpI a0 a1 a2 a3 a4 a5 a6 a7 a8 a9 aA aB aC aD aE aF aG aH aI aJ aK aL aM aN) a3 aI=true:=Dt (by assumption) (by omega) (by assumption);have o1:moB true a0 a1 a2 a3 a4 aJ aK aL aM aN=false:=Ts (by assumption) (by assumption);rw[g1,o1];exact rfl)
      |done)
  | (show(_:List H)=_
     first
      |done)
  |omega
  |exact fe
  |exact⟨hp.r0,hp.r1,hp.r2,hp.r4,by omega,by omega,by omega,by omega,hp.r21,by omega⟩
  |exact⟨hp.r0,hp.r1,hp.r2,hp.r4,hp.r21,by omega⟩
  |(have j:=FP (by assumption:zb a0 a1 a2 a3 a4 aJ aK aL aM aN=true);have k:=uZ (xx j.1).2;exact⟨hp.r0,hp.r1,hp.r2,hp.r4,k.1,by omega,by omega,hp.r21,RN j.2.1,j.2.2.1,j.2.2.2.1⟩)
  |exact hp
  |exact hp.hp
  |(show aV _ _=true;kernel_rfl)
  |exact⟨VT,VT⟩
  |exact VT
  |done
namespace Zj1
structure aQ where
 mcC:Bool->aa->aa->aa->Int->aa->Int->Int->aa->Int->Int->aa
 msB:Bool->Int->Bool->Bool
 hpI:aa->aa->aa->Int->aa->aa->aa->aa->aa->aa->aa->aa->Int->aa->Int->Int->Int->Int->Bool->Int->Int->aa->Int->Int->Bool
 mcU:Bool->aa->aa->aa->Int->aa->Int->Int->aa->Int->Int->aa
 mcE:Bool->aa->aa->aa->Int->aa->Int->Int->aa->Int->Int->aa
 mcN:Bool->aa->aa->aa->Int->aa->Int->Int->aa->Int->Int->Int
 meB:Bool->Bool->Bool
 moB:Bool->aa->aa->aa->Int->aa->Int->Int->aa->Int->Int->Bool
 ifN:Bool->Int->Int->Int
 ifR:Bool->aa->aa->aa
 mphN:Bool->aa->aa->aa->Int->aa->Int->Int->aa->Int->Int->Int
 mqhN:Bool->aa->aa->aa->Int->aa->Int->Int->aa->Int->Int->Int
abbrev F0 :aQ:=⟨mcC,msB,hpI,mcU,mcE,mcN,meB,moB,ifN,ifR,mphN,mqhN⟩
def ct (F:aQ):CT:=fun f ds=>match f,ds with
 |98,[.agg [.s 1 a0,.s 1 a1,.s 2 a2,.v (.int .i64 a3),.s 1 a4,.s 2 a5,.s 3 a6,.s 3 a7,.s 4 a8,.s 1 a9,.s 1 aA,.s 1 aB,.v (.int .i64 aC),.s 3 aD,.v (.int .i64 aE),.v (.int .i64 aF),.v (.int .i64 aG),.v (.int .i64 aH),.v (.bool aI),.v (.int .i64 aJ),.v (.int .i64 aK),.s 1 aL,.v (.int .i64 aM),.v (.int .i64 aN)]]=>some (fun _=>yk a0 a1 a2 a4 a5 a6 a7 a8 a9 aA aB aD aL,[.agg (ji (F.mcC (F.msB (F.hpI a0 a1 a2 a3 a4 a5 a6 a7 a8 a9 aA aB aC aD aE aF aG aH aI aJ aK aL aM aN) a3 aI) a0 a1 a2 a3 a4 aJ aK aL aM aN) (F.mcU (F.msB (F.hpI a0 a1 a2 a3 a4 a5 a6 a7 a8 a9 aA aB aC aD aE aF aG aH aI aJ aK aL aM aN) a3 aI) a0 a1 a2 a3 a4 aJ aK aL aM aN) (F.mcE (F.msB (F.hpI a0 a1 a2 a3 a4 a5 a6 a7 a8 a9 aA aB aC aD aE aF aG aH aI aJ aK aL aM aN) a3 aI) a0 a1 a2 a3 a4 aJ aK aL aM aN) (F.mcN (F.msB (F.hpI a0 a1 a2 a3 a4 a5 a6 a7 a8 a9 aA aB aC aD aE aF aG aH aI aJ aK aL aM aN) a3 aI) a0 a1 a2 a3 a4 aJ aK aL aM aN) a4 a5 a6 a7 a8 a9 aA aB aC aD aE aF aG aH (F.meB (F.moB (F.msB (F.hpI a0 a1 a2 a3 a4 a5 a6 a7 a8 a9 aA aB aC aD aE aF aG aH aI aJ aK aL aM aN) a3 aI) a0 a1 a2 a3 a4 aJ aK aL aM aN) aI) (F.ifN (F.moB (F.msB (F.hpI a0 a1 a2 a3 a4 a5 a6 a7 a8 a9 aA aB aC aD aE aF aG aH aI aJ aK aL aM aN) a3 aI) a0 a1 a2 a3 a4 aJ aK aL aM aN) 0 aJ) (F.ifN (F.moB (F.msB (F.hpI a0 a1 a2 a3 a4 a5 a6 a7 a8 a9 aA aB aC aD aE aF aG aH aI aJ aK aL aM aN) a3 aI) a0 a1 a2 a3 a4 aJ aK aL aM aN) 0 aK) (F.ifR (F.moB (F.msB (F.hpI a0 a1 a2 a3 a4 a5 a6 a7 a8 a9 aA aB aC aD aE aF aG aH aI aJ aK aL aM aN) a3 aI) a0 a1 a2 a3 a4 aJ aK aL aM aN) [] aL) (F.ifN (F.moB (F.msB (F.hpI a0 a1 a2 a3 a4 a5 a6 a7 a8 a9 aA aB aC aD aE aF aG aH aI aJ aK aL aM aN) a3 aI) a0 a1 a2 a3 a4 aJ aK aL aM aN) 0 (F.mphN (F.msB (F.hpI a0 a1 a2 a3 a4 a5 a6 a7 a8 a9 aA aB aC aD aE aF aG aH aI aJ aK aL aM aN) a3 aI) a0 a1 a2 a3 a4 aJ aK aL aM aN)) (F.ifN (F.moB (F.msB (F.hpI a0 a1 a2 a3 a4 a5 a6 a7 a8 a9 aA aB aC aD aE aF aG aH aI aJ aK aL aM aN) a3 aI) a0 a1 a2 a3 a4 aJ aK aL aM aN) 0 (F.mqhN (F.msB (F.hpI a0 a1 a2 a3 a4 a5 a6 a7 a8 a9 aA aB aC aD aE aF aG aH aI aJ aK aL aM aN) a3 aI) a0 a1 a2 a3 a4 aJ aK aL aM aN))),.j (F.mphN (F.msB (F.hpI a0 a1 a2 a3 a4 a5 a6 a7 a8 a9 aA aB aC aD aE aF aG aH aI aJ aK aL aM aN) a3 aI) a0 a1 a2 a3 a4 aJ aK aL aM aN),.k (F.msB (F.hpI a0 a1 a2 a3 a4 a5 a6 a7 a8 a9 aA aB aC aD aE aF aG aH aI aJ aK aL aM aN) a3 aI)])
 |_,_=>none
theorem aj :aR (ct F0):=by
 intro f ds pre res h hp;unfold ct at h;split at h<;>cases h
 exact qU hp
abbrev B :cy:=tb aj
end Zj1
theorem qJ {a0 a1 a2:aa}{a3:Int}{a4 a5 a6 a7 a8 a9 aA aB:aa}{aC:Int}{aD:aa}{aE aF aG aH:Int}{aI:Bool}{aJ aK:Int}{aL:aa}{aM aN:Int}(hp:yk a0 a1 a2 a4 a5 a6 a7 a8 a9 aA aB aD aL):aw 25 [.agg (ji a0 a1 a2 a3 a4 a5 a6 a7 a8 a9 aA aB aC aD aE aF aG aH aI aJ aK aL aM aN)] [.agg (ji (mcC (msB (hpI a0 a1 a2 a3 a4 a5 a6 a7 a8 a9 aA aB aC aD aE aF aG aH aI aJ aK aL aM aN) a3 aI) a0 a1 a2 a3 a4 aJ aK aL aM aN) (mcU (msB (hpI a0 a1 a2 a3 a4 a5 a6 a7 a8 a9 aA aB aC aD aE aF aG aH aI aJ aK aL aM aN) a3 aI) a0 a1 a2 a3 a4 aJ aK aL aM aN) (mcE (msB (hpI a0 a1 a2 a3 a4 a5 a6 a7 a8 a9 aA aB aC aD aE aF aG aH aI aJ aK aL aM aN) a3 aI) a0 a1 a2 a3 a4 aJ aK aL aM aN) (mcN (msB (hpI a0 a1 a2 a3 a4 a5 a6 a7 a8 a9 aA aB aC aD aE aF aG aH aI aJ aK aL aM aN) a3 aI) a0 a1 a2 a3 a4 aJ aK aL aM aN) a4 a5 a6 a7 a8 a9 aA aB aC aD aE aF aG aH (meB (moB (msB (hpI a0 a1 a2 a3 a4 a5 a6 a7 a8 a9 aA aB aC aD aE aF aG aH aI aJ aK aL aM aN) a3 aI) a0 a1 a2 a3 a4 aJ aK aL aM aN) aI) (ifN (moB (msB (hpI a0 a1 a2 a3 a4 a5 a6 a7 a8 a9 aA aB aC aD aE aF aG aH aI aJ aK aL aM aN) a3 aI) a0 a1 a2 a3 a4 aJ aK aL aM aN) 0 aJ) (ifN (moB (msB (hpI a0 a1 a2 a3 a4 a5 a6 a7 a8 a9 aA aB aC aD aE aF aG aH aI aJ aK aL aM aN) a3 aI) a0 a1 a2 a3 a4 aJ aK aL aM aN) 0 aK) (ifR (moB (msB (hpI a0 a1 a2 a3 a4 a5 a6 a7 a8 a9 aA aB aC aD aE aF aG aH aI aJ aK aL aM aN) a3 aI) a0 a1 a2 a3 a4 aJ aK aL aM aN) [] aL) (ifN (moB (msB (hpI a0 a1 a2 a3 a4 a5 a6 a7 a8 a9 aA aB aC aD aE aF aG aH aI aJ aK aL aM aN) a3 aI) a0 a1 a2 a3 a4 aJ aK aL aM aN) 0 (mphN (msB (hpI a0 a1 a2 a3 a4 a5 a6 a7 a8 a9 aA aB aC aD aE aF aG aH aI aJ aK aL aM aN) a3 aI) a0 a1 a2 a3 a4 aJ aK aL aM aN)) (ifN (moB (msB (hpI a0 a1 a2 a3 a4 a5 a6 a7 a8 a9 aA aB aC aD aE aF aG aH aI aJ aK aL aM aN) a3 aI) a0 a1 a2 a3 a4 aJ aK aL aM aN) 0 (mqhN (msB (hpI a0 a1 a2 a3 a4 a5 a6 a7 a8 a9 aA aB aC aD aE aF aG aH aI aJ aK aL aM aN) a3 aI) a0 a1 a2 a3 a4 aJ aK aL aM aN))),.k (msB (hpI a0 a1 a2 a3 a4 a5 a6 a7 a8 a9 aA aB aC aD aE aF aG aH aI aJ aK aL aM aN) a3 aI)]:=by
 refine cb Zj1.B Tryz.func25 ?_
 intro O r F hO hr hF;cbv
 repeat' first|apply AT|(apply bi<;>intro hb<;>cbv)
 all_goals(subst hO hr hF;(try simp only[nc]at*);(try simp only[ah,SS,sa,az]at*))
 all_goals first
  | (show(_:List DV)=_
     first
      |exact rfl
      |done)
  | (show(_:List H)=_
     first
      |done)
  |omega
  |exact fe
  |exact hp
  |exact hp.hp
  |(show aV _ _=true;kernel_rfl)
  |exact⟨VT,VT⟩
  |exact VT
  |done
namespace Zj2
structure aQ where
 jmB:Bool->aa->Int->Int->aa->Int->Int->Bool
 ccB:aa->aa->aa->Int->aa->Bool
 jsC:aa->aa->aa->Int->aa->Int->Int->aa->Int->Int->aa
 jsU:aa->aa->Int->aa->Int->Int->Int->aa
 jsE:aa->Int->aa->Int->Int->Int->Int->aa
 jsN:Int->Int->Int->Int
 jsP:aa->Int->aa->Int->Int->aa->Int->Int->Int
 jsX:aa->Int->Int->Int
 ovB:Int->Bool
abbrev F0 :aQ:=⟨jmB,ccB,jsC,jsU,jsE,jsN,jsP,jsX,od⟩
def ct (F:aQ):CT:=fun f ds=>match f,ds with
 |223,[.agg [.s 1 cs,.s 1 us,.s 2 es,.v (.int .i64 c),.s 1 rs],.agg [.v (.int .i64 kp),.v (.int .i64 mv),.s 1 xs,.v (.int .i64 ph),.v (.int .i64 nx)]]=>some (fun _=>Rw [.sl [tI]] cs/\Rw [tB] us/\Rw [tI,tI] es/\Rw [tI] rs/\Rw [tI] xs/\xs.length<=1099511627776,[.k (F.jmB (F.ccB cs us es c rs) es kp mv xs ph nx)])
 |225,[.agg [.v (.int .i64 kp),.v (.int .i64 mv),.s 1 xs,.v (.int .i64 ph),.v (.int .i64 nx)]]=>some (fun _=>True,[.k (F.ovB ph)])
 |_,_=>none
theorem aj :aR (ct F0):=by
 intro f ds pre res h hp;unfold ct at h;split at h<;>cases h
 exact wV hp;exact ue hp
def pt (F:aQ):PT:=fun f=>match f with
 | 224=>some fun ds=>match ds with
   |[.mp [.own (.s 1 cs),.own (.s 1 us),.own (.s 2 es),.own (.v (.int .i64 c)),.own (.s 1 rs)],.mp [.own (.v (.int .i64 kp)),.own (.v (.int .i64 mv)),.own (.s 1 xs),.own (.v (.int .i64 ph)),.own (.v (.int .i64 nx))]]=>some (fun _=>Rw [.sl [tI]] cs/\Rw [tB] us/\Rw [tI,tI] es/\Rw [tI] rs/\ir cs us es/\0<=c/\c<=100000/\Rw [tI] xs/\NC kp mv xs ph nx/\mapB es kp=true/\mapB es mv=true,[[.own (.s 1 (F.jsC cs us es c rs kp mv xs ph nx)),.own (.s 1 (F.jsU us es c rs kp mv ph)),.own (.s 2 (F.jsE es c rs kp mv ph nx)),.own (.i (F.jsN c ph nx)),.own (.s 1 rs)],[.own (.i kp),.own (.i mv),.own (.s 1 xs),.own (.i (F.jsP es c rs kp mv xs ph nx)),.own (.i (F.jsX xs ph nx))]],[])
   |_=>none
 |_=>none
theorem iO :sR (pt F0):=by
 intro f mk h ds pre outs res hm hp;unfold pt at h;split at h
 ·cases h;dsimp only at hm;split at hm
  ·cases hm;exact uf hp
  ·cases hm
 ·cases h
abbrev B :cy:={Φ:=aQ,F0:=F0,ct:=ct,hc:=aj,pt:=pt,hp:=iO}
end Zj2
theorem ut {a0 a1 a2:aa}{a3:Int}{a4 a5 a6 a7 a8 a9 aA aB:aa}{aC:Int}{aD:aa}{aE aF aG aH:Int}{aI:Bool}{aJ aK:Int}{aL:aa}{aM aN:Int}(hp:yk a0 a1 a2 a4 a5 a6 a7 a8 a9 aA aB aD aL/\hpI a0 a1 a2 a3 a4 a5 a6 a7 a8 a9 aA aB aC aD aE aF aG aH aI aJ aK aL aM aN=true/\a3<=99000/\aI=true):j7 97 [.mp (Sw a0 a1 a2 a3 a4 a5 a6 a7 a8 a9 aA aB aC aD aE aF aG aH aI aJ aK aL aM aN)] [(Sw (mcC true a0 a1 a2 a3 a4 aJ aK aL aM aN) (mcU true a0 a1 a2 a3 a4 aJ aK aL aM aN) (mcE true a0 a1 a2 a3 a4 aJ aK aL aM aN) (mcN true a0 a1 a2 a3 a4 aJ aK aL aM aN) a4 a5 a6 a7 a8 a9 aA aB aC aD aE aF aG aH (meB (moB true a0 a1 a2 a3 a4 aJ aK aL aM aN) aI) (ifN (moB true a0 a1 a2 a3 a4 aJ aK aL aM aN) 0 aJ) (ifN (moB true a0 a1 a2 a3 a4 aJ aK aL aM aN) 0 aK) (ifR (moB true a0 a1 a2 a3 a4 aJ aK aL aM aN) [] aL) (ifN (moB true a0 a1 a2 a3 a4 aJ aK aL aM aN) 0 (mphN true a0 a1 a2 a3 a4 aJ aK aL aM aN)) (ifN (moB true a0 a1 a2 a3 a4 aJ aK aL aM aN) 0 (mqhN true a0 a1 a2 a3 a4 aJ aK aL aM aN)))] [.k (mdB (mphN true a0 a1 a2 a3 a4 aJ aK aL aM aN))]:=by
 obtain⟨hp,hk,hc,hm⟩:=hp;subst hm;have c0:=hp.c0;have c1:=hp.c1;have c2:=hp.c2;have c4:=hp.c4;have c21:=hp.c21;have l21:=aU (es:=aL);refine pb Zj2.B Tryz.func97 ?_
 intro O r os F hO hr hos hF;cbv
 repeat' first|apply AT|(apply bi<;>intro hb<;>cbv)
 all_goals((try subst hos);subst hO hr hF;(try simp only[nc]at*);(try simp only[ah,SS,sa,az]at*);(try simp only[PG,PU]at*))
 all_goals first
  | (show(_:List DV)=_
     first
      |(have q:=Tj (by assumption:zb a0 a1 a2 a3 a4 aJ aK aL aM aN=true);rw[q.2.2.2.2.1];exact rfl)
      |(have q:=Ti (by assumption:zb a0 a1 a2 a3 a4 aJ aK aL aM aN=false);rw[q.2.2.2.2.1];exact rfl)
      |done)
  | (show(_:List H)=_
     first
      |(have q:=Tj (by assumption:zb a0 a1 a2 a3 a4 aJ aK aL aM aN=true);have o:=q.2.2.2.2.2.2;rw[show od (jsP a2 a3 a4 aJ aK aL aM aN)=true by assumption]at o;rw[q.1,q.2.1,q.2.2.1,q.2.2.2.1,q.2.2.2.2.1,q.2.2.2.2.2.1,o];exact rfl)
      |(have q:=Tj (by assumption:zb a0 a1 a2 a3 a4 aJ aK aL aM aN=true);have o:=q.2.2.2.2.2.2;rw[show od (jsP a2 a3 a4 aJ aK aL aM aN)=false by assumption]at o;rw[q.1,q.2.1,q.2.2.1,q.2.2.2.1,q.2.2.2.2.1,q.2.2.2.2.2.1,o];exact rfl)
      |(have q:=Ti (by assumption:zb a0 a1 a2 a3 a4 aJ aK aL aM aN=false);have o:=q.2.2.2.2.2.2;rw[show od (aM)=true by assumption]at o;rw[q.1,q.2.1,q.2.2.1,q.2.2.2.1,q.2.2.2.2.1,q.2.2.2.2.2.1,o];exact rfl)
      |(have q:=Ti (by assumption:zb a0 a1 a2 a3 a4 aJ aK aL aM aN=false);have o:=q.2.2.2.2.2.2;rw[show od (aM)=false by assumption]at o;rw[q.1,q.2.1,q.2.2.1,q.2.2.2.1,q.2.2.2.2.1,q.2.2.2.2.2.1,o];exact rfl)
      |done)
  |omega
  |exact fe
  |exact⟨hp.r0,hp.r1,hp.r2,hp.r4,by omega,by omega,by omega,by omega,hp.r21,by omega⟩
  |exact⟨hp.r0,hp.r1,hp.r2,hp.r4,hp.r21,by omega⟩
  |(have j:=FP (by assumption:zb a0 a1 a2 a3 a4 aJ aK aL aM aN=true);have k:=uZ (xx j.1).2;exact⟨hp.r0,hp.r1,hp.r2,hp.r4,k.1,by omega,by omega,hp.r21,RN j.2.1,j.2.2.1,j.2.2.2.1⟩)
  |exact hp
  |exact hp.hp
  |(show aV _ _=true;kernel_rfl)
  |exact⟨VT,VT⟩
  |exact VT
  |done
namespace Zj3
structure aQ where
 hpI:aa->aa->aa->Int->aa->aa->aa->aa->aa->aa->aa->aa->Int->aa->Int->Int->Int->Int->Bool->Int->Int->aa->Int->Int->Bool
 mdB:Int->Bool
 mphN:Bool->aa->aa->aa->Int->aa->Int->Int->aa->Int->Int->Int
 mcC:Bool->aa->aa->aa->Int->aa->Int->Int->aa->Int->Int->aa
 mcU:Bool->aa->aa->aa->Int->aa->Int->Int->aa->Int->Int->aa
 mcE:Bool->aa->aa->aa->Int->aa->Int->Int->aa->Int->Int->aa
 mcN:Bool->aa->aa->aa->Int->aa->Int->Int->aa->Int->Int->Int
 meB:Bool->Bool->Bool
 moB:Bool->aa->aa->aa->Int->aa->Int->Int->aa->Int->Int->Bool
 ifN:Bool->Int->Int->Int
 ifR:Bool->aa->aa->aa
 mqhN:Bool->aa->aa->aa->Int->aa->Int->Int->aa->Int->Int->Int
abbrev F0 :aQ:=⟨hpI,mdB,mphN,mcC,mcU,mcE,mcN,meB,moB,ifN,ifR,mqhN⟩
def ct (F:aQ):CT:=fun f ds=>match f,ds with
 |41,[.agg [.s 1 a0,.s 1 a1,.s 2 a2,.v (.int .i64 a3),.s 1 a4,.s 2 a5,.s 3 a6,.s 3 a7,.s 4 a8,.s 1 a9,.s 1 aA,.s 1 aB,.v (.int .i64 aC),.s 3 aD,.v (.int .i64 aE),.v (.int .i64 aF),.v (.int .i64 aG),.v (.int .i64 aH),.v (.bool aI),.v (.int .i64 aJ),.v (.int .i64 aK),.s 1 aL,.v (.int .i64 aM),.v (.int .i64 aN)]]=>some (fun _=>yk a0 a1 a2 a4 a5 a6 a7 a8 a9 aA aB aD aL,[.agg (ji a0 a1 a2 a3 a4 a5 a6 a7 a8 a9 aA aB aC aD aE aF aG aH aI aJ aK aL aM aN)])
 |42,[.agg [.s 1 a0,.s 1 a1,.s 2 a2,.v (.int .i64 a3),.s 1 a4,.s 2 a5,.s 3 a6,.s 3 a7,.s 4 a8,.s 1 a9,.s 1 aA,.s 1 aB,.v (.int .i64 aC),.s 3 aD,.v (.int .i64 aE),.v (.int .i64 aF),.v (.int .i64 aG),.v (.int .i64 aH),.v (.bool aI),.v (.int .i64 aJ),.v (.int .i64 aK),.s 1 aL,.v (.int .i64 aM),.v (.int .i64 aN)]]=>some (fun _=>NY a0 a1 a2 a4 a5 a6 a7 a8 a9 aA aB aD aL,[.k (F.hpI a0 a1 a2 a3 a4 a5 a6 a7 a8 a9 aA aB aC aD aE aF aG aH aI aJ aK aL aM aN)])
 |_,_=>none
theorem aj :aR (ct F0):=by
 intro f ds pre res h hp;unfold ct at h;split at h<;>cases h
 exact uj hp;exact wQ hp
def pt (F:aQ):PT:=fun f=>match f with
 | 97=>some fun ds=>match ds with
   |[.mp [.own (.s 1 a0),.own (.s 1 a1),.own (.s 2 a2),.own (.v (.int .i64 a3)),.own (.s 1 a4),.own (.s 2 a5),.own (.s 3 a6),.own (.s 3 a7),.own (.s 4 a8),.own (.s 1 a9),.own (.s 1 aA),.own (.s 1 aB),.own (.v (.int .i64 aC)),.own (.s 3 aD),.own (.v (.int .i64 aE)),.own (.v (.int .i64 aF)),.own (.v (.int .i64 aG)),.own (.v (.int .i64 aH)),.own (.v (.bool aI)),.own (.v (.int .i64 aJ)),.own (.v (.int .i64 aK)),.own (.s 1 aL),.own (.v (.int .i64 aM)),.own (.v (.int .i64 aN))]]=>some (fun _=>yk a0 a1 a2 a4 a5 a6 a7 a8 a9 aA aB aD aL/\hpI a0 a1 a2 a3 a4 a5 a6 a7 a8 a9 aA aB aC aD aE aF aG aH aI aJ aK aL aM aN=true/\a3<=99000/\aI=true,[(Sw (F.mcC true a0 a1 a2 a3 a4 aJ aK aL aM aN) (F.mcU true a0 a1 a2 a3 a4 aJ aK aL aM aN) (F.mcE true a0 a1 a2 a3 a4 aJ aK aL aM aN) (F.mcN true a0 a1 a2 a3 a4 aJ aK aL aM aN) a4 a5 a6 a7 a8 a9 aA aB aC aD aE aF aG aH (F.meB (F.moB true a0 a1 a2 a3 a4 aJ aK aL aM aN) aI) (F.ifN (F.moB true a0 a1 a2 a3 a4 aJ aK aL aM aN) 0 aJ) (F.ifN (F.moB true a0 a1 a2 a3 a4 aJ aK aL aM aN) 0 aK) (F.ifR (F.moB true a0 a1 a2 a3 a4 aJ aK aL aM aN) [] aL) (F.ifN (F.moB true a0 a1 a2 a3 a4 aJ aK aL aM aN) 0 (F.mphN true a0 a1 a2 a3 a4 aJ aK aL aM aN)) (F.ifN (F.moB true a0 a1 a2 a3 a4 aJ aK aL aM aN) 0 (F.mqhN true a0 a1 a2 a3 a4 aJ aK aL aM aN)))],[.k (F.mdB (F.mphN true a0 a1 a2 a3 a4 aJ aK aL aM aN))])
   |_=>none
 |_=>none
theorem iO :sR (pt F0):=by
 intro f mk h ds pre outs res hm hp;unfold pt at h;split at h
 ·cases h;dsimp only at hm;split at hm
  ·cases hm;exact ut hp
  ·cases hm
 ·cases h
abbrev B :cy:={Φ:=aQ,F0:=F0,ct:=ct,hc:=aj,pt:=pt,hp:=iO}
end Zj3
theorem rR {a0 a1 a2:aa}{a3:Int}{a4 a5 a6 a7 a8 a9 aA aB:aa}{aC:Int}{aD:aa}{aE aF aG aH:Int}{aI:Bool}{aJ aK:Int}{aL:aa}{aM aN:Int}(hp:yk a0 a1 a2 a4 a5 a6 a7 a8 a9 aA aB aD aL):aw 24 [.agg (ji a0 a1 a2 a3 a4 a5 a6 a7 a8 a9 aA aB aC aD aE aF aG aH aI aJ aK aL aM aN)] [.agg (ji (mcC (msB (hpI a0 a1 a2 a3 a4 a5 a6 a7 a8 a9 aA aB aC aD aE aF aG aH aI aJ aK aL aM aN) a3 aI) a0 a1 a2 a3 a4 aJ aK aL aM aN) (mcU (msB (hpI a0 a1 a2 a3 a4 a5 a6 a7 a8 a9 aA aB aC aD aE aF aG aH aI aJ aK aL aM aN) a3 aI) a0 a1 a2 a3 a4 aJ aK aL aM aN) (mcE (msB (hpI a0 a1 a2 a3 a4 a5 a6 a7 a8 a9 aA aB aC aD aE aF aG aH aI aJ aK aL aM aN) a3 aI) a0 a1 a2 a3 a4 aJ aK aL aM aN) (mcN (msB (hpI a0 a1 a2 a3 a4 a5 a6 a7 a8 a9 aA aB aC aD aE aF aG aH aI aJ aK aL aM aN) a3 aI) a0 a1 a2 a3 a4 aJ aK aL aM aN) a4 a5 a6 a7 a8 a9 aA aB aC aD aE aF aG aH (meB (moB (msB (hpI a0 a1 a2 a3 a4 a5 a6 a7 a8 a9 aA aB aC aD aE aF aG aH aI aJ aK aL aM aN) a3 aI) a0 a1 a2 a3 a4 aJ aK aL aM aN) aI) (ifN (moB (msB (hpI a0 a1 a2 a3 a4 a5 a6 a7 a8 a9 aA aB aC aD aE aF aG aH aI aJ aK aL aM aN) a3 aI) a0 a1 a2 a3 a4 aJ aK aL aM aN) 0 aJ) (ifN (moB (msB (hpI a0 a1 a2 a3 a4 a5 a6 a7 a8 a9 aA aB aC aD aE aF aG aH aI aJ aK aL aM aN) a3 aI) a0 a1 a2 a3 a4 aJ aK aL aM aN) 0 aK) (ifR (moB (msB (hpI a0 a1 a2 a3 a4 a5 a6 a7 a8 a9 aA aB aC aD aE aF aG aH aI aJ aK aL aM aN) a3 aI) a0 a1 a2 a3 a4 aJ aK aL aM aN) [] aL) (ifN (moB (msB (hpI a0 a1 a2 a3 a4 a5 a6 a7 a8 a9 aA aB aC aD aE aF aG aH aI aJ aK aL aM aN) a3 aI) a0 a1 a2 a3 a4 aJ aK aL aM aN) 0 (mphN (msB (hpI a0 a1 a2 a3 a4 a5 a6 a7 a8 a9 aA aB aC aD aE aF aG aH aI aJ aK aL aM aN) a3 aI) a0 a1 a2 a3 a4 aJ aK aL aM aN)) (ifN (moB (msB (hpI a0 a1 a2 a3 a4 a5 a6 a7 a8 a9 aA aB aC aD aE aF aG aH aI aJ aK aL aM aN) a3 aI) a0 a1 a2 a3 a4 aJ aK aL aM aN) 0 (mqhN (msB (hpI a0 a1 a2 a3 a4 a5 a6 a7 a8 a9 aA aB aC aD aE aF aG aH aI aJ aK aL aM aN) a3 aI) a0 a1 a2 a3 a4 aJ aK aL aM aN))),.k (msB (hpI a0 a1 a2 a3 a4 a5 a6 a7 a8 a9 aA aB aC aD aE aF aG aH aI aJ aK aL aM aN) a3 aI)]:=by
 refine cb Zj3.B Tryz.func24 ?_
 intro O r F hO hr hF;cbv
 repeat' first|apply AT|(apply bi<;>intro hb<;>cbv)
 all_goals(subst hO hr hF;(try simp only[nc]at*);(try simp only[ah,SS,sa,az]at*))
 all_goals first
  | (show(_:List DV)=_
     first
      |(have g0:msB (hpI a0 a1 a2 a3 a4 a5 a6 a7 a8 a9 aA aB aC aD aE aF aG aH aI aJ aK aL aM aN) a3 aI=false:=(by rw[show aI=false by assumption];exact Km);rw[g0];exact rfl)
      |(have g0:msB (hpI a0 a1 a2 a3 a4 a5 a6 a7 a8 a9 aA aB aC aD aE aF aG aH aI aJ aK aL aM aN) a3 aI=false:=Kn (by omega);rw[g0];exact rfl)
      |(have g0:msB (hpI a0 a1 a2 a3 a4 a5 a6 a7 a8 a9 aA aB aC aD aE aF aG aH aI aJ aK aL aM aN) a3 aI=false:=Ko (by assumption);rw[g0];exact rfl)
      |(have g1:msB (hpI a0 a1 a2 a3 a4 a5 a6 a7 a8 a9 aA aB aC aD aE aF aG aH aI aJ aK aL aM aN) a3 aI=true:=Dt (by assumption) (by omega) (by assumption);rw[g1];exact rfl)
      |done)
  | (show(_:List H)=_
     first
      |done)
  |omega
  |exact fe
  |exact⟨hp,by assumption,by omega,by assumption⟩
  |exact Kl hp
  |exact hp
  |exact hp.hp
  |(show aV _ _=true;kernel_rfl)
  |exact⟨VT,VT⟩
  |exact VT
  |done
end Go.V