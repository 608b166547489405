/- Contracts. -/
import Derived.Test.YtllcfbgmhgodhaaGreatHoAr
import Derived.Test.YtllcfbgmhgodhaaGreatOfBr
set_option linter.all false
namespace Go.V
open Go Go.Proofs
set_option maxRecDepth 1000000
set_option maxHeartbeats 8000000
namespace Jb4
structure aQ where
 smM:aa->aa->aa->Int->Int
 smF:aa->aa->aa->Int->Int
 inR:Int->Int->Int->Bool
abbrev F0 :aQ:=⟨smM,smF,inR⟩
def ct (F:aQ):CT:=fun f ds=>match f,ds with
 |190,[.agg [.s 1 cs,.s 1 us,.s 2 es]]=>some (fun _=>Rw [.sl [tI]] cs/\Rw [tB] us/\Rw [tI,tI] es/\ah cs<=1099511627776/\ah us<=1099511627776/\ah es<=1099511627776,[.agg [.s 1 cs,.s 1 us,.s 2 es]])
 |191,[.agg [.s 1 cs,.s 1 us,.s 2 es],.one (.v (.int .i64 a))]=>some (fun _=>Rw [.sl [tI]] cs/\Rw [tB] us/\Rw [tI,tI] es/\(-9223372036854775808<=a/\a<=9223372036854775807),[.agg [.i (F.smM cs us es a),.i (F.smF cs us es a)]])
 |105,[.one (.v (.int .i64 x)),.one (.v (.int .i64 a)),.one (.v (.int .i64 b))]=>some (fun _=>True,[.k (F.inR x a b)])
 |_,_=>none
theorem ai :aS (ct F0):=by
 intro f ds pre res h hp;unfold ct at h;split at h<;>cases h
 exact gI hp;exact tF hp;exact aZ hp
abbrev B :cy:=tb ai
end Jb4
theorem yp {cs us es:aa}{a v:Int}(hp:Rw [.sl [tI]] cs/\Rw [tB] us/\Rw [tI,tI] es/\ah cs<=1099511627776/\ah us<=1099511627776/\ah es<=1099511627776/\(-9223372036854775808<=a/\a<=9223372036854775807)):au 82 [.agg [.s 1 cs,.s 1 us,.s 2 es],.j a,.j v] [.agg [.s 1 (stC cs us es a v),.s 1 us,.s 2 es],.j (stK cs us es a v)]:=by
 obtain⟨hc,hu,he,hn,hm,hk,ha⟩:=hp;refine cb Jb4.B Tryz.func82 ?_
 intro O r F hO hr hF;cbv
 repeat' first|apply And.intro|(apply be<;>intro hb<;>cbv)
 all_goals(subst hO hr hF;(try simp only[nc]at*);(try simp only[aj,SS,sa,az]at*);(try simp only[vC]at*);(try(have hs:=Ej (cs:=cs) (us:=us) (es:=es) (a:=a) (by assumption);have ha0:=(Lv (cs:=cs) (us:=us) (es:=es) (a:=a) (by assumption)).2));(try simp only[qN (n:=16) ha0]at*))
 all_goals first|(show aW _ _=true;kernel_rfl)|exact⟨hc,hu,he,hn,hm,hk⟩|exact⟨hc,hu,he,ha⟩|exact El (JG (by assumption)).2.symm rfl rfl (JG (by assumption)).1.symm|exact El (JH (by assumption)).2.symm rfl rfl (JH (by assumption)).1.symm|exact El (JI (by assumption) (by assumption) (by assumption)).2.symm rfl rfl (JI (by assumption) (by assumption) (by assumption)).1.symm|exact El ((EY hc hs.1 hs.2.1 (by omega) (by omega)).trans (JF (by assumption) (by assumption) (by assumption)).2.symm) rfl rfl (JF (by assumption) (by assumption) (by assumption)).1.symm|exact Dh hc hs.1 hs.2.1 (by omega) (by omega)|exact sT hc hs.1 hs.2.1|exact⟨by omega,by omega,nV hc hs.1 hs.2.1⟩|exact⟨trivial,trivial⟩|trivial|omega|done
namespace Jb5
structure aQ where
 ofI:aa->Int->Int
 peM:aa->Int->Int
 peF:aa->Int->Int
 inR:Int->Int->Int->Bool
abbrev F0 :aQ:=⟨ofI,peM,peF,inR⟩
def ct (F:aQ):CT:=fun f ds=>match f,ds with
 |187,[.ptr [.s 1 a0,.s 1 a1,.s 2 a2,.v (.int .i64 a3),.s 1 a4,.s 2 a5,.s 3 a6,.s 3 a7,.s 4 a8,.s 1 a9,.s 1 aA,.s 1 aB,.v (.int .i64 aC),.s 3 aD,.v (.int .i64 aE),.v (.int .i64 aF),.v (.int .i64 aG),.v (.int .i64 aH),.v (.bool aI),.v (.int .i64 aJ),.v (.int .i64 aK),.s 1 aL,.v (.int .i64 aM),.v (.int .i64 aN)],.one (.v (.int .i64 ad))]=>some (fun _=>J9 a8,[.j (F.ofI a8 ad)])
 |188,[.agg [.s 2 es],.one (.v (.int .i64 p))]=>some (fun _=>Rw [tI,tI] es,[.agg [.i (F.peM es p),.i (F.peF es p)]])
 |103,[.one (.v (.int .i64 x)),.one (.v (.int .i64 a)),.one (.v (.int .i64 b))]=>some (fun _=>True,[.k (F.inR x a b)])
 |_,_=>none
theorem ai :aS (ct F0):=by
 intro f ds pre res h hp;unfold ct at h;split at h<;>cases h
 exact nH hp;exact dC hp;exact bg hp
abbrev B :cy:=tb ai
end Jb5
theorem sv {a0 a1 a2:aa}{a3:Int}{a4 a5 a6 a7 a8 a9 aA aB:aa}{aC:Int}{aD:aa}{aE aF aG aH:Int}{aI:Bool}{aJ aK:Int}{aL:aa}{aM aN a v:Int}(hp:gg a0 a1 a2 a4 a5 a6 a7 a8 a9 aA aB aD aL/\hpI a0 a1 a2 a3 a4 a5 a6 a7 a8 a9 aA aB aC aD aE aF aG aH aI aJ aK aL aM aN=true/\(-9223372036854775808<=a/\a<=9223372036854775807)):kn 80 [.mp (Bz a0 a1 a2 a3 a4 a5 a6 a7 a8 a9 aA aB aC aD aE aF aG aH aI aJ aK aL aM aN),.j a,.j v] [(Bz (hsC true a0 a1 a2 a8 a v) a1 a2 a3 a4 a5 a6 a7 a8 a9 aA aB aC aD aE aF aG aH aI aJ aK aL aM aN)] [.j (hsK true a0 a1 a2 a8 a v)]:=by
 obtain⟨hp,hk,hA⟩:=hp;have l8:=ay (es:=a8);have c8:=hp.c8;have ob:=G3 hp.r8 (by omega) hk;refine pb Jb5.B Tryz.func80 ?_
 intro O r os F hO hr hos hF;cbv
 repeat' first|apply And.intro|(apply be<;>intro hb<;>cbv)
 all_goals((try subst hos);subst hO hr hF;(try simp only[nc]at*);(try simp only[aj,SS,sa,az]at*);(try simp only[vC]at*);(try have g:0<=ofI a8 a:=(by omega));(try have T:=MQ hp.r8 (by omega) hk g);(try have t0:=T.a0);(try have e1:bF .quo .i64 a 16=a/16:=oz (by omega) (by omega) (by omega));(try have e2:bF .rem .i64 a 16=a%16:=qN (by omega));(try simp only[e1]at*);(try simp only[e2]at*);(try have nz:=T.n);(try have hs:=Ej nz);(try have tm:=T.m);(try have tf:=T.f);(try simp only[<-tm, <-tf]at*))
 all_goals first
  | (show(_:List DV)=_
     first
      |(have q:=Dj (k:=true) (cs:=a0) (us:=a1) (es:=a2) (os:=a8) (a:=a) (v:=v) (by show ofI a8 a<0;omega);first|(first|(rw[q.2];done)|(rw[q.2];exact rfl))|(rw[q.2];exact rfl))
      |(have q:=MS (k:=true) (cs:=a0) (us:=a1) (es:=a2) (os:=a8) (a:=a) (v:=v) g (JH (by assumption)).1;first|(first|(rw[q.2];done)|(rw[q.2];exact rfl))|(rw[q.2];exact rfl))
      |(have q:=MU (k:=true) (cs:=a0) (us:=a1) (es:=a2) (os:=a8) (a:=a) (v:=v) g (JI nz (by assumption) (by assumption)).1;first|(first|(rw[q.2];done)|(rw[q.2];exact rfl))|(rw[q.2];exact rfl))
      |(have z:=JF (cs:=a0) (us:=a1) (es:=a2) (a:=a) (v:=v) nz (by assumption) (by assumption);have z1:=z.1;have q:=MR (k:=true) (cs:=a0) (us:=a1) (es:=a2) (os:=a8) (a:=a) (v:=v) g (by omega) (by omega);first|(first|(rw[q.2];done)|(rw[q.2];exact rfl))|(rw[q.2];exact rfl))
      |done)
  | (show(_:List H)=_
     first
      |(have q:=Dj (k:=true) (cs:=a0) (us:=a1) (es:=a2) (os:=a8) (a:=a) (v:=v) (by show ofI a8 a<0;omega);first|(first|(rw[q.1];done)|(rw[q.1];exact rfl))|(rw[q.1];exact rfl))
      |(have q:=MS (k:=true) (cs:=a0) (us:=a1) (es:=a2) (os:=a8) (a:=a) (v:=v) g (JH (by assumption)).1;first|(first|(rw[q.1];done)|(rw[q.1];exact rfl))|(rw[q.1];exact rfl))
      |(have q:=MU (k:=true) (cs:=a0) (us:=a1) (es:=a2) (os:=a8) (a:=a) (v:=v) g (JI nz (by assumption) (by assumption)).1;first|(first|(rw[q.1];done)|(rw[q.1];exact rfl))|(rw[q.1];exact rfl))
      |(have z:=JF (cs:=a0) (us:=a1) (es:=a2) (a:=a) (v:=v) nz (by assumption) (by assumption);have z1:=z.1;have q:=MR (k:=true) (cs:=a0) (us:=a1) (es:=a2) (os:=a8) (a:=a) (v:=v) g (by omega) (by omega);first|(first|(rw[q.1,z.2,EY hp.r0 hs.1 hs.2.1 (by omega) (by omega)];done)|(rw[q.1,z.2,EY hp.r0 hs.1 hs.2.1 (by omega) (by omega)];exact rfl))|(rw[q.1,z.2,EY hp.r0 hs.1 hs.2.1 (by omega) (by omega)];exact rfl))
      |done)
  |omega
  |(show aW _ _=true;kernel_rfl)
  |exact ob
  |exact hp.r2
  |exact Dh hp.r0 hs.1 hs.2.1 (by omega) (by omega)
  |exact sT hp.r0 hs.1 hs.2.1
  |exact⟨by omega,by omega,nV hp.r0 hs.1 hs.2.1⟩
  |exact⟨True.intro,True.intro⟩
  |exact True.intro
  |done
namespace Jb6
structure aQ where
 ooI:Bool->aa->Int->Int
 hpI:aa->aa->aa->Int->aa->aa->aa->aa->aa->aa->aa->aa->Int->aa->Int->Int->Int->Int->Bool->Int->Int->aa->Int->Int->Bool
 stC:aa->aa->aa->Int->Int->aa
 stK:aa->aa->aa->Int->Int->Int
 hsK:Bool->aa->aa->aa->aa->Int->Int->Int
 hsC:Bool->aa->aa->aa->aa->Int->Int->aa
abbrev F0 :aQ:=⟨ooI,hpI,stC,stK,hsK,hsC⟩
def ct (F:aQ):CT:=fun f ds=>match f with
 | 50=>match ds with
   |[.agg [.s 1 a0,.s 1 a1,.s 2 a2,.v (.int .i64 a3),.s 1 a4,.s 2 a5,.s 3 a6,.s 3 a7,.s 4 a8,.s 1 a9,.s 1 aA,.s 1 aB,.v (.int .i64 aC),.s 3 aD,.v (.int .i64 aE),.v (.int .i64 aF),.v (.int .i64 aG),.v (.int .i64 aH),.v (.bool aI),.v (.int .i64 aJ),.v (.int .i64 aK),.s 1 aL,.v (.int .i64 aM),.v (.int .i64 aN)]]=>some (fun _=>gg a0 a1 a2 a4 a5 a6 a7 a8 a9 aA aB aD aL,[.agg (eD a0 a1 a2 a3 a4 a5 a6 a7 a8 a9 aA aB aC aD aE aF aG aH aI aJ aK aL aM aN)])
   |_=>none
 | 81=>match ds with
   |[.agg [.s 1 a0,.s 1 a1,.s 2 a2,.v (.int .i64 a3),.s 1 a4,.s 2 a5,.s 3 a6,.s 3 a7,.s 4 a8,.s 1 a9,.s 1 aA,.s 1 aB,.v (.int .i64 aC),.s 3 aD,.v (.int .i64 aE),.v (.int .i64 aF),.v (.int .i64 aG),.v (.int .i64 aH),.v (.bool aI),.v (.int .i64 aJ),.v (.int .i64 aK),.s 1 aL,.v (.int .i64 aM),.v (.int .i64 aN)],.one (.v (.int .i64 ad))]=>some (fun _=>E4 a0 a1 a2 a4 a5 a6 a7 a8 a9 aA aB aD aL,[.j (F.ooI (F.hpI a0 a1 a2 a3 a4 a5 a6 a7 a8 a9 aA aB aC aD aE aF aG aH aI aJ aK aL aM aN) a8 ad)])
   |_=>none
 | 82=>match ds with
   |[.agg [.s 1 cs,.s 1 us,.s 2 es],.one (.v (.int .i64 a)),.one (.v (.int .i64 v))]=>some (fun _=>Rw [.sl [tI]] cs/\Rw [tB] us/\Rw [tI,tI] es/\ah cs<=1099511627776/\ah us<=1099511627776/\ah es<=1099511627776/\(-9223372036854775808<=a/\a<=9223372036854775807),[.agg [.s 1 (F.stC cs us es a v),.s 1 us,.s 2 es],.j (F.stK cs us es a v)])
   |_=>none
 | 38=>match ds with
   |[.agg [.s 1 a0,.s 1 a1,.s 2 a2,.v (.int .i64 a3),.s 1 a4,.s 2 a5,.s 3 a6,.s 3 a7,.s 4 a8,.s 1 a9,.s 1 aA,.s 1 aB,.v (.int .i64 aC),.s 3 aD,.v (.int .i64 aE),.v (.int .i64 aF),.v (.int .i64 aG),.v (.int .i64 aH),.v (.bool aI),.v (.int .i64 aJ),.v (.int .i64 aK),.s 1 aL,.v (.int .i64 aM),.v (.int .i64 aN)]]=>some (fun _=>gg a0 a1 a2 a4 a5 a6 a7 a8 a9 aA aB aD aL,[.agg (eD a0 a1 a2 a3 a4 a5 a6 a7 a8 a9 aA aB aC aD aE aF aG aH aI aJ aK aL aM aN)])
   |_=>none
 | 39=>match ds with
   |[.agg [.s 1 a0,.s 1 a1,.s 2 a2,.v (.int .i64 a3),.s 1 a4,.s 2 a5,.s 3 a6,.s 3 a7,.s 4 a8,.s 1 a9,.s 1 aA,.s 1 aB,.v (.int .i64 aC),.s 3 aD,.v (.int .i64 aE),.v (.int .i64 aF),.v (.int .i64 aG),.v (.int .i64 aH),.v (.bool aI),.v (.int .i64 aJ),.v (.int .i64 aK),.s 1 aL,.v (.int .i64 aM),.v (.int .i64 aN)]]=>some (fun _=>E4 a0 a1 a2 a4 a5 a6 a7 a8 a9 aA aB aD aL,[.k (F.hpI a0 a1 a2 a3 a4 a5 a6 a7 a8 a9 aA aB aC aD aE aF aG aH aI aJ aK aL aM aN)])
   |_=>none
 |_=>none
theorem ai :aS (ct F0):=by
 intro f ds pre res h hp;unfold ct at h;split at h<;>(try split at h)<;>cases h
 exact fU hp;exact q8 hp;exact yp hp;exact gQ hp;exact fy hp
def pt (F:aQ):PT:=fun f=>match f with
 | 80=>some fun ds=>match ds with
   |[.mp [.own (.s 1 a0),.own (.s 1 a1),.own (.s 2 a2),.own (.v (.int .i64 a3)),.own (.s 1 a4),.own (.s 2 a5),.own (.s 3 a6),.own (.s 3 a7),.own (.s 4 a8),.own (.s 1 a9),.own (.s 1 aA),.own (.s 1 aB),.own (.v (.int .i64 aC)),.own (.s 3 aD),.own (.v (.int .i64 aE)),.own (.v (.int .i64 aF)),.own (.v (.int .i64 aG)),.own (.v (.int .i64 aH)),.own (.v (.bool aI)),.own (.v (.int .i64 aJ)),.own (.v (.int .i64 aK)),.own (.s 1 aL),.own (.v (.int .i64 aM)),.own (.v (.int .i64 aN))],.one (.v (.int .i64 a)),.one (.v (.int .i64 v))]=>some (fun _=>gg a0 a1 a2 a4 a5 a6 a7 a8 a9 aA aB aD aL/\hpI a0 a1 a2 a3 a4 a5 a6 a7 a8 a9 aA aB aC aD aE aF aG aH aI aJ aK aL aM aN=true/\(-9223372036854775808<=a/\a<=9223372036854775807),[(Bz (F.hsC true a0 a1 a2 a8 a v) a1 a2 a3 a4 a5 a6 a7 a8 a9 aA aB aC aD aE aF aG aH aI aJ aK aL aM aN)],[.j (F.hsK true a0 a1 a2 a8 a v)])
   |_=>none
 |_=>none
theorem fO :mP (pt F0):=by
 intro f mk h ds pre outs res hm hp;unfold pt at h;split at h
 ·cases h;dsimp only at hm;split at hm
  ·cases hm;exact sv hp
  ·cases hm
 ·cases h
abbrev B :cy:={Φ:=aQ,F0:=F0,ct:=ct,hc:=ai,pt:=pt,hp:=fO}
end Jb6
theorem oT {a0 a1 a2:aa}{a3:Int}{a4 a5 a6 a7 a8 a9 aA aB:aa}{aC:Int}{aD:aa}{aE aF aG aH:Int}{aI:Bool}{aJ aK:Int}{aL:aa}{aM aN a v:Int}(hp:gg a0 a1 a2 a4 a5 a6 a7 a8 a9 aA aB aD aL/\(-9223372036854775808<=a/\a<=9223372036854775807)):au 18 [.agg (eD a0 a1 a2 a3 a4 a5 a6 a7 a8 a9 aA aB aC aD aE aF aG aH aI aJ aK aL aM aN),.j a,.j v] [.agg (eD (hsC (hpI a0 a1 a2 a3 a4 a5 a6 a7 a8 a9 aA aB aC aD aE aF aG aH aI aJ aK aL aM aN) a0 a1 a2 a8 a v) a1 a2 a3 a4 a5 a6 a7 a8 a9 aA aB aC aD aE aF aG aH aI aJ aK aL aM aN),.j (hsK (hpI a0 a1 a2 a3 a4 a5 a6 a7 a8 a9 aA aB aC aD aE aF aG aH aI aJ aK aL aM aN) a0 a1 a2 a8 a v)]:=by
 obtain⟨hp,hA⟩:=hp;have c0:=hp.c0;have c1:=hp.c1;have c2:=hp.c2;refine cb Jb6.B Tryz.func18 ?_
 intro O r F hO hr hF;cbv
 repeat' first|apply And.intro|(apply be<;>intro hb<;>cbv)
 all_goals(subst hO hr hF;(try simp only[nc]at*);(try simp only[aj,SS,sa,az]at*))
 all_goals first
  | (show(_:List DV)=_
     first
      |(have q:=Dj (k:=hpI a0 a1 a2 a3 a4 a5 a6 a7 a8 a9 aA aB aC aD aE aF aG aH aI aJ aK aL aM aN) (cs:=a0) (us:=a1) (es:=a2) (os:=a8) (a:=a) (v:=v) (by omega);first|(first|(rw[q.1,q.2];done)|(rw[q.1,q.2];exact rfl))|(rw[q.1,q.2];exact rfl))
      |(have q:=MS (k:=hpI a0 a1 a2 a3 a4 a5 a6 a7 a8 a9 aA aB aC aD aE aF aG aH aI aJ aK aL aM aN) (cs:=a0) (us:=a1) (es:=a2) (os:=a8) (a:=a) (v:=v) (by omega) (by assumption);first|(first|(rw[q.1,q.2];done)|(rw[q.1,q.2];exact rfl))|(rw[q.1,q.2];exact rfl))
      |(have q:=MU (k:=hpI a0 a1 a2 a3 a4 a5 a6 a7 a8 a9 aA aB aC aD aE aF aG aH aI aJ aK aL aM aN) (cs:=a0) (us:=a1) (es:=a2) (os:=a8) (a:=a) (v:=v) (by omega) (by assumption);first|(first|(rw[q.1,q.2];done)|(rw[q.1,q.2];exact rfl))|(rw[q.1,q.2];exact rfl))
      |(have q:=MR (k:=hpI a0 a1 a2 a3 a4 a5 a6 a7 a8 a9 aA aB aC aD aE aF aG aH aI aJ aK aL aM aN) (cs:=a0) (us:=a1) (es:=a2) (os:=a8) (a:=a) (v:=v) (by omega) (by omega) (by omega);first|(first|(rw[q.1,q.2];done)|(rw[q.1,q.2];exact rfl))|(rw[q.1,q.2];exact rfl))
      |done)
  |exact hp
  |exact hp.hp
  |exact⟨hp.hp,hA⟩
  |exact⟨hp.r0,hp.r1,hp.r2,by omega,by omega,by omega,hA⟩
  |(show aW _ _=true;kernel_rfl)
  |exact⟨True.intro,True.intro⟩
  |exact True.intro
  |done
theorem pp {a0 a1 a2:aa}{a3:Int}{a4 a5 a6 a7 a8 a9 aA aB:aa}{aC:Int}{aD:aa}{aE aF aG aH:Int}{aI:Bool}{aJ aK:Int}{aL:aa}{aM aN a v:Int}(hp:gg a0 a1 a2 a4 a5 a6 a7 a8 a9 aA aB aD aL/\(-9223372036854775808<=a/\a<=9223372036854775807)):au 17 [.agg (eD a0 a1 a2 a3 a4 a5 a6 a7 a8 a9 aA aB aC aD aE aF aG aH aI aJ aK aL aM aN),.j a,.j v] [.agg (eD (hsC (hpI a0 a1 a2 a3 a4 a5 a6 a7 a8 a9 aA aB aC aD aE aF aG aH aI aJ aK aL aM aN) a0 a1 a2 a8 a v) a1 a2 a3 a4 a5 a6 a7 a8 a9 aA aB aC aD aE aF aG aH aI aJ aK aL aM aN),.j (hsK (hpI a0 a1 a2 a3 a4 a5 a6 a7 a8 a9 aA aB aC aD aE aF aG aH aI aJ aK aL aM aN) a0 a1 a2 a8 a v)]:=by
 obtain⟨hp,hA⟩:=hp;refine cb Jb6.B Tryz.func17 ?_
 intro O r F hO hr hF;cbv
 repeat' first|apply And.intro|(apply be<;>intro hb<;>cbv)
 all_goals(subst hO hr hF;(try simp only[nc]at*);(try simp only[aj,SS,sa,az]at*))
 all_goals first
  | (show(_:List DV)=_
     first
      |(have q:=Dj (k:=hpI a0 a1 a2 a3 a4 a5 a6 a7 a8 a9 aA aB aC aD aE aF aG aH aI aJ aK aL aM aN) (cs:=a0) (us:=a1) (es:=a2) (os:=a8) (a:=a) (v:=v) (by rw[Q3 (by assumption)];decide);first|(rw[q.1,q.2];done)|(rw[q.1,q.2];exact rfl))
      |(first|(rw[show hpI a0 a1 a2 a3 a4 a5 a6 a7 a8 a9 aA aB aC aD aE aF aG aH aI aJ aK aL aM aN=true from(by assumption)];done)|(rw[show hpI a0 a1 a2 a3 a4 a5 a6 a7 a8 a9 aA aB aC aD aE aF aG aH aI aJ aK aL aM aN=true from(by assumption)];exact rfl))
      |done)
  |exact hp
  |exact hp.hp
  |exact⟨hp,by assumption,hA⟩
  |(show aW _ _=true;kernel_rfl)
  |exact⟨True.intro,True.intro⟩
  |exact True.intro
  |done
end Go.V