/- Contracts. -/
import Derived.Test.YtcodmgmliopheaaGreatHoAt
import Derived.Test.YtcodmgmliopheaaGreatOfBt
set_option linter.all false
namespace Go.V
open Go Go.Proofs
set_option maxRecDepth 1000000
set_option maxHeartbeats 8000000
namespace Jb4
structure aQ where
 smM:aa->aa->aa->Int->Int
 smF:aa->aa->aa->Int->Int
 inR:Int->Int->Int->Bool
abbrev F0 :aQ:=⟨smM,smF,inR⟩
def ct (F:aQ):CT:=fun f ds=>match f,ds with
 |283,[.agg [.s 1 cs,.s 1 us,.s 2 es]]=>some (fun _=>Rw [.sl [tI]] cs/\Rw [tB] us/\Rw [tI,tI] es/\ag cs<=1099511627776/\ag us<=1099511627776/\ag es<=1099511627776,[.agg [.s 1 cs,.s 1 us,.s 2 es]])
 |401,[.agg [.s 1 cs,.s 1 us,.s 2 es],.one (.v (.int .i64 a))]=>some (fun _=>Rw [.sl [tI]] cs/\Rw [tB] us/\Rw [tI,tI] es/\(-9223372036854775808<=a/\a<=9223372036854775807),[.agg [.i (F.smM cs us es a),.i (F.smF cs us es a)]])
 |91,[.one (.v (.int .i64 x)),.one (.v (.int .i64 a)),.one (.v (.int .i64 b))]=>some (fun _=>True,[.k (F.inR x a b)])
 |_,_=>none
theorem aj :aR (ct F0):=by
 intro f ds pre res h hp;unfold ct at h;split at h<;>cases h
 exact eG hp;exact kq hp;exact bc hp
abbrev B :cy:=tb aj
end Jb4
theorem yt {cs us es:aa}{a v:Int}(hp:Rw [.sl [tI]] cs/\Rw [tB] us/\Rw [tI,tI] es/\ag cs<=1099511627776/\ag us<=1099511627776/\ag es<=1099511627776/\(-9223372036854775808<=a/\a<=9223372036854775807)):aw 337 [.agg [.s 1 cs,.s 1 us,.s 2 es],.j a,.j v] [.agg [.s 1 (stC cs us es a v),.s 1 us,.s 2 es],.j (stK cs us es a v)]:=by
 obtain⟨hc,hu,he,hn,hm,hk,ha⟩:=hp;refine cb Jb4.B Tryz.func337 ?_
 intro O r F hO hr hF;cbv
 repeat' first|apply And.intro|(apply bi<;>intro hb<;>cbv)
 all_goals(subst hO hr hF;(try simp only[nc]at*);(try simp only[ah,SS,sa,az]at*);(try simp only[vt]at*);(try(have hs:=Hb (cs:=cs) (us:=us) (es:=es) (a:=a) (by assumption);have ha0:=(A8 (cs:=cs) (us:=us) (es:=es) (a:=a) (by assumption)).2));(try simp only[ya (n:=16) ha0]at*))
 all_goals first|(show aV _ _=true;kernel_rfl)|exact⟨hc,hu,he,hn,hm,hk⟩|exact⟨hc,hu,he,ha⟩|exact oD (Bb (by assumption)).2.symm rfl rfl (Bb (by assumption)).1.symm|exact oD (I1 (by assumption)).2.symm rfl rfl (I1 (by assumption)).1.symm|exact oD (I2 (by assumption) (by assumption) (by assumption)).2.symm rfl rfl (I2 (by assumption) (by assumption) (by assumption)).1.symm|exact oD ((Je hc hs.1 hs.2.1 (by omega) (by omega)).trans (I0 (by assumption) (by assumption) (by assumption)).2.symm) rfl rfl (I0 (by assumption) (by assumption) (by assumption)).1.symm|exact C7 hc hs.1 hs.2.1 (by omega) (by omega)|exact nQ hc hs.1 hs.2.1|exact⟨by omega,by omega,kC hc hs.1 hs.2.1⟩|exact⟨trivial,trivial⟩|trivial|omega|done
end Go.V