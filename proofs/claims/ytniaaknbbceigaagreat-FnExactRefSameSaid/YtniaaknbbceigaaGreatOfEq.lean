/- Contracts. -/
import Derived.Test.YtniaaknbbceigaaGreatOfDq
set_option linter.all false
namespace Go.V
open Go Go.Proofs
set_option maxRecDepth 1000000
set_option maxHeartbeats 8000000
namespace Oe0
structure av where
 hpI:aa->aa->aa->Int->aa->aa->aa->aa->aa->aa->aa->aa->Int->aa->Int->Int->Int->Int->Bool->Int->Int->aa->Int->Int->Bool
abbrev F0 :av:=⟨hpI⟩
def ct (F:av):CT:=fun f ds=>match f,ds with
 |55,[.agg [.s 1 a0,.s 1 a1,.s 2 a2,.v (.int .i64 a3),.s 1 a4,.s 2 a5,.s 3 a6,.s 3 a7,.s 4 a8,.s 1 a9,.s 1 aA,.s 1 aB,.v (.int .i64 aC),.s 3 aD,.v (.int .i64 aE),.v (.int .i64 aF),.v (.int .i64 aG),.v (.int .i64 aH),.v (.bool aI),.v (.int .i64 aJ),.v (.int .i64 aK),.s 1 aL,.v (.int .i64 aM),.v (.int .i64 aN)]]=>some (fun _=>eR a0 a1 a2 a4 a5 a6 a7 a8 a9 aA aB aD aL,[.k (F.hpI a0 a1 a2 a3 a4 a5 a6 a7 a8 a9 aA aB aC aD aE aF aG aH aI aJ aK aL aM aN)])
 |_,_=>none
theorem ah :aO (ct F0):=by
 intro f ds pre res h hp;unfold ct at h;split at h<;>cases h
 exact cK hp
abbrev B :ce:=tb ah
end Oe0
theorem iP {a b:aa}(hp:Rw [tI] a/\Rw [tI] b/\a.length<=1099511627776):ap 84 [.one (.s 1 a),.one (.s 1 b)] [.k (eqR a b)]:=by
 obtain⟨ha,hb',hn⟩:=hp;refine cb Oe0.B Tryz.func84 ?_
 intro O r F hO hr hF;cbv
 repeat' first|apply And.intro|(apply be<;>intro hb<;>cbv)|(refine⟨[0,1,12,13],[0],Int,fun i=>[.reg 13 (.j i)],fun i=>0<=i/\i<=((a.length:Nat):Int)/\upto (Lr a b) i,fun i=>(a.length)-i.toNat,⟨0,?_,?_⟩,?_⟩;rotate_left;(focus (cbv;done));intro i hi;replace hi:0<=i/\i<=((a.length:Nat):Int)/\upto (Lr a b) i:=hi;obtain⟨i0,i1,i2⟩:=hi;cbv)|(refine ab (O.ar .add .i64 i 1) ?_ ?_ ?_;focus (cbv;done))
 all_goals exact Rc
theorem sZ {a b:aa}(hp:Rw [tI] a/\Rw [tI] b/\a.length<=1099511627776):ap 81 [.one (.s 1 a),.one (.s 1 b)] [.k (eqR a b)]:=by
 obtain⟨ha,hb',hn⟩:=hp;refine cb Oe0.B Tryz.func81 ?_
 intro O r F hO hr hF;cbv
 repeat' first|apply And.intro|(apply be<;>intro hb<;>cbv)|(refine⟨[0,1,5],[0],Int,fun i=>[.reg 5 (.j i)],fun i=>0<=i/\i<=((a.length:Nat):Int)/\upto (Lr a b) i,fun i=>(a.length)-i.toNat,⟨0,?_,?_⟩,?_⟩;rotate_left;(focus (cbv;done));intro i hi;replace hi:0<=i/\i<=((a.length:Nat):Int)/\upto (Lr a b) i:=hi;obtain⟨i0,i1,i2⟩:=hi;cbv)|(refine ab (O.ar .add .i64 i 1) ?_ ?_ ?_;focus (cbv;done))
 all_goals exact Rc
namespace Oe1
structure av where
 hpI:aa->aa->aa->Int->aa->aa->aa->aa->aa->aa->aa->aa->Int->aa->Int->Int->Int->Int->Bool->Int->Int->aa->Int->Int->Bool
 ctsL:Bool->aa->aa->aa->Int->aa
 ctsB:Bool->aa->Int->Bool
 clL:aa->aa->Int->Int->aa
 eqR:aa->aa->Bool
abbrev F0 :av:=⟨hpI,ctsL,ctsB,clL,eqR⟩
def ct (F:av):CT:=fun f ds=>match f with
 | 55=>match ds with
   |[.agg [.s 1 a0,.s 1 a1,.s 2 a2,.v (.int .i64 a3),.s 1 a4,.s 2 a5,.s 3 a6,.s 3 a7,.s 4 a8,.s 1 a9,.s 1 aA,.s 1 aB,.v (.int .i64 aC),.s 3 aD,.v (.int .i64 aE),.v (.int .i64 aF),.v (.int .i64 aG),.v (.int .i64 aH),.v (.bool aI),.v (.int .i64 aJ),.v (.int .i64 aK),.s 1 aL,.v (.int .i64 aM),.v (.int .i64 aN)]]=>some (fun _=>eR a0 a1 a2 a4 a5 a6 a7 a8 a9 aA aB aD aL,[.k (F.hpI a0 a1 a2 a3 a4 a5 a6 a7 a8 a9 aA aB aC aD aE aF aG aH aI aJ aK aL aM aN)])
   |_=>none
 | 44=>match ds with
   |[.agg [.s 1 a0,.s 1 a1,.s 2 a2,.v (.int .i64 a3),.s 1 a4,.s 2 a5,.s 3 a6,.s 3 a7,.s 4 a8,.s 1 a9,.s 1 aA,.s 1 aB,.v (.int .i64 aC),.s 3 aD,.v (.int .i64 aE),.v (.int .i64 aF),.v (.int .i64 aG),.v (.int .i64 aH),.v (.bool aI),.v (.int .i64 aJ),.v (.int .i64 aK),.s 1 aL,.v (.int .i64 aM),.v (.int .i64 aN)]]=>some (fun _=>eR a0 a1 a2 a4 a5 a6 a7 a8 a9 aA aB aD aL,[.k (F.hpI a0 a1 a2 a3 a4 a5 a6 a7 a8 a9 aA aB aC aD aE aF aG aH aI aJ aK aL aM aN)])
   |_=>none
 | 30=>match ds with
   |[.agg [.s 1 a0,.s 1 a1,.s 2 a2,.v (.int .i64 a3),.s 1 a4,.s 2 a5,.s 3 a6,.s 3 a7,.s 4 a8,.s 1 a9,.s 1 aA,.s 1 aB,.v (.int .i64 aC),.s 3 aD,.v (.int .i64 aE),.v (.int .i64 aF),.v (.int .i64 aG),.v (.int .i64 aH),.v (.bool aI),.v (.int .i64 aJ),.v (.int .i64 aK),.s 1 aL,.v (.int .i64 aM),.v (.int .i64 aN)],.one (.v (.int .i64 id))]=>some (fun _=>eR a0 a1 a2 a4 a5 a6 a7 a8 a9 aA aB aD aL,[.one (.s 1 (F.ctsL (F.hpI a0 a1 a2 a3 a4 a5 a6 a7 a8 a9 aA aB aC aD aE aF aG aH aI aJ aK aL aM aN) a8 a0 a2 id)),.k (F.ctsB (F.hpI a0 a1 a2 a3 a4 a5 a6 a7 a8 a9 aA aB aC aD aE aF aG aH aI aJ aK aL aM aN) a8 id)])
   |_=>none
 | 82=>match ds with
   |[.ptr [.s 1 a0,.s 1 a1,.s 2 a2,.v (.int .i64 a3),.s 1 a4,.s 2 a5,.s 3 a6,.s 3 a7,.s 4 a8,.s 1 a9,.s 1 aA,.s 1 aB,.v (.int .i64 aC),.s 3 aD,.v (.int .i64 aE),.v (.int .i64 aF),.v (.int .i64 aG),.v (.int .i64 aH),.v (.bool aI),.v (.int .i64 aJ),.v (.int .i64 aK),.s 1 aL,.v (.int .i64 aM),.v (.int .i64 aN)],.agg [.v (.int .i64 o0),.v (.int .i64 a),.v (.int .i64 n),.v (.int .i64 o3)]]=>some (fun _=>Rw [.sl [tI]] a0/\Rw [tI,tI] a2/\I9 a0 a2 a n,[.one (.s 1 (F.clL a0 a2 a n))])
   |_=>none
 | 84=>match ds with
   |[.one (.s 1 a),.one (.s 1 b)]=>some (fun _=>Rw [tI] a/\Rw [tI] b/\a.length<=1099511627776,[.k (F.eqR a b)])
   |_=>none
 | 81=>match ds with
   |[.one (.s 1 a),.one (.s 1 b)]=>some (fun _=>Rw [tI] a/\Rw [tI] b/\a.length<=1099511627776,[.k (F.eqR a b)])
   |_=>none
 |_=>none
theorem ah :aO (ct F0):=by
 intro f ds pre res h hp;unfold ct at h;split at h<;>(try split at h)<;>cases h
 exact cK hp;exact dE hp;exact jv hp;exact jH hp;exact iP hp;exact sZ hp
abbrev B :ce:=tb ah
end Oe1
theorem sc {a0 a1 a2:aa}{a3:Int}{a4 a5 a6 a7 a8 a9 aA aB:aa}{aC:Int}{aD:aa}{aE aF aG aH:Int}{aI:Bool}{aJ aK:Int}{aL:aa}{aM aN rn:Int}{ros:aa}(hp:eR a0 a1 a2 a4 a5 a6 a7 a8 a9 aA aB aD aL/\Rw [tI,.sl [tI]] ros/\ros.length<=1073741824):ap 24 [.agg (ez a0 a1 a2 a3 a4 a5 a6 a7 a8 a9 aA aB aC aD aE aF aG aH aI aJ aK aL aM aN),.agg [.i rn,.s 2 ros]] [.k (rsI (hpI a0 a1 a2 a3 a4 a5 a6 a7 a8 a9 aA aB aC aD aE aF aG aH aI aJ aK aL aM aN) aH rn a8 a0 a2 ros)]:=by
 obtain⟨hp,hr,hrl⟩:=hp;have N:=hp.n;have how:=N.ow;have hol:=N.ol;refine cb Oe1.B Tryz.func24 ?_
 intro O r F hO hr hF;cbv
 repeat' first|apply And.intro|(apply be<;>intro hb<;>cbv)|(refine⟨[2,29,30,31],[2],Int,fun i=>[.reg 31 (.j i)],fun i=>0<=i/\i<=((ros.length:Nat):Int)/\upto (AX (hpI a0 a1 a2 a3 a4 a5 a6 a7 a8 a9 aA aB aC aD aE aF aG aH aI aJ aK aL aM aN) a8 a0 a2 ros) i,fun i=>(ros.length)-i.toNat,⟨0,?_,?_⟩,?_⟩;rotate_left;(focus (cbv;done));intro i hi;replace hi:0<=i/\i<=((ros.length:Nat):Int)/\upto (AX (hpI a0 a1 a2 a3 a4 a5 a6 a7 a8 a9 aA aB aC aD aE aF aG aH aI aJ aK aL aM aN) a8 a0 a2 ros) i:=hi;obtain⟨i0,i1,i2⟩:=hi;cbv)|(refine ab (O.ar .add .i64 i 1) ?_ ?_ ?_;focus (cbv;done))
 all_goals(subst hO hr hF;(try simp only[nc]at*);(try simp only[ai,SS,sa,az]at*);(try rw[bX (by omega) (by omega)]);(try have hok:hpI a0 a1 a2 a3 a4 a5 a6 a7 a8 a9 aA aB aC aD aE aF aG aH aI aJ aK aL aM aN=true:=(by assumption));(try have cr:=EA (b:=(hpI a0 a1 a2 a3 a4 a5 a6 a7 a8 a9 aA aB aC aD aE aF aG aH aI aJ aK aL aM aN)) (os:=a8) (id:=af ros i 0) hp.c (fun h=>tZ N.ow (by omega) h));(try have er:=Rw.sub (fs:=[tI,.sl [tI]]) (j:=1) (i:=i) hr (by omega) rfl))
 all_goals first
  | (show(_:List DV)=_
     first
      |exact ag (CI (by assumption)).symm
      |exact ag (CJ (by assumption)).symm
      |exact ag (CK (by omega)).symm
      |exact ag (xE i0 (by assumption) (M6 (by assumption))).symm
      |exact ag (xE i0 (by assumption) (M7 (by assumption))).symm
      |exact ag (CL hok (by assumption) (by omega) i2 (by omega)).symm
      |done)
  |omega
  |exact d9
  |exact⟨cr.1,er,by have:=cr.2;omega⟩
  |exact aX
  |exact aP i2 (QB (by assumption) (by assumption))
  |done
theorem sT {a0 a1 a2:aa}{a3:Int}{a4 a5 a6 a7 a8 a9 aA aB:aa}{aC:Int}{aD:aa}{aE aF aG aH:Int}{aI:Bool}{aJ aK:Int}{aL:aa}{aM aN rn:Int}{ros:aa}(hp:eR a0 a1 a2 a4 a5 a6 a7 a8 a9 aA aB aD aL/\Rw [tI,.sl [tI]] ros/\ros.length<=1073741824):ap 22 [.agg (ez a0 a1 a2 a3 a4 a5 a6 a7 a8 a9 aA aB aC aD aE aF aG aH aI aJ aK aL aM aN),.agg [.i rn,.s 2 ros]] [.k (rsI (hpI a0 a1 a2 a3 a4 a5 a6 a7 a8 a9 aA aB aC aD aE aF aG aH aI aJ aK aL aM aN) aH rn a8 a0 a2 ros)]:=by
 obtain⟨hp,hr,hrl⟩:=hp;have N:=hp.n;have how:=N.ow;have hol:=N.ol;refine cb Oe1.B Tryz.func22 ?_
 intro O r F hO hr hF;cbv
 repeat' first|apply And.intro|(apply be<;>intro hb<;>cbv)|(refine⟨[2,3,5],[2,3],Int,fun i=>[.reg 5 (.j i)],fun i=>0<=i/\i<=((ros.length:Nat):Int)/\upto (AX (hpI a0 a1 a2 a3 a4 a5 a6 a7 a8 a9 aA aB aC aD aE aF aG aH aI aJ aK aL aM aN) a8 a0 a2 ros) i,fun i=>(ros.length)-i.toNat,⟨0,?_,?_⟩,?_⟩;rotate_left;(focus (cbv;done));intro i hi;replace hi:0<=i/\i<=((ros.length:Nat):Int)/\upto (AX (hpI a0 a1 a2 a3 a4 a5 a6 a7 a8 a9 aA aB aC aD aE aF aG aH aI aJ aK aL aM aN) a8 a0 a2 ros) i:=hi;obtain⟨i0,i1,i2⟩:=hi;cbv)|(refine ab (O.ar .add .i64 i 1) ?_ ?_ ?_;focus (cbv;done))|(refine⟨[2,3,5,6,7],[2,3],Int×Bool,fun s_=>match s_ with|(k,g)=>[.reg 7 (.j k),.reg 6 (.k g)],fun s_=>match s_ with|(k,g)=>0<=k/\k<=(a8.length:Int)/\Jl a8 a0 a2 ros i k g,fun s_=>match s_ with|(k,g)=>a8.length-k.toNat,⟨(0,false),?_,?_⟩,?_⟩;rotate_left;(focus (cbv;done));intro s_ hk;obtain⟨k,g⟩:=s_;replace hk:0<=k/\k<=(a8.length:Int)/\Jl a8 a0 a2 ros i k g:=hk;obtain⟨k0,k1,k2⟩:=hk;cbv)|(refine ab (O.ar .add .i64 k 1,F.eqR (O.sub (F.clL a0 a2 (O.gi a8 k 1) (O.gi a8 k 2)) 0 (O.ln (F.clL a0 a2 (O.gi a8 k 1) (O.gi a8 k 2)))) (O.gs ros i 1)) ?_ ?_ ?_;focus (cbv;done))|(refine ab (O.ar .add .i64 k 1,g) ?_ ?_ ?_;focus (cbv;done))
 all_goals(subst hO hr hF;(try simp only[nc]at*);(try simp only[ai,SS,sa,az]at*);(try rw[bX (by omega) (by omega)]);(try have hok:hpI a0 a1 a2 a3 a4 a5 a6 a7 a8 a9 aA aB aC aD aE aF aG aH aI aJ aK aL aM aN=true:=(by assumption));(try have T:=pC hok);(try have OC:=tZ N.ow (by omega) hok);(try have CB:=wN OC k0 (by assumption));(try have cr:=Es hp.c CB);(try have er:=Rw.sub (fs:=[tI,.sl [tI]]) (j:=1) (i:=i) hr (by omega) rfl))
 all_goals first
  | (show(_:List DV)=_
     first
      |exact ag (CI (by assumption)).symm
      |exact ag (CJ (by assumption)).symm
      |exact ag (CK (by omega)).symm
      |(have q:=CM T.o k2 k1 (by omega);exact ag (xE i0 (by assumption) (by rw[hok, <-q];assumption)).symm)
      |exact ag (CL hok (by assumption) (by omega) i2 (by omega)).symm
      |done)
  |omega
  |exact d9
  |(show aU _ _=true;kernel_rfl)
  |exact⟨hp.c,hp.e,CB⟩
  |exact⟨cr.1,er,by have:=cr.2;omega⟩
  |exact IG k2 k0 (by assumption)
  |exact IH k2 k0 (by assumption)
  |exact QC
  |exact aX
  |(have q:=CM T.o k2 k1 (by omega);exact aP i2 (by rw[hok, <-q];assumption))
  |done
end Go.V