/- Contracts. -/
import Derived.Test.YtniaaknbbceigaaGreatOfAq
set_option linter.all false
namespace Go.V
open Go Go.Proofs
set_option maxRecDepth 1000000
set_option maxHeartbeats 8000000
namespace Od0
structure av where
 peM:aa->Int->Int
 peF:aa->Int->Int
abbrev F0 :av:=⟨peM,peF⟩
def ct (F:av):CT:=fun f ds=>match f,ds with
 |176,[.agg [.s 2 es],.one (.v (.int .i64 p))]=>some (fun _=>Rw [tI,tI] es,[.agg [.i (F.peM es p),.i (F.peF es p)]])
 |72,[.agg [.s 2 es],.one (.v (.int .i64 p))]=>some (fun _=>Rw [tI,tI] es,[.agg [.i (F.peM es p),.i (F.peF es p)]])
 |_,_=>none
theorem ah :aO (ct F0):=by
 intro f ds pre res h hp;unfold ct at h;split at h<;>cases h
 exact cM hp;exact dR hp
abbrev B :ce:=tb ah
end Od0
theorem mr {d0 d1 d2 d3 id:Int}(hp:True):ap 100 [.agg [.i d0,.i d1,.i d2,.i d3],.ptr [.i id]] [.k (eqB d0 id)]:=by
 refine cb Od0.B Tryz.func100 ?_
 exact G8
namespace Od1
structure av where
 eqB:Int->Int->Bool
abbrev F0 :av:=⟨eqB⟩
def ct (F:av):CT:=fun f ds=>match f,ds with
 |100,[.agg [.v (.int .i64 d0),.v (.int .i64 d1),.v (.int .i64 d2),.v (.int .i64 d3)],.ptr [.v (.int .i64 id)]]=>some (fun _=>True,[.k (F.eqB d0 id)])
 |_,_=>none
theorem ah :aO (ct F0):=by
 intro f ds pre res h hp;unfold ct at h;split at h<;>cases h
 exact mr hp
abbrev B :ce:=tb ah
end Od1
theorem bR {os:aa}{id:Int}(hp:Rw [tI,tI,tI,tI] os/\os.length<=1099511627776):ap 99 [.one (.s 4 os),.fn 100 [[.i id]]] [.j (oiI os id)]:=by
 obtain⟨hw,hn⟩:=hp;refine cb Od1.B Tryz.func99 ?_
 intro O r F hO hr hF;cbv
 repeat' first|apply And.intro|(apply be<;>intro hb<;>cbv)|(refine⟨[0,1,7,8],[0],Int,fun i=>[.reg 8 (.j i)],fun i=>0<=i/\i<=((os.length:Nat):Int)/\upto (bZ (jR os id)) i,fun i=>(os.length)-i.toNat,⟨0,?_,?_⟩,?_⟩;rotate_left;(focus (cbv;done));intro i hi;replace hi:0<=i/\i<=((os.length:Nat):Int)/\upto (bZ (jR os id)) i:=hi;obtain⟨i0,i1,i2⟩:=hi;cbv)|(refine ab (O.ar .add .i64 i 1) ?_ ?_ ?_;focus (cbv;done))
 all_goals(subst hO hr hF;(try simp only[nc]at*);(try simp only[ai,SS,sa,az]at*);(try rw[bX (by omega) (by omega)]))
 all_goals first
  | (show(_:List DV)=_
     first
      |exact bJ (cO i2 i0 (by assumption) (show jR os id i=true from by assumption)).symm
      |exact bJ (cP i2 (by assumption)).symm
      |done)
  |omega
  |exact d9
  |(show(lk _ _).isSome=true;kernel_rfl)
  |exact aX
  |exact aP i2 (fO (show jR os id i=false from by assumption))
  |done
theorem se {a0 a1 a2:aa}{a3:Int}{a4 a5 a6 a7 a8 a9 aA aB:aa}{aC:Int}{aD:aa}{aE aF aG aH:Int}{aI:Bool}{aJ aK:Int}{aL:aa}{aM aN a n:Int}(hp:Rw [.sl [tI]] a0/\Rw [tI,tI] a2/\I9 a0 a2 a n):ap 101 [.agg (ez a0 a1 a2 a3 a4 a5 a6 a7 a8 a9 aA aB aC aD aE aF aG aH aI aJ aK aL aM aN),.j a,.j n] [.one (.s 1 (clL a0 a2 a n))]:=by
 obtain⟨hc,he,hC⟩:=hp;refine cb Od0.B Tryz.func101 ?_
 intro O r F hO hr hF;cbv
 repeat' first|apply And.intro|(apply be<;>intro hb<;>cbv)|(refine⟨[1,2,3,7,8],[3,7],Int×aa,fun s_=>match s_ with|(i,o)=>[.reg 8 (.j i),.reg 7 (.one (.vw 7 0 0 0 (O.ln o))),.leaf 7 0 ⟨0,0,none,.own (.s 1 o)⟩],fun s_=>match s_ with|(i,o)=>0<=i/\i<=n/\DJ a0 a2 a i o,fun s_=>match s_ with|(i,o)=>(n-i).toNat,⟨(0,[]),?_,?_⟩,?_⟩;rotate_left;(focus (cbv;done));intro s_ hi;obtain⟨i,o⟩:=s_;replace hi:0<=i/\i<=n/\DJ a0 a2 a i o:=hi;obtain⟨i0,i1,i2⟩:=hi;cbv)|(refine ab (O.ar .add .i64 i 1,O.cat o (O.sub [[.i (O.gi (O.gs a0 (F.peF a2 (O.ar .quo .i64 (O.ar .add .i64 a i) 16)) 0) (O.ar .rem .i64 (O.ar .add .i64 a i) 16) 0)]] 0 (O.ln [[.i (O.gi (O.gs a0 (F.peF a2 (O.ar .quo .i64 (O.ar .add .i64 a i) 16)) 0) (O.ar .rem .i64 (O.ar .add .i64 a i) 16) 0)]]))) ?_ ?_ ?_;focus (cbv;done))
 all_goals exact Q6
theorem jH {a0 a1 a2:aa}{a3:Int}{a4 a5 a6 a7 a8 a9 aA aB:aa}{aC:Int}{aD:aa}{aE aF aG aH:Int}{aI:Bool}{aJ aK:Int}{aL:aa}{aM aN o0 a n o3:Int}(hp:Rw [.sl [tI]] a0/\Rw [tI,tI] a2/\I9 a0 a2 a n):ap 82 [.ptr (ez a0 a1 a2 a3 a4 a5 a6 a7 a8 a9 aA aB aC aD aE aF aG aH aI aJ aK aL aM aN),.agg [.i o0,.i a,.i n,.i o3]] [.one (.s 1 (clL a0 a2 a n))]:=by
 obtain⟨hc,he,hC⟩:=hp;refine cb Od0.B Tryz.func82 ?_
 intro O r F hO hr hF;cbv
 repeat' first|apply And.intro|(apply be<;>intro hb<;>cbv)|(refine⟨[0,3,5,6],[3,5],Int×aa,fun s_=>match s_ with|(i,o)=>[.reg 6 (.j i),.reg 5 (.one (.vw 5 0 0 0 (O.ln o))),.leaf 5 0 ⟨0,0,none,.own (.s 1 o)⟩],fun s_=>match s_ with|(i,o)=>0<=i/\i<=n/\DJ a0 a2 a i o,fun s_=>match s_ with|(i,o)=>(n-i).toNat,⟨(0,[]),?_,?_⟩,?_⟩;rotate_left;(focus (cbv;done));intro s_ hi;obtain⟨i,o⟩:=s_;replace hi:0<=i/\i<=n/\DJ a0 a2 a i o:=hi;obtain⟨i0,i1,i2⟩:=hi;cbv)|(refine ab (O.ar .add .i64 i 1,O.cat o (O.sub [[.i (O.gi (O.gs a0 (F.peF a2 (O.ar .quo .i64 (O.ar .add .i64 a i) 16)) 0) (O.ar .rem .i64 (O.ar .add .i64 a i) 16) 0)]] 0 (O.ln [[.i (O.gi (O.gs a0 (F.peF a2 (O.ar .quo .i64 (O.ar .add .i64 a i) 16)) 0) (O.ar .rem .i64 (O.ar .add .i64 a i) 16) 0)]]))) ?_ ?_ ?_;focus (cbv;done))
 all_goals exact Q6
namespace Od2
structure av where
 hpI:aa->aa->aa->Int->aa->aa->aa->aa->aa->aa->aa->aa->Int->aa->Int->Int->Int->Int->Bool->Int->Int->aa->Int->Int->Bool
 clL:aa->aa->Int->Int->aa
 oiI:aa->Int->Int
abbrev F0 :av:=⟨hpI,clL,oiI⟩
def ct (F:av):CT:=fun f ds=>match f with
 | 55=>match ds with
   |[.agg [.s 1 a0,.s 1 a1,.s 2 a2,.v (.int .i64 a3),.s 1 a4,.s 2 a5,.s 3 a6,.s 3 a7,.s 4 a8,.s 1 a9,.s 1 aA,.s 1 aB,.v (.int .i64 aC),.s 3 aD,.v (.int .i64 aE),.v (.int .i64 aF),.v (.int .i64 aG),.v (.int .i64 aH),.v (.bool aI),.v (.int .i64 aJ),.v (.int .i64 aK),.s 1 aL,.v (.int .i64 aM),.v (.int .i64 aN)]]=>some (fun _=>eR a0 a1 a2 a4 a5 a6 a7 a8 a9 aA aB aD aL,[.k (F.hpI a0 a1 a2 a3 a4 a5 a6 a7 a8 a9 aA aB aC aD aE aF aG aH aI aJ aK aL aM aN)])
   |_=>none
 | 44=>match ds with
   |[.agg [.s 1 a0,.s 1 a1,.s 2 a2,.v (.int .i64 a3),.s 1 a4,.s 2 a5,.s 3 a6,.s 3 a7,.s 4 a8,.s 1 a9,.s 1 aA,.s 1 aB,.v (.int .i64 aC),.s 3 aD,.v (.int .i64 aE),.v (.int .i64 aF),.v (.int .i64 aG),.v (.int .i64 aH),.v (.bool aI),.v (.int .i64 aJ),.v (.int .i64 aK),.s 1 aL,.v (.int .i64 aM),.v (.int .i64 aN)]]=>some (fun _=>eR a0 a1 a2 a4 a5 a6 a7 a8 a9 aA aB aD aL,[.k (F.hpI a0 a1 a2 a3 a4 a5 a6 a7 a8 a9 aA aB aC aD aE aF aG aH aI aJ aK aL aM aN)])
   |_=>none
 | 101=>match ds with
   |[.agg [.s 1 a0,.s 1 a1,.s 2 a2,.v (.int .i64 a3),.s 1 a4,.s 2 a5,.s 3 a6,.s 3 a7,.s 4 a8,.s 1 a9,.s 1 aA,.s 1 aB,.v (.int .i64 aC),.s 3 aD,.v (.int .i64 aE),.v (.int .i64 aF),.v (.int .i64 aG),.v (.int .i64 aH),.v (.bool aI),.v (.int .i64 aJ),.v (.int .i64 aK),.s 1 aL,.v (.int .i64 aM),.v (.int .i64 aN)],.one (.v (.int .i64 a)),.one (.v (.int .i64 n))]=>some (fun _=>Rw [.sl [tI]] a0/\Rw [tI,tI] a2/\I9 a0 a2 a n,[.one (.s 1 (F.clL a0 a2 a n))])
   |_=>none
 | 82=>match ds with
   |[.ptr [.s 1 a0,.s 1 a1,.s 2 a2,.v (.int .i64 a3),.s 1 a4,.s 2 a5,.s 3 a6,.s 3 a7,.s 4 a8,.s 1 a9,.s 1 aA,.s 1 aB,.v (.int .i64 aC),.s 3 aD,.v (.int .i64 aE),.v (.int .i64 aF),.v (.int .i64 aG),.v (.int .i64 aH),.v (.bool aI),.v (.int .i64 aJ),.v (.int .i64 aK),.s 1 aL,.v (.int .i64 aM),.v (.int .i64 aN)],.agg [.v (.int .i64 o0),.v (.int .i64 a),.v (.int .i64 n),.v (.int .i64 o3)]]=>some (fun _=>Rw [.sl [tI]] a0/\Rw [tI,tI] a2/\I9 a0 a2 a n,[.one (.s 1 (F.clL a0 a2 a n))])
   |_=>none
 | 99=>match ds with
   |[.one (.s 4 os),.fn 100 [[.v (.int .i64 id)]]]=>some (fun _=>Rw [tI,tI,tI,tI] os/\os.length<=1099511627776,[.j (F.oiI os id)])
   |_=>none
 |_=>none
theorem ah :aO (ct F0):=by
 intro f ds pre res h hp;unfold ct at h;split at h<;>(try split at h)<;>cases h
 exact cK hp;exact dE hp;exact se hp;exact jH hp;exact bR hp
abbrev B :ce:=tb ah
end Od2
theorem jv {a0 a1 a2:aa}{a3:Int}{a4 a5 a6 a7 a8 a9 aA aB:aa}{aC:Int}{aD:aa}{aE aF aG aH:Int}{aI:Bool}{aJ aK:Int}{aL:aa}{aM aN id:Int}(hp:eR a0 a1 a2 a4 a5 a6 a7 a8 a9 aA aB aD aL):ap 30 [.agg (ez a0 a1 a2 a3 a4 a5 a6 a7 a8 a9 aA aB aC aD aE aF aG aH aI aJ aK aL aM aN),.j id] [.one (.s 1 (ctsL (hpI a0 a1 a2 a3 a4 a5 a6 a7 a8 a9 aA aB aC aD aE aF aG aH aI aJ aK aL aM aN) a8 a0 a2 id)),.k (ctsB (hpI a0 a1 a2 a3 a4 a5 a6 a7 a8 a9 aA aB aC aD aE aF aG aH aI aJ aK aL aM aN) a8 id)]:=by
 have N:=hp.n;have how:=N.ow;have hol:=N.ol;refine cb Od2.B Tryz.func30 ?_
 intro O r F hO hr hF;cbv
 repeat' first|apply And.intro|(apply be<;>intro hb<;>cbv)
 all_goals(subst hO hr hF;(try simp only[nc]at*);(try simp only[ai,SS,sa,az]at*);(try have hok:hpI a0 a1 a2 a3 a4 a5 a6 a7 a8 a9 aA aB aC aD aE aF aG aH aI aJ aK aL aM aN=true:=(by assumption));(try have OC:=tZ N.ow (by omega) hok);(try have ol:=Kj (os:=a8) (id:=id) (by omega)))
 all_goals first
  | (show(_:List DV)=_
     first
      |(have q:=BE (b:=(hpI a0 a1 a2 a3 a4 a5 a6 a7 a8 a9 aA aB aC aD aE aF aG aH aI aJ aK aL aM aN)) (os:=a8) (cs:=a0) (es:=a2) (id:=id) (by omega);exact oE q.1.symm q.2.symm)
      |(have q:=BD (b:=(hpI a0 a1 a2 a3 a4 a5 a6 a7 a8 a9 aA aB aC aD aE aF aG aH aI aJ aK aL aM aN)) (os:=a8) (cs:=a0) (es:=a2) (id:=id) (by assumption);exact oE q.1.symm q.2.symm)
      |(rw[hok];have q:=An (os:=a8) (cs:=a0) (es:=a2) (id:=id) (by omega);exact oE q.1 q.2)
      |done)
  |omega
  |exact d9
  |(show aU _ _=true;kernel_rfl)
  |exact⟨how,by omega⟩
  |exact⟨hp.c,hp.e,wN OC (by omega) (by omega)⟩
  |exact⟨True.intro,True.intro⟩
  |done
theorem qS {a0 a1 a2:aa}{a3:Int}{a4 a5 a6 a7 a8 a9 aA aB:aa}{aC:Int}{aD:aa}{aE aF aG aH:Int}{aI:Bool}{aJ aK:Int}{aL:aa}{aM aN id:Int}(hp:eR a0 a1 a2 a4 a5 a6 a7 a8 a9 aA aB aD aL):ap 29 [.agg (ez a0 a1 a2 a3 a4 a5 a6 a7 a8 a9 aA aB aC aD aE aF aG aH aI aJ aK aL aM aN),.j id] [.one (.s 1 (ctsL (hpI a0 a1 a2 a3 a4 a5 a6 a7 a8 a9 aA aB aC aD aE aF aG aH aI aJ aK aL aM aN) a8 a0 a2 id)),.k (ctsB (hpI a0 a1 a2 a3 a4 a5 a6 a7 a8 a9 aA aB aC aD aE aF aG aH aI aJ aK aL aM aN) a8 id)]:=by
 have N:=hp.n;have how:=N.ow;have hol:=N.ol;refine cb Od2.B Tryz.func29 ?_
 intro O r F hO hr hF;cbv
 repeat' first|apply And.intro|(apply be<;>intro hb<;>cbv)|(refine⟨[1,2,6],[2],Int,fun i=>[.reg 6 (.j i)],fun i=>0<=i/\i<=((a8.length:Nat):Int)/\upto (bZ (jR a8 id)) i,fun i=>(a8.length)-i.toNat,⟨0,?_,?_⟩,?_⟩;rotate_left;(focus (cbv;done));intro i hi;replace hi:0<=i/\i<=((a8.length:Nat):Int)/\upto (bZ (jR a8 id)) i:=hi;obtain⟨i0,i1,i2⟩:=hi;cbv)|(refine ab (O.ar .add .i64 i 1) ?_ ?_ ?_;focus (cbv;done))
 all_goals(subst hO hr hF;(try simp only[nc]at*);(try simp only[ai,SS,sa,az]at*);(try rw[bX (by omega) (by omega)]);(try have hok:hpI a0 a1 a2 a3 a4 a5 a6 a7 a8 a9 aA aB aC aD aE aF aG aH aI aJ aK aL aM aN=true:=(by assumption));(try have OC:=tZ N.ow (by omega) hok))
 all_goals first
  | (show(_:List DV)=_
     first
      |(have q:=BE (b:=(hpI a0 a1 a2 a3 a4 a5 a6 a7 a8 a9 aA aB aC aD aE aF aG aH aI aJ aK aL aM aN)) (os:=a8) (cs:=a0) (es:=a2) (id:=id) (Is i2 (by omega));exact oE q.1.symm q.2.symm)
      |(have q:=BD (b:=(hpI a0 a1 a2 a3 a4 a5 a6 a7 a8 a9 aA aB aC aD aE aF aG aH aI aJ aK aL aM aN)) (os:=a8) (cs:=a0) (es:=a2) (id:=id) (by assumption);exact oE q.1.symm q.2.symm)
      |(rw[hok];have e:=FR i2 i0 (by assumption) (by assumption);have q:=An (os:=a8) (cs:=a0) (es:=a2) (id:=id) (by omega);rw[e]at q;exact oE q.1 q.2)
      |done)
  |omega
  |exact d9
  |exact⟨hp.c,hp.e,wN OC (by omega) (by omega)⟩
  |exact aX
  |exact aP i2 (fO (tn (by assumption)))
  |exact⟨True.intro,True.intro⟩
  |done
end Go.V