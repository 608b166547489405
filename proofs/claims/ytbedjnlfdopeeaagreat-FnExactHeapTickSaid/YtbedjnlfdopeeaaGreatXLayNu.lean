/- Contracts. -/
import Derived.Test.YtbedjnlfdopeeaaGreatXLayMu
set_option linter.all false
open Go
open And renaming intro->Zb
open IntKind renaming i64->Za
namespace Go.V
open Go Go.Proofs
set_option maxRecDepth 1000000
set_option maxHeartbeats 8000000
theorem qv {d0 d1 d2 d3 e0 e1 e2 e3:Int}(hp:True):ap 234 [.agg [.i d0,.i d1,.i d2,.i d3],.ptr [.i e0,.i e1,.i e2,.i e3]] [.k (eqB d0 e0)]:=by
 refine cb nB Tryz.func234 ?_
 exact SY
namespace Na1
structure aP where
 eqB:Int->Int->Bool
abbrev F0:aP:=⟨eqB⟩
def ct (F:aP):CT:=fun f ds=>match f,ds with
 |234,[.agg [.v (.int Za d0),.v (.int Za d1),.v (.int Za d2),.v (.int Za d3)],.ptr [.v (.int Za e0),.v (.int Za e1),.v (.int Za e2),.v (.int Za e3)]]=>some (fun _=>True,[.k (F.eqB d0 e0)])
 |_,_=>none
theorem aj:aT (ct F0):=by
 intro f ds pre res h hp;unfold ct at h;split at h<;>cases h
 exact qv hp
abbrev B:cF:=tb aj
end Na1
theorem bW {os:aa}{e0 e1 e2 e3:Int}(hp:Rw [tI,tI,tI,tI] os/\os.length<=1099511627776):ap 187 [.one (.s 4 os),.fn 234 [[.i e0,.i e1,.i e2,.i e3]]] [.j (oiI os e0)]:=by
 obtain⟨hw,hn⟩:=hp;refine cb Na1.B Tryz.func187 ?_
 intro O r F hO hr hF;cbv
 repeat' first|apply Zb|(apply bu<;>intro hb<;>cbv)|(refine⟨[0,1,7,8],[0],Int,fun i=>[.reg 8 (.j i)],fun i=>0<=i/\i<=((os.length:Nat):Int)/\upto (cv (BG os e0)) i,fun i=>(os.length)-i.toNat,⟨0,?_,?_⟩,?_⟩;rotate_left;(focus (cbv;done));intro i hi;replace hi:0<=i/\i<=((os.length:Nat):Int)/\upto (cv (BG os e0)) i:=hi;obtain⟨i0,i1,i2⟩:=hi;cbv)|(refine ab (O.ar .add Za i 1) ?_ ?_ ?_;focus (cbv;done))
 all_goals(subst hO hr hF;(try simp only[nc]at*);(try simp only[ak,SS,sa,az]at*);(try rw[cy (by omega) (by omega)]))
 all_goals first
  | (show(_:List DV)=_
     first
      |exact cT (dz i2 i0 (by assumption) (show BG os e0 i=true from by assumption)).symm
      |exact cT (dP i2 (by assumption)).symm
      |done)
  |omega
  |exact eF
  |(show(lk _ _).isSome=true;kernel_rfl)
  |exact bC
  |exact aW i2 (iz (show BG os e0 i=false from by assumption))
  |done
namespace Na2
structure aP where
 oiI:aa->Int->Int
abbrev F0:aP:=⟨oiI⟩
def ct (F:aP):CT:=fun f ds=>match f,ds with
 |187,[.one (.s 4 os),.fn 234 [[.v (.int Za e0),.v (.int Za e1),.v (.int Za e2),.v (.int Za e3)]]]=>some (fun _=>Rw [tI,tI,tI,tI] os/\os.length<=1099511627776,[.j (F.oiI os e0)])
 |_,_=>none
theorem aj:aT (ct F0):=by
 intro f ds pre res h hp;unfold ct at h;split at h<;>cases h
 exact bW hp
abbrev B:cF:=tb aj
end Na2
theorem bS {os:aa}{e0 e1 e2 e3:Int}(hp:Rw [tI,tI,tI,tI] os/\os.length<=1099511627776):ap 233 [.one (.s 4 os),.fn 234 [[.i e0,.i e1,.i e2,.i e3]]] [.k (oiB os e0)]:=by
 refine cb Na2.B Tryz.func233 ?_
 intro O r F hO hr hF;cbv
 repeat' first|apply Zb|(apply bu<;>intro hb<;>cbv)
 all_goals(subst hO hr hF;(try simp only[nc]at*);(try simp only[ak,SS,sa,az]at*))
 all_goals first
  | (show(_:List DV)=_
     first
      |exact ai (er (by unfold oiB;simp only[SS,aa2]))
      |done)
  |exact hp
  |done
namespace Na3
structure aP where
 inR:Int->Int->Int->Bool
 oiB:aa->Int->Bool
 dnK:aa->aa->Int->Int
 dnI:aa->aa->Int->Int
 dnS:aa->Int->Int
 dnO:aa->aa->Int->Int
 clsOf:Int->Int
 dzK:aa->aa->Int->Int
 dzI:aa->aa->Int->Int
 dzS:aa->aa->Int->Int
 dzO:aa->aa->Int->Int
abbrev F0:aP:=⟨inR,oiB,dnK,dnI,dnS,dnO,clsOf,dzK,dzI,dzS,dzO⟩
def ct (F:aP):CT:=fun f ds=>match f,ds with
 |41,[.one (.v (.int Za x)),.one (.v (.int Za a)),.one (.v (.int Za b))]=>some (fun _=>True,[.k (F.inR x a b)])
 |233,[.one (.s 4 os),.fn 234 [[.v (.int Za e0),.v (.int Za e1),.v (.int Za e2),.v (.int Za e3)]]]=>some (fun _=>Rw [tI,tI,tI,tI] os/\os.length<=1099511627776,[.k (F.oiB os e0)])
 |137,[.one (.s 3 sp),.one (.s 3 lg),.one (.v (.int Za a))]=>some (fun _=>Rw [tI,tI,tI] sp/\Rw [tI,tI,tI] lg,[.agg [.i (F.dnK sp lg a),.i (F.dnI sp lg a),.i (F.dnS sp a),.i (F.dnO sp lg a)]])
 |77,[.one (.v (.int Za s))]=>some (fun _=>True,[.j (F.clsOf s)])
 |28,[.one (.v (.int Za x)),.one (.v (.int Za a)),.one (.v (.int Za b))]=>some (fun _=>True,[.k (F.inR x a b)])
 |268,[.one (.s 3 sp),.one (.s 3 lg),.one (.v (.int Za a))]=>some (fun _=>Rw [tI,tI,tI] sp/\Rw [tI,tI,tI] lg/\sp.length<=1073741824/\lg.length<=1073741824/\ -9223372036854775808<=a/\a<=9223372036854775807,[.agg [.i (F.dzK sp lg a),.i (F.dzI sp lg a),.i (F.dzS sp lg a),.i (F.dzO sp lg a)]])
 |179,[.one (.v (.int Za s))]=>some (fun _=>True,[.j (F.clsOf s)])
 |_,_=>none
theorem aj:aT (ct F0):=by
 intro f ds pre res h hp;unfold ct at h;split at h<;>cases h
 exact bc hp;exact bS hp;exact gu hp;exact j3 hp;exact be hp;exact gz hp;exact j6 hp
abbrev B:cF:=tb aj
end Na3
theorem vW {a0 a1 a2:aa}{a3:Int}{a4 a5 a6 a7 a8 a9 aA aB:aa}{aC:Int}{aD:aa}{aE aF aG aH:Int}{aI:Bool}{aJ aK:Int}{aL:aa}{aM aN:Int}(hp:zx a6 a7 a8 a9 aA aB aD/\layOk a6 a7=true):ap 131 [.agg (iF a0 a1 a2 a3 a4 a5 a6 a7 a8 a9 aA aB aC aD aE aF aG aH aI aJ aK aL aM aN)] [.k (objOk a6 a7 a8 a9 aH)]:=by
 obtain⟨N,hlay⟩:=hp;have how:=N.ow;have hol:=N.ol;have hsw:=N.sw;have hlw:=N.lw;have hsl:=N.sl;have hll:=N.ll;have hcl:=N.cl;have hlc:=aO (es:=a9);have hsb:bK .sub Za (a9.length:Int) 1=a9.length-1:=cN (by omega);refine cb Na3.B Tryz.func131 ?_
 intro O r F hO hr hF;cbv
 repeat' first|apply Zb|(apply bu<;>intro hb<;>cbv)|(refine⟨[1,9,10,11],[1],Int,fun i=>[.reg 11 (.j i)],fun i=>0<=i/\i<=((a8.length:Nat):Int)/\upto (xx a6 a7 a8 a9 aH) i,fun i=>(a8.length)-i.toNat,⟨0,?_,?_⟩,?_⟩;rotate_left;(focus (cbv;done));intro i hi;replace hi:0<=i/\i<=((a8.length:Nat):Int)/\upto (xx a6 a7 a8 a9 aH) i:=hi;obtain⟨i0,i1,i2⟩:=hi;cbv)|(refine ab (O.ar .add Za i 1) ?_ ?_ ?_;focus (cbv;done))
 all_goals(subst hO hr hF;(try simp only[nc]at*);(try simp only[ak,SS,sa,az]at*);(try rw[cy (by omega) (by omega)]);(try have z:=wK i0 (by omega));(try simp only[z,hsb,vp]at*);(try have d1:=fun h=>CK (sp:=a6) (lg:=a7) (a:=ag a8 i 1) h);(try have d3:=fun h=>J4 (sp:=a6) (lg:=a7) (a:=ag a8 i 1) h))
 all_goals first
  |(exfalso;omega)
  | (show(_:List DV)=_
     first
      |(refine ai ?_;symm;exact jP i0 (by assumption) (KH (by assumption) (by assumption)))
      |(refine ai ?_;symm;exact jP i0 (by assumption) (KI (by assumption)))
      |(refine ai ?_;symm;exact jP i0 (by assumption) (KJ (by assumption)))
      |(refine ai ?_;symm;exact jP i0 (by assumption) (KL (by assumption)))
      |(refine ai ?_;symm;exact jP i0 (by assumption) (Dk (KM (by assumption))))
      |(refine ai ?_;symm;exact jP i0 (by assumption) (Dk (QP (by first|exact .inl (by assumption)|exact .inr (by assumption)|exact .inl (by omega)) (by first|exact .inl (by assumption)|exact .inr (by assumption)|exact .inl (by omega)))))
      |(refine ai ?_;symm;exact GE i2 (by omega))
      |(have q:false=true:=(by assumption);cases q)
      |done)
  |omega
  |exact eF
  |(show aV _ _=true;kernel_rfl)
  |exact⟨hsw,hlw⟩
  |exact⟨Rw.take how _,by rw[List.length_take];omega⟩
  |exact bC
  |exact aW i2 (IY (by first|exact .inl (by omega)|exact .inr (by assumption)) (by assumption) (by assumption) (by assumption) (KN (by assumption) (by assumption) (by assumption)))
  |exact aW i2 (IY (by first|exact .inl (by omega)|exact .inr (by assumption)) (by assumption) (by assumption) (by assumption) (KO (by assumption) (by assumption) (by assumption)))
  |(have q:false=true:=(by assumption);cases q)
  |done
theorem tR {a0 a1 a2:aa}{a3:Int}{a4 a5 a6 a7 a8 a9 aA aB:aa}{aC:Int}{aD:aa}{aE aF aG aH:Int}{aI:Bool}{aJ aK:Int}{aL:aa}{aM aN:Int}(hp:zx a6 a7 a8 a9 aA aB aD/\layOk a6 a7=true):ap 172 [.agg (iF a0 a1 a2 a3 a4 a5 a6 a7 a8 a9 aA aB aC aD aE aF aG aH aI aJ aK aL aM aN)] [.k (objOk a6 a7 a8 a9 aH)]:=by
 obtain⟨N,hlay⟩:=hp;have how:=N.ow;have hol:=N.ol;have hsw:=N.sw;have hlw:=N.lw;have hsl:=N.sl;have hll:=N.ll;have hcl:=N.cl;have hlc:=aO (es:=a9);have hsb:bK .sub Za (a9.length:Int) 1=a9.length-1:=cN (by omega);refine cb Na3.B Tryz.func172 ?_
 intro O r F hO hr hF;cbv
 repeat' first|apply Zb|(apply bu<;>intro hb<;>cbv)|(refine⟨[1,3],[1],Int,fun i=>[.reg 3 (.j i)],fun i=>0<=i/\i<=(a8.length:Int)/\upto (xx a6 a7 a8 a9 aH) i,fun i=>a8.length-i.toNat,⟨0,?_,?_⟩,?_⟩;rotate_left;(focus (cbv;done));intro i hi;replace hi:0<=i/\i<=(a8.length:Int)/\upto (xx a6 a7 a8 a9 aH) i:=hi;obtain⟨i0,i1,i2⟩:=hi;cbv)|(refine⟨[1,3,4,5],[1,4],Int,fun k=>[.reg 5 (.j k)],fun k=>0<=k/\k<=i/\upto (fun j=> !eqB (ag a8 j 0) (ag a8 i 0)) k,fun k=>(i-k).toNat,⟨0,?_,?_⟩,?_⟩;rotate_left;(focus (cbv;done));intro k hk;replace hk:0<=k/\k<=i/\upto (fun j=> !eqB (ag a8 j 0) (ag a8 i 0)) k:=hk;obtain⟨k0,k1,k2⟩:=hk;cbv)|(refine ab (O.ar .add Za k 1) ?_ ?_ ?_;focus (cbv;done))|(refine ab (O.ar .add Za i 1) ?_ ?_ ?_;focus (cbv;done))
 all_goals(subst hO hr hF;(try simp only[nc]at*);(try simp only[ak,SS,sa,az]at*);(try rw[cy (by omega) (by omega)]);(try have z:=wK i0 (by omega));(try simp only[z,hsb]at*);(try simp only[J5 hlay,J6 hlay,J7 hlay]at*);(try have z6:bK .add Za k 1=k+1:=bh (by omega));(try simp only[z6]at*);(try have d1:=fun h=>CK (sp:=a6) (lg:=a7) (a:=ag a8 i 1) h);(try have d3:=fun h=>J4 (sp:=a6) (lg:=a7) (a:=ag a8 i 1) h);(try have d4:=QO (os:=a8) (i:=i) k2 (by omega) i0))
 all_goals first
  |(exfalso;omega)
  | (show(_:List DV)=_
     first
      |(refine ai ?_;symm;exact jP i0 (by assumption) (KH (by assumption) (by assumption)))
      |(refine ai ?_;symm;exact jP i0 (by assumption) (KI (by assumption)))
      |(refine ai ?_;symm;exact jP i0 (by assumption) (KJ (by assumption)))
      |(refine ai ?_;symm;exact jP i0 (by assumption) (KL (Nk k0 (by assumption) (by assumption) (by assumption))))
      |(refine ai ?_;symm;exact jP i0 (by assumption) (Dk (KM (by assumption))))
      |(refine ai ?_;symm;exact jP i0 (by assumption) (Dk (QP (by first|exact .inl (by assumption)|exact .inr (by assumption)|exact .inl (by omega)) (by first|exact .inl (by assumption)|exact .inr (by assumption)|exact .inl (by omega)))))
      |(refine ai ?_;symm;exact GE i2 (by omega))
      |(have q:false=true:=(by assumption);cases q)
      |done)
  |omega
  |exact eF
  |(show aV _ _=true;kernel_rfl)
  |exact⟨hsw,hlw,hsl,hll,uv how rfl (by omega)⟩
  |exact bC
  |exact aW k2 (by show(!eqB _ _)=true;rw[wW (by assumption)];rfl)
  |exact aW i2 (IY (by first|exact .inl (by omega)|exact .inr (by assumption)) (by assumption) (by assumption) (by assumption) (KN (by assumption) (by assumption) (by assumption)))
  |exact aW i2 (IY (by first|exact .inl (by omega)|exact .inr (by assumption)) (by assumption) (by assumption) (by assumption) (KO (by assumption) (by assumption) (by assumption)))
  |(have q:false=true:=(by assumption);cases q)
  |done
end Go.V