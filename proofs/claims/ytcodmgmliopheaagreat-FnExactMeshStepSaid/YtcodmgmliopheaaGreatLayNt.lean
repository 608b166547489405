/- Contracts. -/
import Derived.Test.YtcodmgmliopheaaGreatLayMt
set_option linter.all false
open Go
open And renaming intro->AT
namespace Go.V
open Go Go.Proofs
set_option maxRecDepth 1000000
set_option maxHeartbeats 8000000
theorem qV {d0 d1 d2 d3 e0 e1 e2 e3:Int}(hp:True):aw 292 [.agg [.i d0,.i d1,.i d2,.i d3],.ptr [.i e0,.i e1,.i e2,.i e3]] [.k (eqB d0 e0)]:=by
 refine cb nB Tryz.func292 ?_
 exact Rv
namespace Na1
structure aQ where
 eqB:Int->Int->Bool
abbrev F0 :aQ:=⟨eqB⟩
def ct (F:aQ):CT:=fun f ds=>match f,ds with
 |292,[.agg [.v (.int .i64 d0),.v (.int .i64 d1),.v (.int .i64 d2),.v (.int .i64 d3)],.ptr [.v (.int .i64 e0),.v (.int .i64 e1),.v (.int .i64 e2),.v (.int .i64 e3)]]=>some (fun _=>True,[.k (F.eqB d0 e0)])
 |_,_=>none
theorem aj :aR (ct F0):=by
 intro f ds pre res h hp;unfold ct at h;split at h<;>cases h
 exact qV hp
abbrev B :cy:=tb aj
end Na1
theorem bW {os:aa}{e0 e1 e2 e3:Int}(hp:Rw [tI,tI,tI,tI] os/\os.length<=1099511627776):aw 239 [.one (.s 4 os),.fn 292 [[.i e0,.i e1,.i e2,.i e3]]] [.j (oiI os e0)]:=by
 obtain⟨hw,hn⟩:=hp;refine cb Na1.B Tryz.func239 ?_
 intro O r F hO hr hF;cbv
 repeat' first|apply AT|(apply bi<;>intro hb<;>cbv)|(refine⟨[0,1,7,8],[0],Int,fun i=>[.reg 8 (.j i)],fun i=>0<=i/\i<=((os.length:Nat):Int)/\upto (cp (B5 os e0)) i,fun i=>(os.length)-i.toNat,⟨0,?_,?_⟩,?_⟩;rotate_left;(focus (cbv;done));intro i hi;replace hi:0<=i/\i<=((os.length:Nat):Int)/\upto (cp (B5 os e0)) i:=hi;obtain⟨i0,i1,i2⟩:=hi;cbv)|(refine ab (O.ar .add .i64 i 1) ?_ ?_ ?_;focus (cbv;done))
 all_goals(subst hO hr hF;(try simp only[nc]at*);(try simp only[ah,SS,sa,az]at*);(try rw[cE (by omega) (by omega)]))
 all_goals first
  | (show(_:List DV)=_
     first
      |exact cT (dD i2 i0 (by assumption) (show B5 os e0 i=true from by assumption)).symm
      |exact cT (dE i2 (by assumption)).symm
      |done)
  |omega
  |exact fe
  |(show(lk _ _).isSome=true;kernel_rfl)
  |exact bu
  |exact aY i2 (jr (show B5 os e0 i=false from by assumption))
  |done
namespace Na2
structure aQ where
 oiI:aa->Int->Int
abbrev F0 :aQ:=⟨oiI⟩
def ct (F:aQ):CT:=fun f ds=>match f,ds with
 |239,[.one (.s 4 os),.fn 292 [[.v (.int .i64 e0),.v (.int .i64 e1),.v (.int .i64 e2),.v (.int .i64 e3)]]]=>some (fun _=>Rw [tI,tI,tI,tI] os/\os.length<=1099511627776,[.j (F.oiI os e0)])
 |_,_=>none
theorem aj :aR (ct F0):=by
 intro f ds pre res h hp;unfold ct at h;split at h<;>cases h
 exact bW hp
abbrev B :cy:=tb aj
end Na2
theorem bP {os:aa}{e0 e1 e2 e3:Int}(hp:Rw [tI,tI,tI,tI] os/\os.length<=1099511627776):aw 291 [.one (.s 4 os),.fn 292 [[.i e0,.i e1,.i e2,.i e3]]] [.k (oiB os e0)]:=by
 refine cb Na2.B Tryz.func291 ?_
 intro O r F hO hr hF;cbv
 repeat' first|apply AT|(apply bi<;>intro hb<;>cbv)
 all_goals(subst hO hr hF;(try simp only[nc]at*);(try simp only[ah,SS,sa,az]at*))
 all_goals first
  | (show(_:List DV)=_
     first
      |exact ai (eA (by unfold oiB;simp only[SS,decide_eq_true_eq]))
      |done)
  |exact hp
  |done
namespace Na3
structure aQ where
 inR:Int->Int->Int->Bool
 oiB:aa->Int->Bool
 dnK:aa->aa->Int->Int
 dnI:aa->aa->Int->Int
 dnS:aa->Int->Int
 dnO:aa->aa->Int->Int
 clsOf:Int->Int
 dzK:aa->aa->Int->Int
 dzI:aa->aa->Int->Int
 dzS:aa->aa->Int->Int
 dzO:aa->aa->Int->Int
abbrev F0 :aQ:=⟨inR,oiB,dnK,dnI,dnS,dnO,clsOf,dzK,dzI,dzS,dzO⟩
def ct (F:aQ):CT:=fun f ds=>match f,ds with
 |91,[.one (.v (.int .i64 x)),.one (.v (.int .i64 a)),.one (.v (.int .i64 b))]=>some (fun _=>True,[.k (F.inR x a b)])
 |291,[.one (.s 4 os),.fn 292 [[.v (.int .i64 e0),.v (.int .i64 e1),.v (.int .i64 e2),.v (.int .i64 e3)]]]=>some (fun _=>Rw [tI,tI,tI,tI] os/\os.length<=1099511627776,[.k (F.oiB os e0)])
 |216,[.one (.s 3 sp),.one (.s 3 lg),.one (.v (.int .i64 a))]=>some (fun _=>Rw [tI,tI,tI] sp/\Rw [tI,tI,tI] lg,[.agg [.i (F.dnK sp lg a),.i (F.dnI sp lg a),.i (F.dnS sp a),.i (F.dnO sp lg a)]])
 |107,[.one (.v (.int .i64 s))]=>some (fun _=>True,[.j (F.clsOf s)])
 |89,[.one (.v (.int .i64 x)),.one (.v (.int .i64 a)),.one (.v (.int .i64 b))]=>some (fun _=>True,[.k (F.inR x a b)])
 |274,[.one (.s 3 sp),.one (.s 3 lg),.one (.v (.int .i64 a))]=>some (fun _=>Rw [tI,tI,tI] sp/\Rw [tI,tI,tI] lg/\sp.length<=1073741824/\lg.length<=1073741824/\ -9223372036854775808<=a/\a<=9223372036854775807,[.agg [.i (F.dzK sp lg a),.i (F.dzI sp lg a),.i (F.dzS sp lg a),.i (F.dzO sp lg a)]])
 |232,[.one (.v (.int .i64 s))]=>some (fun _=>True,[.j (F.clsOf s)])
 |_,_=>none
theorem aj :aR (ct F0):=by
 intro f ds pre res h hp;unfold ct at h;split at h<;>cases h
 exact bc hp;exact bP hp;exact ko hp;exact sZ hp;exact be hp;exact gw hp;exact tU hp
abbrev B :cy:=tb aj
end Na3
theorem wq {a0 a1 a2:aa}{a3:Int}{a4 a5 a6 a7 a8 a9 aA aB:aa}{aC:Int}{aD:aa}{aE aF aG aH:Int}{aI:Bool}{aJ aK:Int}{aL:aa}{aM aN:Int}(hp:zZ a6 a7 a8 a9 aA aB aD/\layOk a6 a7=true):aw 173 [.agg (ji a0 a1 a2 a3 a4 a5 a6 a7 a8 a9 aA aB aC aD aE aF aG aH aI aJ aK aL aM aN)] [.k (objOk a6 a7 a8 a9 aH)]:=by
 obtain⟨N,hlay⟩:=hp;have how:=N.ow;have hol:=N.ol;have hsw:=N.sw;have hlw:=N.lw;have hsl:=N.sl;have hll:=N.ll;have hcl:=N.cl;have hlc:=aU (es:=a9);have hsb:bJ .sub .i64 (a9.length:Int) 1=a9.length-1:=cO (by omega);refine cb Na3.B Tryz.func173 ?_
 intro O r F hO hr hF;cbv
 repeat' first|apply AT|(apply bi<;>intro hb<;>cbv)|(refine⟨[1,9,10,11],[1],Int,fun i=>[.reg 11 (.j i)],fun i=>0<=i/\i<=((a8.length:Nat):Int)/\upto (xW a6 a7 a8 a9 aH) i,fun i=>(a8.length)-i.toNat,⟨0,?_,?_⟩,?_⟩;rotate_left;(focus (cbv;done));intro i hi;replace hi:0<=i/\i<=((a8.length:Nat):Int)/\upto (xW a6 a7 a8 a9 aH) i:=hi;obtain⟨i0,i1,i2⟩:=hi;cbv)|(refine ab (O.ar .add .i64 i 1) ?_ ?_ ?_;focus (cbv;done))
 all_goals(subst hO hr hF;(try simp only[nc]at*);(try simp only[ah,SS,sa,az]at*);(try rw[cE (by omega) (by omega)]);(try have z:=xf i0 (by omega));(try simp only[z,hsb,vL]at*);(try have d1:=fun h=>C3 (sp:=a6) (lg:=a7) (a:=af a8 i 1) h);(try have d3:=fun h=>JJ (sp:=a6) (lg:=a7) (a:=af a8 i 1) h))
 all_goals first
  |(exfalso;omega)
  | (show(_:List DV)=_
     first
      |(refine ai ?_;symm;exact jY i0 (by assumption) (Kq (by assumption) (by assumption)))
      |(refine ai ?_;symm;exact jY i0 (by assumption) (Kr (by assumption)))
      |(refine ai ?_;symm;exact jY i0 (by assumption) (Ks (by assumption)))
      |(refine ai ?_;symm;exact jY i0 (by assumption) (Kt (by assumption)))
      |(refine ai ?_;symm;exact jY i0 (by assumption) (Dy (Ku (by assumption))))
      |(refine ai ?_;symm;exact jY i0 (by assumption) (Dy (P3 (by first|exact .inl (by assumption)|exact .inr (by assumption)|exact .inl (by omega)) (by first|exact .inl (by assumption)|exact .inr (by assumption)|exact .inl (by omega)))))
      |(refine ai ?_;symm;exact GA i2 (by omega))
      |(have q:false=true:=(by assumption);cases q)
      |done)
  |omega
  |exact fe
  |(show aV _ _=true;kernel_rfl)
  |exact⟨hsw,hlw⟩
  |exact⟨Rw.take how _,by rw[List.length_take];omega⟩
  |exact bu
  |exact aY i2 (IC (by first|exact .inl (by omega)|exact .inr (by assumption)) (by assumption) (by assumption) (by assumption) (Kv (by assumption) (by assumption) (by assumption)))
  |exact aY i2 (IC (by first|exact .inl (by omega)|exact .inr (by assumption)) (by assumption) (by assumption) (by assumption) (Kw (by assumption) (by assumption) (by assumption)))
  |(have q:false=true:=(by assumption);cases q)
  |done
theorem uk {a0 a1 a2:aa}{a3:Int}{a4 a5 a6 a7 a8 a9 aA aB:aa}{aC:Int}{aD:aa}{aE aF aG aH:Int}{aI:Bool}{aJ aK:Int}{aL:aa}{aM aN:Int}(hp:zZ a6 a7 a8 a9 aA aB aD/\layOk a6 a7=true):aw 142 [.agg (ji a0 a1 a2 a3 a4 a5 a6 a7 a8 a9 aA aB aC aD aE aF aG aH aI aJ aK aL aM aN)] [.k (objOk a6 a7 a8 a9 aH)]:=by
 obtain⟨N,hlay⟩:=hp;have how:=N.ow;have hol:=N.ol;have hsw:=N.sw;have hlw:=N.lw;have hsl:=N.sl;have hll:=N.ll;have hcl:=N.cl;have hlc:=aU (es:=a9);have hsb:bJ .sub .i64 (a9.length:Int) 1=a9.length-1:=cO (by omega);refine cb Na3.B Tryz.func142 ?_
 intro O r F hO hr hF;cbv
 repeat' first|apply AT|(apply bi<;>intro hb<;>cbv)|(refine⟨[1,3],[1],Int,fun i=>[.reg 3 (.j i)],fun i=>0<=i/\i<=(a8.length:Int)/\upto (xW a6 a7 a8 a9 aH) i,fun i=>a8.length-i.toNat,⟨0,?_,?_⟩,?_⟩;rotate_left;(focus (cbv;done));intro i hi;replace hi:0<=i/\i<=(a8.length:Int)/\upto (xW a6 a7 a8 a9 aH) i:=hi;obtain⟨i0,i1,i2⟩:=hi;cbv)|(refine⟨[1,3,4,5],[1,4],Int,fun k=>[.reg 5 (.j k)],fun k=>0<=k/\k<=i/\upto (fun j=> !eqB (af a8 j 0) (af a8 i 0)) k,fun k=>(i-k).toNat,⟨0,?_,?_⟩,?_⟩;rotate_left;(focus (cbv;done));intro k hk;replace hk:0<=k/\k<=i/\upto (fun j=> !eqB (af a8 j 0) (af a8 i 0)) k:=hk;obtain⟨k0,k1,k2⟩:=hk;cbv)|(refine ab (O.ar .add .i64 k 1) ?_ ?_ ?_;focus (cbv;done))|(refine ab (O.ar .add .i64 i 1) ?_ ?_ ?_;focus (cbv;done))
 all_goals(subst hO hr hF;(try simp only[nc]at*);(try simp only[ah,SS,sa,az]at*);(try rw[cE (by omega) (by omega)]);(try have z:=xf i0 (by omega));(try simp only[z,hsb]at*);(try simp only[JL hlay,JM hlay,JN hlay]at*);(try have z6:bJ .add .i64 k 1=k+1:=bB (by omega));(try simp only[z6]at*);(try have d1:=fun h=>C3 (sp:=a6) (lg:=a7) (a:=af a8 i 1) h);(try have d3:=fun h=>JJ (sp:=a6) (lg:=a7) (a:=af a8 i 1) h);(try have d4:=P2 (os:=a8) (i:=i) k2 (by omega) i0))
 all_goals first
  |(exfalso;omega)
  | (show(_:List DV)=_
     first
      |(refine ai ?_;symm;exact jY i0 (by assumption) (Kq (by assumption) (by assumption)))
      |(refine ai ?_;symm;exact jY i0 (by assumption) (Kr (by assumption)))
      |(refine ai ?_;symm;exact jY i0 (by assumption) (Ks (by assumption)))
      |(refine ai ?_;symm;exact jY i0 (by assumption) (Kt (MU k0 (by assumption) (by assumption) (by assumption))))
      |(refine ai ?_;symm;exact jY i0 (by assumption) (Dy (Ku (by assumption))))
      |(refine ai ?_;symm;exact jY i0 (by assumption) (Dy (P3 (by first|exact .inl (by assumption)|exact .inr (by assumption)|exact .inl (by omega)) (by first|exact .inl (by assumption)|exact .inr (by assumption)|exact .inl (by omega)))))
      |(refine ai ?_;symm;exact GA i2 (by omega))
      |(have q:false=true:=(by assumption);cases q)
      |done)
  |omega
  |exact fe
  |(show aV _ _=true;kernel_rfl)
  |exact⟨hsw,hlw,hsl,hll,xN how rfl (by omega)⟩
  |exact bu
  |exact aY k2 (by show(!eqB _ _)=true;rw[uD (by assumption)];rfl)
  |exact aY i2 (IC (by first|exact .inl (by omega)|exact .inr (by assumption)) (by assumption) (by assumption) (by assumption) (Kv (by assumption) (by assumption) (by assumption)))
  |exact aY i2 (IC (by first|exact .inl (by omega)|exact .inr (by assumption)) (by assumption) (by assumption) (by assumption) (Kw (by assumption) (by assumption) (by assumption)))
  |(have q:false=true:=(by assumption);cases q)
  |done
end Go.V