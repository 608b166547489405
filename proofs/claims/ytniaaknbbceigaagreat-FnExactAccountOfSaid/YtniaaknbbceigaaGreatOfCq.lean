/- Contracts. -/
import Derived.Test.YtniaaknbbceigaaGreatOfBq
set_option linter.all false
namespace Go.V
open Go Go.Proofs
set_option maxRecDepth 1000000
set_option maxHeartbeats 8000000
namespace Oc0
structure av where
 spOk:Int->Int->Int->Bool
 clsSz:Int->Int
 hsB:Int->Int->Bool
abbrev F0 :av:=⟨spOk,clsSz,hsB⟩
def ct (F:av):CT:=fun f ds=>match f,ds with
 |216,[.agg [.v (.int .i64 p),.v (.int .i64 k),.v (.int .i64 b)]]=>some (fun _=>True,[.k (F.spOk p k b)])
 |200,[.agg [.v (.int .i64 p),.v (.int .i64 k),.v (.int .i64 b)]]=>some (fun _=>True,[.k (F.spOk p k b)])
 |95,[.one (.v (.int .i64 k))]=>some (fun _=>True,[.j (F.clsSz k)])
 |76,[.one (.v (.int .i64 k))]=>some (fun _=>True,[.j (F.clsSz k)])
 |189,[.one (.v (.int .i64 b)),.one (.v (.int .i64 i))]=>some (fun _=>True,[.k (F.hsB b i)])
 |75,[.one (.v (.int .i64 b)),.one (.v (.int .i64 i))]=>some (fun _=>True,[.k (F.hsB b i)])
 |_,_=>none
theorem ah :aO (ct F0):=by
 intro f ds pre res h hp;unfold ct at h;split at h<;>cases h
 exact fj hp;exact fo hp;exact ca hp;exact cp hp;exact gg hp;exact gu hp
abbrev B :ce:=tb ah
end Oc0
theorem sg {a0 a1 a2:aa}{a3:Int}{a4 a5 a6 a7 a8 a9 aA aB:aa}{aC:Int}{aD:aa}{aE aF aG aH:Int}{aI:Bool}{aJ aK:Int}{aL:aa}{aM aN:Int}(hp:a2.length<=1073741824):ap 91 [.agg (ez a0 a1 a2 a3 a4 a5 a6 a7 a8 a9 aA aB aC aD aE aF aG aH aI aJ aK aL aM aN)] [.j (zlI a2)]:=by
 refine cb Oc0.B Tryz.func91 ?_
 exact G8
theorem iq {p k b:Int}(hp:True):ap 181 [.agg [.i p,.i k,.i b]] [.one (.s 1 (sclL p k b))]:=by
 refine cb Oc0.B Tryz.func181 ?_
 intro O r F hO hr hF;cbv
 repeat' first|apply And.intro|(apply be<;>intro hb<;>cbv)|(refine⟨[1,3,4],[1,3],Int×aa,fun s_=>match s_ with|(i,o)=>[.reg 4 (.j i),.reg 3 (.one (.vw 3 0 0 0 (O.ln o))),.leaf 3 0 ⟨0,0,none,.own (.s 1 o)⟩],fun s_=>match s_ with|(i,o)=>0<=i/\i<=16/\pP k b i o,fun s_=>match s_ with|(i,o)=>(16-i).toNat,⟨(0,[]),?_,?_⟩,?_⟩;rotate_left;(focus (cbv;done));intro s_ hi;obtain⟨i,o⟩:=s_;replace hi:0<=i/\i<=16/\pP k b i o:=hi;obtain⟨i0,i1,i2⟩:=hi;cbv)|(refine ab (O.ar .add .i64 i 1,O.cat o (O.sub [[.i i]] 0 (O.ln [[.i i]]))) ?_ ?_ ?_;focus (cbv;done))|(refine ab (O.ar .add .i64 i 1,o) ?_ ?_ ?_;focus (cbv;done))
 all_goals(subst hO hr hF;(try simp only[nc]at*);(try simp only[ai,SS,sa,az]at*);(try rw[bX (by omega) (by omega)]);(try have hs:spOk p k b=true:=(by assumption));(try have c1:=Ev (fh hs).2.2.1);(try have qu:bu .quo .i64 i (clsSz k)=i/clsSz k:=jN (by omega) (by omega) (by omega));(try have w1:=CR i2 i0))
 all_goals first
  | (show(_:List DV)=_
     first
      |exact gH (CQ i2 hs i1 (by omega))
      |exact gH (KL (by assumption)).symm
      |done)
  |omega
  |(show aU _ _=true;kernel_rfl)
  |exact zn i2 i0 (by rw[<-qu];assumption)
  |exact CU i2 i0 (by rw[<-qu];assumption)
  |exact GD
  |(constructor<;>(simp only[List.length_cons,List.length_nil];omega))
  |exact⟨True.intro,True.intro⟩
  |done
theorem oC {p k b:Int}(hp:True):ap 186 [.agg [.i p,.i k,.i b]] [.one (.s 1 (sclL p k b))]:=by
 refine cb Oc0.B Tryz.func186 ?_
 intro O r F hO hr hF;cbv
 repeat' first|apply And.intro|(apply be<;>intro hb<;>cbv)|(refine⟨[1,3,4],[1,3],Int×aa,fun s_=>match s_ with|(i,o)=>[.reg 4 (.j i),.reg 3 (.one (.vw 3 0 0 0 (O.ln o))),.leaf 3 0 ⟨0,0,none,.own (.s 1 o)⟩],fun s_=>match s_ with|(i,o)=>0<=i/\i<=16/\pP k b i o/\(i=0\/spOk p k b=true),fun s_=>match s_ with|(i,o)=>(16-i).toNat,⟨(0,[]),?_,?_⟩,?_⟩;rotate_left;(focus (cbv;done));intro s_ hi;obtain⟨i,o⟩:=s_;replace hi:0<=i/\i<=16/\pP k b i o/\(i=0\/spOk p k b=true):=hi;obtain⟨i0,i1,i2,i3⟩:=hi;cbv)|(refine ab (O.ar .add .i64 i 1,O.cat o (O.sub [[.i i]] 0 (O.ln [[.i i]]))) ?_ ?_ ?_;focus (cbv;done))|(refine ab (O.ar .add .i64 i 1,o) ?_ ?_ ?_;focus (cbv;done))
 all_goals(subst hO hr hF;(try simp only[nc]at*);(try simp only[ai,SS,sa,az]at*);(try rw[bX (by omega) (by omega)]);(try have hs:spOk p k b=true:=(by assumption));(try have c1:=Ev (fh hs).2.2.1);(try have qu:bu .quo .i64 i (clsSz k)=i/clsSz k:=jN (by omega) (by omega) (by omega));(try have w1:=CR i2 i0))
 all_goals first
  | (show(_:List DV)=_
     first
      |exact gH (CS i2 i3 i1 (.inl (by omega)))
      |exact gH (CS i2 i3 i1 (.inr (by assumption)))
      |done)
  |omega
  |(show aU _ _=true;kernel_rfl)
  |exact zn i2 i0 (by rw[<-qu];assumption)
  |exact CU i2 i0 (by rw[<-qu];assumption)
  |exact GD
  |exact .inr (by assumption)
  |exact .inl trivial
  |(constructor<;>(simp only[List.length_cons,List.length_nil];omega))
  |exact⟨True.intro,True.intro⟩
  |done
namespace Oc1
structure av where
 sclL:Int->Int->Int->aa
 layOk:aa->aa->Bool
abbrev F0 :av:=⟨sclL,layOk⟩
def ct (F:av):CT:=fun f ds=>match f,ds with
 |181,[.agg [.v (.int .i64 p),.v (.int .i64 k),.v (.int .i64 b)]]=>some (fun _=>True,[.one (.s 1 (F.sclL p k b))])
 |186,[.agg [.v (.int .i64 p),.v (.int .i64 k),.v (.int .i64 b)]]=>some (fun _=>True,[.one (.s 1 (F.sclL p k b))])
 |144,[.one (.s 3 sp),.one (.s 3 lg)]=>some (fun _=>Rw [tI,tI,tI] sp/\Rw [tI,tI,tI] lg/\sp.length<=1073741824/\lg.length<=1073741824,[.k (F.layOk sp lg)])
 |120,[.one (.s 3 sp),.one (.s 3 lg)]=>some (fun _=>Rw [tI,tI,tI] sp/\Rw [tI,tI,tI] lg/\sp.length<=1073741824/\lg.length<=1073741824,[.k (F.layOk sp lg)])
 |_,_=>none
theorem ah :aO (ct F0):=by
 intro f ds pre res h hp;unfold ct at h;split at h<;>cases h
 exact iq hp;exact oC hp;exact fM hp;exact eg hp
abbrev B :ce:=tb ah
end Oc1
theorem nU {sp lg:aa}(hp:Rw [tI,tI,tI] sp/\Rw [tI,tI,tI] lg/\sp.length<=1073741824/\lg.length<=1073741824):ap 92 [.one (.s 3 sp),.one (.s 3 lg)] [.j (lcI sp lg)]:=by
 obtain⟨hs,hl,ns,nl⟩:=hp;refine cb Oc1.B Tryz.func92 ?_
 intro O r F hO hr hF;cbv
 repeat' first|apply And.intro|(apply be<;>intro hb<;>cbv)|(refine⟨[1,5,14,15,16],[],Int×Int,fun s_=>match s_ with|(i,n)=>[.reg 16 (.j i),.reg 5 (.j n)],fun s_=>match s_ with|(i,n)=>0<=i/\i<=(sp.length:Int)/\yr sp i n,fun s_=>match s_ with|(i,n)=>sp.length-i.toNat,⟨(0,0),?_,?_⟩,?_⟩;rotate_left;(focus (cbv;done));intro s_ hi;obtain⟨i,n⟩:=s_;replace hi:0<=i/\i<=(sp.length:Int)/\yr sp i n:=hi;obtain⟨i0,i1,i2⟩:=hi;cbv)|(refine⟨[5,26,27,28],[],Int×Int,fun s_=>match s_ with|(j,m)=>[.reg 28 (.j j),.reg 5 (.j m)],fun s_=>match s_ with|(j,m)=>0<=j/\j<=(lg.length:Int)/\yl sp lg j m,fun s_=>match s_ with|(j,m)=>lg.length-j.toNat,⟨(0,n),?_,?_⟩,?_⟩;rotate_left;(focus (cbv;done));intro s_ hj;obtain⟨j,m⟩:=s_;replace hj:0<=j/\j<=(lg.length:Int)/\yl sp lg j m:=hj;obtain⟨j0,j1,j2⟩:=hj;cbv)|(refine ab (O.ar .add .i64 i 1,O.ar .add .i64 n (O.zi (O.ln (F.sclL (O.gi sp i 0) (O.gi sp i 1) (O.gi sp i 2))))) ?_ ?_ ?_;focus (cbv;done))|(refine ab (O.ar .add .i64 j 1,O.ar .add .i64 m (O.gi lg j 2)) ?_ ?_ ?_;focus (cbv;done))
 all_goals exact Rb
theorem oA {sp lg:aa}(hp:Rw [tI,tI,tI] sp/\Rw [tI,tI,tI] lg/\sp.length<=1073741824/\lg.length<=1073741824):ap 86 [.one (.s 3 sp),.one (.s 3 lg)] [.j (lcI sp lg)]:=by
 obtain⟨hs,hl,ns,nl⟩:=hp;refine cb Oc1.B Tryz.func86 ?_
 intro O r F hO hr hF;cbv
 repeat' first|apply And.intro|(apply be<;>intro hb<;>cbv)|(refine⟨[0,1,5,6],[],Int×Int,fun s_=>match s_ with|(i,n)=>[.reg 6 (.j i),.reg 5 (.j n)],fun s_=>match s_ with|(i,n)=>0<=i/\i<=(sp.length:Int)/\yr sp i n,fun s_=>match s_ with|(i,n)=>sp.length-i.toNat,⟨(0,0),?_,?_⟩,?_⟩;rotate_left;(focus (cbv;done));intro s_ hi;obtain⟨i,n⟩:=s_;replace hi:0<=i/\i<=(sp.length:Int)/\yr sp i n:=hi;obtain⟨i0,i1,i2⟩:=hi;cbv)|(refine⟨[1,5,7],[],Int×Int,fun s_=>match s_ with|(j,m)=>[.reg 7 (.j j),.reg 5 (.j m)],fun s_=>match s_ with|(j,m)=>0<=j/\j<=(lg.length:Int)/\yl sp lg j m,fun s_=>match s_ with|(j,m)=>lg.length-j.toNat,⟨(0,n),?_,?_⟩,?_⟩;rotate_left;(focus (cbv;done));intro s_ hj;obtain⟨j,m⟩:=s_;replace hj:0<=j/\j<=(lg.length:Int)/\yl sp lg j m:=hj;obtain⟨j0,j1,j2⟩:=hj;cbv)|(refine ab (O.ar .add .i64 i 1,O.ar .add .i64 n (O.zi (O.ln (F.sclL (O.gi sp i 0) (O.gi sp i 1) (O.gi sp i 2))))) ?_ ?_ ?_;focus (cbv;done))|(refine ab (O.ar .add .i64 j 1,O.ar .add .i64 m (O.gi lg j 2)) ?_ ?_ ?_;focus (cbv;done))
 all_goals exact Rb
namespace Oc2
structure av where
 caOk:aa->Bool
 clsSz:Int->Int
abbrev F0 :av:=⟨caOk,clsSz⟩
def ct (F:av):CT:=fun f ds=>match f,ds with
 |148,[.agg [.s 1 ls]]=>some (fun _=>Bj ls,[.k (F.caOk ls)])
 |125,[.agg [.s 1 ls]]=>some (fun _=>Bj ls,[.k (F.caOk ls)])
 |95,[.one (.v (.int .i64 k))]=>some (fun _=>True,[.j (F.clsSz k)])
 |76,[.one (.v (.int .i64 k))]=>some (fun _=>True,[.j (F.clsSz k)])
 |_,_=>none
theorem ah :aO (ct F0):=by
 intro f ds pre res h hp;unfold ct at h;split at h<;>cases h
 exact j3 hp;exact j7 hp;exact ca hp;exact cp hp
abbrev B :ce:=tb ah
end Oc2
theorem mq {ls:aa}(hp:Bj ls):ap 96 [.agg [.s 1 ls]] [.j (ceC ls)]:=by
 have hw:=hp.w;have hl:=hp.l;refine cb Oc2.B Tryz.func96 ?_
 intro O r F hO hr hF;cbv
 repeat' first|apply And.intro|(apply be<;>intro hb<;>cbv)|(refine⟨[3,10,11,12],[],Int×Int,fun s_=>match s_ with|(i,t)=>[.reg 12 (.j i),.reg 3 (.j t)],fun s_=>match s_ with|(i,t)=>0<=i/\i<=(ls.length:Int)/\wu ls i t,fun s_=>match s_ with|(i,t)=>ls.length-i.toNat,⟨(0,0),?_,?_⟩,?_⟩;rotate_left;(focus (cbv;done));intro s_ hi;obtain⟨i,t⟩:=s_;replace hi:0<=i/\i<=(ls.length:Int)/\wu ls i t:=hi;obtain⟨i0,i1,i2⟩:=hi;cbv)|(refine ab (O.ar .add .i64 i 1,O.ar .add .i64 t (O.ar .mul .i64 (O.zi (O.ln (O.gs ls i 0))) (F.clsSz i))) ?_ ?_ ?_;focus (cbv;done))
 all_goals(subst hO hr hF;(try simp only[nc]at*);(try simp only[ai,SS,sa,az]at*);(try rw[bX (by omega) (by omega)]))
 all_goals first
  | (show(_:List DV)=_
     first
      |exact bJ (Bt i2 (by assumption) i1 (by omega))
      |exact bJ (JA (by assumption)).symm
      |done)
  |omega
  |exact d9
  |exact Eo i2 (by assumption) i0 (by assumption)
  |exact JB
  |done
theorem mK {ls:aa}(hp:Bj ls):ap 88 [.agg [.s 1 ls]] [.j (ceC ls)]:=by
 have hw:=hp.w;have hl:=hp.l;refine cb Oc2.B Tryz.func88 ?_
 intro O r F hO hr hF;cbv
 repeat' first|apply And.intro|(apply be<;>intro hb<;>cbv)|(refine⟨[1,3,4],[1],Int×Int,fun s_=>match s_ with|(i,t)=>[.reg 4 (.j i),.reg 3 (.j t)],fun s_=>match s_ with|(i,t)=>0<=i/\i<=(ls.length:Int)/\wu ls i t/\(i=0\/caOk ls=true),fun s_=>match s_ with|(i,t)=>ls.length-i.toNat,⟨(0,0),?_,?_⟩,?_⟩;rotate_left;(focus (cbv;done));intro s_ hi;obtain⟨i,t⟩:=s_;replace hi:0<=i/\i<=(ls.length:Int)/\wu ls i t/\(i=0\/caOk ls=true):=hi;obtain⟨i0,i1,i2,i3⟩:=hi;cbv)|(refine ab (O.ar .add .i64 i 1,O.ar .add .i64 t (O.ar .mul .i64 (O.zi (O.ln (O.gs ls i 0))) (F.clsSz i))) ?_ ?_ ?_;focus (cbv;done))
 all_goals(subst hO hr hF;(try simp only[nc]at*);(try simp only[ai,SS,sa,az]at*);(try rw[bX (by omega) (by omega)]))
 all_goals first
  | (show(_:List DV)=_
     first
      |exact bJ (Bu i2 i3 i1 (.inl (by omega)))
      |exact bJ (Bu i2 i3 i1 (.inr (by assumption)))
      |done)
  |omega
  |exact d9
  |(show aU _ _=true;kernel_rfl)
  |exact Eo i2 (by assumption) i0 (by assumption)
  |exact JB
  |exact .inr (by assumption)
  |exact .inl trivial
  |done
namespace Oc3
structure av where
 hpI:aa->aa->aa->Int->aa->aa->aa->aa->aa->aa->aa->aa->Int->aa->Int->Int->Int->Int->Bool->Int->Int->aa->Int->Int->Bool
 zlI:aa->Int
 mpT:aa->Int
 ufN:aa->aa->Int
 lcI:aa->aa->Int
 qcI:aa->Int
 clsOf:Int->Int
 clsSz:Int->Int
 ceC:aa->Int
 ifL:aa->aa->aa
 dnK:aa->aa->Int->Int
 dnI:aa->aa->Int->Int
 dnS:aa->Int->Int
 dnO:aa->aa->Int->Int
 spI:aa->Int->Int
abbrev F0 :av:=⟨hpI,zlI,mpT,ufN,lcI,qcI,clsOf,clsSz,ceC,ifL,dnK,dnI,dnS,dnO,spI⟩
def ct (F:av):CT:=fun f ds=>match f with
 | 55=>match ds with
   |[.agg [.s 1 a0,.s 1 a1,.s 2 a2,.v (.int .i64 a3),.s 1 a4,.s 2 a5,.s 3 a6,.s 3 a7,.s 4 a8,.s 1 a9,.s 1 aA,.s 1 aB,.v (.int .i64 aC),.s 3 aD,.v (.int .i64 aE),.v (.int .i64 aF),.v (.int .i64 aG),.v (.int .i64 aH),.v (.bool aI),.v (.int .i64 aJ),.v (.int .i64 aK),.s 1 aL,.v (.int .i64 aM),.v (.int .i64 aN)]]=>some (fun _=>eR a0 a1 a2 a4 a5 a6 a7 a8 a9 aA aB aD aL,[.k (F.hpI a0 a1 a2 a3 a4 a5 a6 a7 a8 a9 aA aB aC aD aE aF aG aH aI aJ aK aL aM aN)])
   |_=>none
 | 44=>match ds with
   |[.agg [.s 1 a0,.s 1 a1,.s 2 a2,.v (.int .i64 a3),.s 1 a4,.s 2 a5,.s 3 a6,.s 3 a7,.s 4 a8,.s 1 a9,.s 1 aA,.s 1 aB,.v (.int .i64 aC),.s 3 aD,.v (.int .i64 aE),.v (.int .i64 aF),.v (.int .i64 aG),.v (.int .i64 aH),.v (.bool aI),.v (.int .i64 aJ),.v (.int .i64 aK),.s 1 aL,.v (.int .i64 aM),.v (.int .i64 aN)]]=>some (fun _=>eR a0 a1 a2 a4 a5 a6 a7 a8 a9 aA aB aD aL,[.k (F.hpI a0 a1 a2 a3 a4 a5 a6 a7 a8 a9 aA aB aC aD aE aF aG aH aI aJ aK aL aM aN)])
   |_=>none
 | 91=>match ds with
   |[.agg [.s 1 a0,.s 1 a1,.s 2 a2,.v (.int .i64 a3),.s 1 a4,.s 2 a5,.s 3 a6,.s 3 a7,.s 4 a8,.s 1 a9,.s 1 aA,.s 1 aB,.v (.int .i64 aC),.s 3 aD,.v (.int .i64 aE),.v (.int .i64 aF),.v (.int .i64 aG),.v (.int .i64 aH),.v (.bool aI),.v (.int .i64 aJ),.v (.int .i64 aK),.s 1 aL,.v (.int .i64 aM),.v (.int .i64 aN)]]=>some (fun _=>a2.length<=1073741824,[.j (F.zlI a2)])
   |_=>none
 | 68=>match ds with
   |[.agg [.s 2 es]]=>some (fun _=>Rw [tI,tI] es/\es.length<=1099511627776,[.j (F.mpT es)])
   |_=>none
 | 66=>match ds with
   |[.agg [.s 2 es]]=>some (fun _=>Rw [tI,tI] es/\es.length<=1099511627776,[.j (F.mpT es)])
   |_=>none
 | 69=>match ds with
   |[.agg [.s 1 cs,.s 1 us]]=>some (fun _=>Rw [.sl [tI]] cs/\Rw [tB] us,[.j (F.ufN cs us)])
   |_=>none
 | 67=>match ds with
   |[.agg [.s 1 cs,.s 1 us]]=>some (fun _=>Rw [.sl [tI]] cs/\Rw [tB] us,[.j (F.ufN cs us)])
   |_=>none
 | 92=>match ds with
   |[.one (.s 3 sp),.one (.s 3 lg)]=>some (fun _=>Rw [tI,tI,tI] sp/\Rw [tI,tI,tI] lg/\sp.length<=1073741824/\lg.length<=1073741824,[.j (F.lcI sp lg)])
   |_=>none
 | 86=>match ds with
   |[.one (.s 3 sp),.one (.s 3 lg)]=>some (fun _=>Rw [tI,tI,tI] sp/\Rw [tI,tI,tI] lg/\sp.length<=1073741824/\lg.length<=1073741824,[.j (F.lcI sp lg)])
   |_=>none
 | 93=>match ds with
   |[.one (.s 3 qs)]=>some (fun _=>Rw [tI,tI,tI] qs/\qs.length<=1073741824,[.j (F.qcI qs)])
   |_=>none
 | 89=>match ds with
   |[.one (.s 3 qs)]=>some (fun _=>Rw [tI,tI,tI] qs/\qs.length<=1073741824,[.j (F.qcI qs)])
   |_=>none
 | 94=>match ds with
   |[.one (.v (.int .i64 s))]=>some (fun _=>True,[.j (F.clsOf s)])
   |_=>none
 | 87=>match ds with
   |[.one (.v (.int .i64 s))]=>some (fun _=>True,[.j (F.clsOf s)])
   |_=>none
 | 95=>match ds with
   |[.one (.v (.int .i64 k))]=>some (fun _=>True,[.j (F.clsSz k)])
   |_=>none
 | 76=>match ds with
   |[.one (.v (.int .i64 k))]=>some (fun _=>True,[.j (F.clsSz k)])
   |_=>none
 | 96=>match ds with
   |[.agg [.s 1 ls]]=>some (fun _=>Bj ls,[.j (F.ceC ls)])
   |_=>none
 | 88=>match ds with
   |[.agg [.s 1 ls]]=>some (fun _=>Bj ls,[.j (F.ceC ls)])
   |_=>none
 | 97=>match ds with
   |[.agg [.s 1 b,.s 1 x]]=>some (fun _=>vI b x,[.one (.s 1 (F.ifL b x))])
   |_=>none
 | 90=>match ds with
   |[.agg [.s 1 b,.s 1 x]]=>some (fun _=>vI b x,[.one (.s 1 (F.ifL b x))])
   |_=>none
 | 98=>match ds with
   |[.one (.s 3 sp),.one (.s 3 lg),.one (.v (.int .i64 a))]=>some (fun _=>Rw [tI,tI,tI] sp/\Rw [tI,tI,tI] lg,[.agg [.i (F.dnK sp lg a),.i (F.dnI sp lg a),.i (F.dnS sp a),.i (F.dnO sp lg a)]])
   |_=>none
 | 73=>match ds with
   |[.agg [.s 1 a0,.s 1 a1,.s 2 a2,.v (.int .i64 a3),.s 1 a4,.s 2 a5,.s 3 a6,.s 3 a7,.s 4 a8,.s 1 a9,.s 1 aA,.s 1 aB,.v (.int .i64 aC),.s 3 aD,.v (.int .i64 aE),.v (.int .i64 aF),.v (.int .i64 aG),.v (.int .i64 aH),.v (.bool aI),.v (.int .i64 aJ),.v (.int .i64 aK),.s 1 aL,.v (.int .i64 aM),.v (.int .i64 aN)],.one (.v (.int .i64 pg))]=>some (fun _=>Rw [tI,tI,tI] a6/\a6.length<=1099511627776,[.j (F.spI a6 pg)])
   |_=>none
 |_=>none
theorem ah :aO (ct F0):=by
 intro f ds pre res h hp;unfold ct at h;split at h<;>(try split at h)<;>cases h
 exact cK hp;exact dE hp;exact sg hp;exact gh hp;exact gx hp;exact gS hp;exact gT hp;exact nU hp;exact oA hp;exact ir hp;exact jG hp;exact j4 hp;exact j8 hp;exact ca hp;exact cp hp;exact mq hp;exact mK hp;exact jy hp;exact jD hp;exact gn hp;exact fq hp
abbrev B :ce:=tb ah
end Oc3
theorem nS {a0 a1 a2:aa}{a3:Int}{a4 a5 a6 a7 a8 a9 aA aB:aa}{aC:Int}{aD:aa}{aE aF aG aH:Int}{aI:Bool}{aJ aK:Int}{aL:aa}{aM aN:Int}(hp:eR a0 a1 a2 a4 a5 a6 a7 a8 a9 aA aB aD aL):ap 27 [.agg (ez a0 a1 a2 a3 a4 a5 a6 a7 a8 a9 aA aB aC aD aE aF aG aH aI aJ aK aL aM aN)] [.agg [.i (ifZ (hpI a0 a1 a2 a3 a4 a5 a6 a7 a8 a9 aA aB aC aD aE aF aG aH aI aJ aK aL aM aN) (zlI a2)),.i (ifZ (hpI a0 a1 a2 a3 a4 a5 a6 a7 a8 a9 aA aB aC aD aE aF aG aH aI aJ aK aL aM aN) (mpT a2)),.i (ifZ (hpI a0 a1 a2 a3 a4 a5 a6 a7 a8 a9 aA aB aC aD aE aF aG aH aI aJ aK aL aM aN) (ufN a0 a1)),.i (ifZ (hpI a0 a1 a2 a3 a4 a5 a6 a7 a8 a9 aA aB aC aD aE aF aG aH aI aJ aK aL aM aN) (lcI a6 a7)),.i (ifZ (hpI a0 a1 a2 a3 a4 a5 a6 a7 a8 a9 aA aB aC aD aE aF aG aH aI aJ aK aL aM aN) (ocT a8)),.i (ifZ (hpI a0 a1 a2 a3 a4 a5 a6 a7 a8 a9 aA aB aC aD aE aF aG aH aI aJ aK aL aM aN) (acT a9)),.i (ifZ (hpI a0 a1 a2 a3 a4 a5 a6 a7 a8 a9 aA aB aC aD aE aF aG aH aI aJ aK aL aM aN) (qcI aD)),.i (ifZ (hpI a0 a1 a2 a3 a4 a5 a6 a7 a8 a9 aA aB aC aD aE aF aG aH aI aJ aK aL aM aN) (poT a6 a7 aA aB))]]:=by
 have N:=hp.n;have how:=N.ow;have hcw:=N.cw;have hsw:=N.sw;have hfw:=yN N.m;have hol:=N.ol;have hlc:=fx (es:=a9);have hcl:=N.cl;have hel:=hp.el;have w5:=tH (b:=aA) (x:=aB);refine cb Oc3.B Tryz.func27 ?_
 intro O r F hO hr hF;cbv
 repeat' first|apply And.intro|(apply be<;>intro hb<;>cbv)|(refine⟨[1,2,3,38,39,40],[1,2,3],Int×Int,fun s_=>match s_ with|(i,t)=>[.reg 40 (.j i),.leaf 3 4 ⟨0,0,none,.own (.i t)⟩],fun s_=>match s_ with|(i,t)=>0<=i/\i<=(a8.length:Int)/\Hc a8 i t,fun s_=>match s_ with|(i,t)=>a8.length-i.toNat,⟨(0,0),?_,?_⟩,?_⟩;rotate_left;(focus (cbv;done));intro s_ hi;obtain⟨i,t⟩:=s_;replace hi:0<=i/\i<=(a8.length:Int)/\Hc a8 i t:=hi;obtain⟨i0,i1,i2⟩:=hi;cbv)|(refine⟨[1,2,3,63,64,65],[1,2,3],Int×Int,fun s_=>match s_ with|(j,u)=>[.reg 65 (.j j),.leaf 3 5 ⟨0,0,none,.own (.i u)⟩],fun s_=>match s_ with|(j,u)=>0<=j/\j<=(a9.length:Int)/\I8 a9 j u,fun s_=>match s_ with|(j,u)=>a9.length-j.toNat,⟨(0,0),?_,?_⟩,?_⟩;rotate_left;(focus (cbv;done));intro s_ hj;obtain⟨j,u⟩:=s_;replace hj:0<=j/\j<=(a9.length:Int)/\I8 a9 j u:=hj;obtain⟨j0,j1,j2⟩:=hj;cbv)|(refine⟨[1,2,3,78,79,80],[1,2,3,78],Int×Int,fun s_=>match s_ with|(k,v)=>[.reg 80 (.j k),.leaf 3 7 ⟨0,0,none,.own (.i v)⟩],fun s_=>match s_ with|(k,v)=>0<=k/\k<=((ifL aA aB).length:Int)/\Jj a6 a7 (ifL aA aB) k v,fun s_=>match s_ with|(k,v)=>(ifL aA aB).length-k.toNat,⟨(0,0),?_,?_⟩,?_⟩;rotate_left;(focus (cbv;done));intro s_ hk;obtain⟨k,v⟩:=s_;replace hk:0<=k/\k<=((ifL aA aB).length:Int)/\Jj a6 a7 (ifL aA aB) k v:=hk;obtain⟨k0,k1,k2⟩:=hk;cbv)|(refine ab (O.ar .add .i64 i 1,O.ar .add .i64 t (F.clsSz (F.clsOf (O.gi a8 i 2)))) ?_ ?_ ?_;focus (cbv;done))|(refine ab (O.ar .add .i64 i 1,O.ar .add .i64 t (O.gi a8 i 2)) ?_ ?_ ?_;focus (cbv;done))|(refine ab (O.ar .add .i64 j 1,O.ar .add .i64 u (F.ceC (O.gs a9 j 0))) ?_ ?_ ?_;focus (cbv;done))|(refine ab (O.ar .add .i64 k 1,O.ar .add .i64 v (F.clsSz (O.gi a6 (F.dnI a6 a7 (O.pi (.s 1 (F.ifL aA aB)) [(O.ad 0 k,0)])) 1))) ?_ ?_ ?_;focus (cbv;done))
 all_goals(subst hO hr hF;(try simp only[nc]at*);(try simp only[ai,SS,sa,az]at*);(try rw[bX (by omega) (by omega)]);(try simp only[fP k0]at*);(try have hok:hpI a0 a1 a2 a3 a4 a5 a6 a7 a8 a9 aA aB aC aD aE aF aG aH aI aJ aK aL aM aN=true:=(by assumption));(try have T:=pC hok);(try have B:=xt N.ow (by omega) hok);(try have fa:=KB (Dj T.l) T.h k0 (by assumption)))
 all_goals first
  | (show(_:List DV)=_
     first
      |(have z:hpI a0 a1 a2 a3 a4 a5 a6 a7 a8 a9 aA aB aC aD aE aF aG aH aI aJ aK aL aM aN=false:=(by assumption);exact Bn (fS z).symm (fS z).symm (fS z).symm (fS z).symm (fS z).symm (fS z).symm (fS z).symm (fS z).symm)
      |exact Bn (fT hok).symm (fT hok).symm (fT hok).symm (fT hok).symm ((Cj i2 i1 (by omega)).trans (fT hok).symm) ((Bo j2 j1 (by omega)).trans (fT hok).symm) (fT hok).symm ((Ct k2 k1 (by omega)).trans (fT hok).symm)
      |done)
  |omega
  |exact d9
  |(show aU _ _=true;kernel_rfl)
  |exact⟨hp.e,by omega⟩
  |exact⟨hp.c,hp.u⟩
  |exact⟨N.sw,N.lw,N.sl,N.ll⟩
  |exact⟨N.qw,N.ql⟩
  |exact N.m
  |exact⟨N.sw,N.lw⟩
  |exact N.c.n j j0 (by assumption)
  |exact Ck B hol i2 i0 (by assumption) (by assumption)
  |exact FP B hol i2 i0 (by assumption) (by omega)
  |exact Ki
  |exact DZ j2 j0 (by omega)
  |exact Jo
  |exact lH hfw k0 (by assumption)
  |exact Gl k2 k0 (by omega)
  |exact KC
  |done
theorem oy {a0 a1 a2:aa}{a3:Int}{a4 a5 a6 a7 a8 a9 aA aB:aa}{aC:Int}{aD:aa}{aE aF aG aH:Int}{aI:Bool}{aJ aK:Int}{aL:aa}{aM aN:Int}(hp:eR a0 a1 a2 a4 a5 a6 a7 a8 a9 aA aB aD aL):ap 26 [.agg (ez a0 a1 a2 a3 a4 a5 a6 a7 a8 a9 aA aB aC aD aE aF aG aH aI aJ aK aL aM aN)] [.agg [.i (ifZ (hpI a0 a1 a2 a3 a4 a5 a6 a7 a8 a9 aA aB aC aD aE aF aG aH aI aJ aK aL aM aN) (zlI a2)),.i (ifZ (hpI a0 a1 a2 a3 a4 a5 a6 a7 a8 a9 aA aB aC aD aE aF aG aH aI aJ aK aL aM aN) (mpT a2)),.i (ifZ (hpI a0 a1 a2 a3 a4 a5 a6 a7 a8 a9 aA aB aC aD aE aF aG aH aI aJ aK aL aM aN) (ufN a0 a1)),.i (ifZ (hpI a0 a1 a2 a3 a4 a5 a6 a7 a8 a9 aA aB aC aD aE aF aG aH aI aJ aK aL aM aN) (lcI a6 a7)),.i (ifZ (hpI a0 a1 a2 a3 a4 a5 a6 a7 a8 a9 aA aB aC aD aE aF aG aH aI aJ aK aL aM aN) (ocT a8)),.i (ifZ (hpI a0 a1 a2 a3 a4 a5 a6 a7 a8 a9 aA aB aC aD aE aF aG aH aI aJ aK aL aM aN) (acT a9)),.i (ifZ (hpI a0 a1 a2 a3 a4 a5 a6 a7 a8 a9 aA aB aC aD aE aF aG aH aI aJ aK aL aM aN) (qcI aD)),.i (ifZ (hpI a0 a1 a2 a3 a4 a5 a6 a7 a8 a9 aA aB aC aD aE aF aG aH aI aJ aK aL aM aN) (poT a6 a7 aA aB))]]:=by
 have N:=hp.n;have how:=N.ow;have hcw:=N.cw;have hsw:=N.sw;have hfw:=yN N.m;have hol:=N.ol;have hlc:=fx (es:=a9);have hcl:=N.cl;have hel:=hp.el;have w5:=tH (b:=aA) (x:=aB);refine cb Oc3.B Tryz.func26 ?_
 intro O r F hO hr hF;cbv
 repeat' first|apply And.intro|(apply be<;>intro hb<;>cbv)|(refine⟨[1,2,4,5],[1,2,4],Int×Int,fun s_=>match s_ with|(i,t)=>[.reg 5 (.j i),.leaf 4 4 ⟨0,0,none,.own (.i t)⟩],fun s_=>match s_ with|(i,t)=>0<=i/\i<=(a8.length:Int)/\Hc a8 i t,fun s_=>match s_ with|(i,t)=>a8.length-i.toNat,⟨(0,0),?_,?_⟩,?_⟩;rotate_left;(focus (cbv;done));intro s_ hi;obtain⟨i,t⟩:=s_;replace hi:0<=i/\i<=(a8.length:Int)/\Hc a8 i t:=hi;obtain⟨i0,i1,i2⟩:=hi;cbv)|(refine⟨[1,2,4,7],[1,2,4],Int×Int,fun s_=>match s_ with|(j,u)=>[.reg 7 (.j j),.leaf 4 5 ⟨0,0,none,.own (.i u)⟩],fun s_=>match s_ with|(j,u)=>0<=j/\j<=(a9.length:Int)/\I8 a9 j u,fun s_=>match s_ with|(j,u)=>a9.length-j.toNat,⟨(0,0),?_,?_⟩,?_⟩;rotate_left;(focus (cbv;done));intro s_ hj;obtain⟨j,u⟩:=s_;replace hj:0<=j/\j<=(a9.length:Int)/\I8 a9 j u:=hj;obtain⟨j0,j1,j2⟩:=hj;cbv)|(refine⟨[1,2,4,8,9],[1,2,4,8],Int×Int,fun s_=>match s_ with|(k,v)=>[.reg 9 (.j k),.leaf 4 7 ⟨0,0,none,.own (.i v)⟩],fun s_=>match s_ with|(k,v)=>0<=k/\k<=((ifL aA aB).length:Int)/\Jj a6 a7 (ifL aA aB) k v,fun s_=>match s_ with|(k,v)=>(ifL aA aB).length-k.toNat,⟨(0,0),?_,?_⟩,?_⟩;rotate_left;(focus (cbv;done));intro s_ hk;obtain⟨k,v⟩:=s_;replace hk:0<=k/\k<=((ifL aA aB).length:Int)/\Jj a6 a7 (ifL aA aB) k v:=hk;obtain⟨k0,k1,k2⟩:=hk;cbv)|(refine ab (O.ar .add .i64 i 1,O.ar .add .i64 t (F.clsSz (F.clsOf (O.gi a8 i 2)))) ?_ ?_ ?_;focus (cbv;done))|(refine ab (O.ar .add .i64 i 1,O.ar .add .i64 t (O.gi a8 i 2)) ?_ ?_ ?_;focus (cbv;done))|(refine ab (O.ar .add .i64 j 1,O.ar .add .i64 u (F.ceC (O.gs a9 j 0))) ?_ ?_ ?_;focus (cbv;done))|(refine ab (O.ar .add .i64 k 1,O.ar .add .i64 v (F.clsSz (O.gi a6 (F.spI a6 (O.ar .quo .i64 (O.pi (.s 1 (F.ifL aA aB)) [(O.ad 0 k,0)]) 16)) 1))) ?_ ?_ ?_;focus (cbv;done))
 all_goals(subst hO hr hF;(try simp only[nc]at*);(try simp only[ai,SS,sa,az]at*);(try rw[bX (by omega) (by omega)]);(try simp only[fP k0]at*);(try have hok:hpI a0 a1 a2 a3 a4 a5 a6 a7 a8 a9 aA aB aC aD aE aF aG aH aI aJ aK aL aM aN=true:=(by assumption));(try have T:=pC hok);(try have B:=xt N.ow (by omega) hok);(try have fa:=KB (Dj T.l) T.h k0 (by assumption));(try simp only[fa.2.2.1]at*))
 all_goals first
  | (show(_:List DV)=_
     first
      |(have z:hpI a0 a1 a2 a3 a4 a5 a6 a7 a8 a9 aA aB aC aD aE aF aG aH aI aJ aK aL aM aN=false:=(by assumption);exact Bn (fS z).symm (fS z).symm (fS z).symm (fS z).symm (fS z).symm (fS z).symm (fS z).symm (fS z).symm)
      |exact Bn (fT hok).symm (fT hok).symm (fT hok).symm (fT hok).symm ((Cj i2 i1 (by omega)).trans (fT hok).symm) ((Bo j2 j1 (by omega)).trans (fT hok).symm) (fT hok).symm ((Ct k2 k1 (by omega)).trans (fT hok).symm)
      |done)
  |omega
  |exact d9
  |(show aU _ _=true;kernel_rfl)
  |exact⟨hp.e,by omega⟩
  |exact⟨hp.c,hp.u⟩
  |exact⟨N.sw,N.lw,N.sl,N.ll⟩
  |exact⟨N.qw,N.ql⟩
  |exact N.m
  |exact⟨N.sw,by have:=N.sl;omega⟩
  |exact N.c.n j j0 (by assumption)
  |exact Ck B hol i2 i0 (by assumption) (by assumption)
  |exact FP B hol i2 i0 (by assumption) (by omega)
  |exact Ki
  |exact DZ j2 j0 (by omega)
  |exact Jo
  |exact lH hfw k0 (by assumption)
  |exact Gl k2 k0 (by omega)
  |exact KC
  |exact⟨True.intro,True.intro⟩
  |done
end Go.V