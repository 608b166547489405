/- Contracts. -/
import Derived.Test.YtbedjnlfdopeeaaGreatXHoAu
import Derived.Test.YtbedjnlfdopeeaaGreatXLayPu
set_option linter.all false
open Go
open And renaming intro->Zb
open IntKind renaming i64->Za
open List renaming length_set->Z6,mem_of_getElem?->Zs,length_append->Zg,length_cons->Zq,length_nil->Zz
open True renaming intro->Zk
namespace Go.V
open Go Go.Proofs
set_option maxRecDepth 1000000
set_option maxHeartbeats 8000000
namespace Ka0
structure aP where
 kerOk:aa->aa->aa->Int->aa->Bool
 peM:aa->Int->Int
 peF:aa->Int->Int
abbrev F0:aP:=⟨kerOk,peM,peF⟩
def ct (F:aP):CT:=fun f ds=>match f,ds with
 |124,[.agg [.s 1 cs,.s 1 us,.s 2 es,.v (.int Za c),.s 1 rs]]=>some (fun _=>Rw [.sl [tI]] cs/\Rw [tB] us/\Rw [tI,tI] es/\Rw [tI] rs,[.k (F.kerOk cs us es c rs)])
 |164,[.agg [.s 1 cs,.s 1 us,.s 2 es,.v (.int Za c),.s 1 rs]]=>some (fun _=>Rw [.sl [tI]] cs/\Rw [tB] us/\Rw [tI,tI] es/\Rw [tI] rs,[.k (F.kerOk cs us es c rs)])
 |181,[.agg [.s 2 es],.one (.v (.int Za p))]=>some (fun _=>Rw [tI,tI] es,[.agg [.i (F.peM es p),.i (F.peF es p)]])
 |_,_=>none
theorem aj:aT (ct F0):=by
 intro f ds pre res h hp;unfold ct at h;split at h<;>cases h
 exact jD hp;exact jJ hp;exact iL hp
abbrev B:cF:=tb aj
end Ka0
theorem sN {cs us es:aa}{c:Int}{rs:aa}(hp:Rw [.sl [tI]] cs/\Rw [tB] us/\Rw [tI,tI] es/\Rw [tI] rs):ap 279 [.agg [.s 1 cs,.s 1 us,.s 2 es,.i c,.s 1 rs]] [.k (ccB cs us es c rs)]:=by
 refine cb Ka0.B Tryz.func279 ?_
 intro O r F hO hr hF;cbv
 repeat' first|apply Zb|(apply bu<;>intro hb<;>cbv)
 all_goals(subst hO hr hF;(try simp only[nc]at*);(try simp only[ak,SS,sa,az]at*))
 all_goals first
  | (show(_:List DV)=_
     first
      |exact ai (OS (by omega)).symm
      |exact ai (OU (by omega)).symm
      |done)
  |exact hp
  |(show aV _ _=true;kernel_rfl)
  |done
theorem wA {cs us es:aa}{c:Int}{rs:aa}(hp:Rw [.sl [tI]] cs/\Rw [tB] us/\Rw [tI,tI] es/\Rw [tI] rs):ap 72 [.agg [.s 1 cs,.s 1 us,.s 2 es,.i c,.s 1 rs]] [.k (ccB cs us es c rs)]:=by
 refine cb Ka0.B Tryz.func72 ?_
 intro O r F hO hr hF;cbv
 repeat' first|apply Zb|(apply bu<;>intro hb<;>cbv)
 all_goals(subst hO hr hF;(try simp only[nc]at*);(try simp only[ak,SS,sa,az]at*))
 all_goals first
  | (show(_:List DV)=_
     first
      |exact ai (OV (by assumption)).symm
      |exact ai (OW (by assumption))
      |done)
  |exact hp
  |(show aV _ _=true;kernel_rfl)
  |done
theorem tM {cs us es:aa}{c:Int}{rs:aa}{p:Int}(hp:Rw [tI,tI] es):ap 336 [.ptr [.s 1 cs,.s 1 us,.s 2 es,.i c,.s 1 rs],.j p] [.j (peM es p)]:=by
 refine cb Ka0.B Tryz.func336 ?_
 intro O r F hO hr hF;cbv
 repeat' first|apply Zb|(apply bu<;>intro hb<;>cbv)
 all_goals(subst hO hr hF;(try simp only[nc]at*);(try simp only[ak,SS,sa,az]at*))
 all_goals first|(show(_:List DV)=_;exact rfl)|exact hp|(show aV _ _=true;kernel_rfl)|done
namespace Ka1
structure aP where
 pagesOn:aa->Int->aa
abbrev F0:aP:=⟨pagesOn⟩
def ct (F:aP):CT:=fun f ds=>match f,ds with
 |315,[.agg [.s 2 es],.one (.v (.int Za f))]=>some (fun _=>Rw [tI,tI] es/\es.length<=1099511627776,[.one (.s 1 (F.pagesOn es f))])
 |331,[.agg [.s 2 es],.one (.v (.int Za f))]=>some (fun _=>Rw [tI,tI] es/\es.length<=1099511627776,[.one (.s 1 (F.pagesOn es f))])
 |_,_=>none
theorem aj:aT (ct F0):=by
 intro f ds pre res h hp;unfold ct at h;split at h<;>cases h
 exact gq hp;exact gB hp
abbrev B:cF:=tb aj
end Ka1
theorem sR {cs us es:aa}{c:Int}{rs:aa}{f:Int}(hp:Rw [.sl [tI]] cs/\Rw [tB] us/\Rw [tI,tI] es/\es.length<=1099511627776/\0<=f/\f<cs.length/\us.length=cs.length):jV 280 [.mp [.own (.s 1 cs),.own (.s 1 us),.own (.s 2 es),.own (.i c),.own (.s 1 rs)],.j f] [[.own (.s 1 (dfC cs es f)),.own (.s 1 (dfU us es f)),.own (.s 2 es),.own (.i c),.own (.s 1 rs)]] []:=by
 obtain⟨wc,wu,we,el,f0,f1,ul⟩:=hp;refine pb Ka1.B Tryz.func280 ?_
 exact SC
theorem tL {cs us es:aa}{c:Int}{rs:aa}{f:Int}(hp:Rw [.sl [tI]] cs/\Rw [tB] us/\Rw [tI,tI] es/\es.length<=1099511627776/\0<=f/\f<cs.length/\us.length=cs.length):jV 337 [.mp [.own (.s 1 cs),.own (.s 1 us),.own (.s 2 es),.own (.i c),.own (.s 1 rs)],.j f] [[.own (.s 1 (dfC cs es f)),.own (.s 1 (dfU us es f)),.own (.s 2 es),.own (.i c),.own (.s 1 rs)]] []:=by
 obtain⟨wc,wu,we,el,f0,f1,ul⟩:=hp;refine pb Ka1.B Tryz.func337 ?_
 exact SC
namespace Ka2
structure aP where
 ccB:aa->aa->aa->Int->aa->Bool
 mapB:aa->Int->Bool
 dfC:aa->aa->Int->aa
 dfU:aa->aa->Int->aa
abbrev F0:aP:=⟨ccB,mapB,dfC,dfU⟩
def ct (F:aP):CT:=fun f ds=>match f,ds with
 |118,[.agg [.s 1 cs,.s 1 us,.s 2 es,.v (.int Za c),.s 1 rs]]=>some (fun _=>Rw [.sl [tI]] cs/\Rw [tB] us/\Rw [tI,tI] es/\Rw [tI] rs/\ah cs<=1099511627776/\ah us<=1099511627776/\ah es<=1099511627776/\ah rs<=1099511627776,[.agg [.s 1 cs,.s 1 us,.s 2 es,.i c,.s 1 rs]])
 |279,[.agg [.s 1 cs,.s 1 us,.s 2 es,.v (.int Za c),.s 1 rs]]=>some (fun _=>Rw [.sl [tI]] cs/\Rw [tB] us/\Rw [tI,tI] es/\Rw [tI] rs,[.k (F.ccB cs us es c rs)])
 |230,[.agg [.s 1 a0,.s 1 a1,.s 2 a2,.v (.int Za a3),.s 1 a4],.one (.v (.int Za p))]=>some (fun _=>Rw [tI,tI] a2,[.k (F.mapB a2 p)])
 |_,_=>none
theorem aj:aT (ct F0):=by
 intro f ds pre res h hp;unfold ct at h;split at h<;>cases h
 exact hE hp;exact sN hp;exact lG hp
def pt (F:aP):PT:=fun f=>match f with
 | 280=>some fun ds=>match ds with
   |[.mp [.own (.s 1 cs),.own (.s 1 us),.own (.s 2 es),.own (.v (.int Za c)),.own (.s 1 rs)],.one (.v (.int Za f))]=>some (fun _=>Rw [.sl [tI]] cs/\Rw [tB] us/\Rw [tI,tI] es/\es.length<=1099511627776/\0<=f/\f<cs.length/\us.length=cs.length,[[.own (.s 1 (F.dfC cs es f)),.own (.s 1 (F.dfU us es f)),.own (.s 2 es),.own (.i c),.own (.s 1 rs)]],[])
   |_=>none
 |_=>none
theorem gJ:pE (pt F0):=by
 intro f mk h ds pre outs res hm hp;unfold pt at h;split at h
 ·cases h;dsimp only at hm;split at hm
  ·cases hm;exact sR hp
  ·cases hm
 ·cases h
abbrev B:cF:={Φ:=aP,F0:=F0,ct:=ct,hc:=aj,pt:=pt,hp:=gJ}
end Ka2
theorem vR {cs us es:aa}{c:Int}{rs:aa}{p:Int}(hp:Rw [.sl [tI]] cs/\Rw [tB] us/\Rw [tI,tI] es/\Rw [tI] rs/\ah cs<=1099511627776/\ah us<=1099511627776/\ah es<=1099511627776/\ah rs<=1099511627776):ap 190 [.agg [.s 1 cs,.s 1 us,.s 2 es,.i c,.s 1 rs],.j p] [.agg [.s 1 (ktC (ccB cs us es c rs) cs es p),.s 1 (ktU (ccB cs us es c rs) us es p),.s 2 (ktE (ccB cs us es c rs) es p),.i c,.s 1 rs],.k (ktB (ccB cs us es c rs) es p)]:=by
 obtain⟨wc,wu,we,wr,c1,c2,c3,c4⟩:=hp;have l3:=aO (es:=es);refine cb Ka2.B Tryz.func190 ?_
 intro O r F hO hr hF;cbv
 repeat' first|apply Zb|(apply bu<;>intro hb<;>cbv)
 all_goals(subst hO hr hF;(try simp only[nc]at*);(try simp only[ak,SS,sa,az]at*);(try have mp:mapB es p=true:=(by assumption));(try have at_:=yy mp);(try have p0:=at_.1.1);(try have p1:=at_.1.2);(try simp only[jm (l:=es) (sz:=2) (j:=1) (i:=p) p0]at*);(try have cc:=JZ (cs:=cs) (us:=us) (es:=es) (c:=c) (rs:=rs) (by assumption));(try have km:=(pN cc.2).1);(try have fr:=Db km mp);(try have ul:=km.u);(try have um:=Li we at_.1.1 at_.1.2);(try simp only[um]at*);(try have rm:=(show Rw [tI,tI] (xL es p)from Je (m:=0) (f:=0) we (by omega) (by omega)));(try have ll:(xL es p).length=es.length:=Z6))
 all_goals first
  | (show(_:List DV)=_
     first
      |(have q:=P8 (k:=ccB cs us es c rs) (cs:=cs) (us:=us) (es:=es) (p:=p) (by assumption);first|(rw[q.1,q.2.1,q.2.2.1,q.2.2.2];done)|(rw[q.1,q.2.1,q.2.2.1,q.2.2.2];exact rfl))
      |(have q:=T9 (k:=ccB cs us es c rs) (cs:=cs) (us:=us) (es:=es) (p:=p) (by assumption);first|(rw[q.1,q.2.1,q.2.2.1,q.2.2.2];done)|(rw[q.1,q.2.1,q.2.2.1,q.2.2.2];exact rfl))
      |(have q:=P9 (k:=ccB cs us es c rs) (cs:=cs) (us:=us) (es:=es) (p:=p) (by assumption);have z:=Qc (cs:=cs) (us:=us) mp;first|(rw[q.1,q.2.1,q.2.2.1,q.2.2.2,z.1,z.2.1,z.2.2,mp,at_.2.2.1];done)|(rw[q.1,q.2.1,q.2.2.1,q.2.2.2,z.1,z.2.1,z.2.2,mp,at_.2.2.1];exact rfl))
      |done)
  |omega
  |exact⟨wc,wu,we,wr,c1,c2,c3,c4⟩
  |exact⟨wc,wu,we,wr⟩
  |exact we
  |exact⟨wc,wu,rm,by omega,fr.1,fr.2,ul⟩
  |exact RZ we at_.1.1 at_.1.2 (by decide)
  |exact MQ we at_.1.1 at_.1.2 (by decide)
  |exact Ld we p0 p1
  |(show aV _ _=true;kernel_rfl)
  |exact eF
  |exact⟨Zk,Zk⟩
  |exact Zk
  |done
namespace Ka3
structure aP where
 peM:aa->Int->Int
 dfC:aa->aa->Int->aa
 dfU:aa->aa->Int->aa
abbrev F0:aP:=⟨peM,dfC,dfU⟩
def ct (F:aP):CT:=fun f ds=>match f,ds with
 |336,[.ptr [.s 1 cs,.s 1 us,.s 2 es,.v (.int Za c),.s 1 rs],.one (.v (.int Za p))]=>some (fun _=>Rw [tI,tI] es,[.j (F.peM es p)])
 |_,_=>none
theorem aj:aT (ct F0):=by
 intro f ds pre res h hp;unfold ct at h;split at h<;>cases h
 exact tM hp
def pt (F:aP):PT:=fun f=>match f with
 | 337=>some fun ds=>match ds with
   |[.mp [.own (.s 1 cs),.own (.s 1 us),.own (.s 2 es),.own (.v (.int Za c)),.own (.s 1 rs)],.one (.v (.int Za f))]=>some (fun _=>Rw [.sl [tI]] cs/\Rw [tB] us/\Rw [tI,tI] es/\es.length<=1099511627776/\0<=f/\f<cs.length/\us.length=cs.length,[[.own (.s 1 (F.dfC cs es f)),.own (.s 1 (F.dfU us es f)),.own (.s 2 es),.own (.i c),.own (.s 1 rs)]],[])
   |_=>none
 |_=>none
theorem gJ:pE (pt F0):=by
 intro f mk h ds pre outs res hm hp;unfold pt at h;split at h
 ·cases h;dsimp only at hm;split at hm
  ·cases hm;exact tL hp
  ·cases hm
 ·cases h
abbrev B:cF:={Φ:=aP,F0:=F0,ct:=ct,hc:=aj,pt:=pt,hp:=gJ}
end Ka3
theorem rE {cs us es:aa}{c:Int}{rs:aa}{p:Int}(hp:Rw [.sl [tI]] cs/\Rw [tB] us/\Rw [tI,tI] es/\Rw [tI] rs/\vM cs us es):jV 274 [.mp [.own (.s 1 cs),.own (.s 1 us),.own (.s 2 es),.own (.i c),.own (.s 1 rs)],.j p] [[.own (.s 1 (kuC cs es p)),.own (.s 1 (kuU us es p)),.own (.s 2 (kuE es p)),.own (.i c),.own (.s 1 rs)]] [.k (mapB es p)]:=by
 obtain⟨wc,wu,we,wr,km⟩:=hp;have e1:=km.e1;refine pb Ka3.B Tryz.func274 ?_
 intro O r os F hO hr hos hF;cbv
 repeat' first|apply Zb|(apply bu<;>intro hb<;>cbv)
 all_goals((try subst hos);subst hO hr hF;(try simp only[nc]at*);(try simp only[ak,SS,sa,az]at*);(try have mp:mapB es p=true:=aa0 (by assumption));(try have at_:=yy mp);(try have p0:=at_.1.1);(try have p1:=at_.1.2);(try simp only[jm (l:=es) (sz:=2) (j:=1) (i:=p) p0]at*);(try have fr:=Db km mp);(try have ul:=km.u);(try have um:=Li we at_.1.1 at_.1.2);(try simp only[um]at*);(try have rm:=(show Rw [tI,tI] (xL es p)from Je (m:=0) (f:=0) we (by omega) (by omega)));(try have ll:(xL es p).length=es.length:=Z6))
 all_goals first
  | (show(_:List DV)=_
     first
      |exact ai (show false=mapB es p from(aa1 (fun n=>n (by assumption))).symm)
      |exact ai mp.symm
      |done)
  | (show(_:List H)=_
     first
      |(have z:=Qa (cs:=cs) (us:=us) (es:=es) (p:=p) (aa1 (fun n=>n (by assumption)));first|(rw[z.1,z.2.1,z.2.2];done)|(rw[z.1,z.2.1,z.2.2];exact rfl))
      |(have z:=Qc (cs:=cs) (us:=us) mp;first|(rw[z.1,z.2.1,z.2.2,at_.2.2.1];done)|(rw[z.1,z.2.1,z.2.2,at_.2.2.1];exact rfl))
      |done)
  |omega
  |exact we
  |exact⟨wc,wu,rm,by omega,fr.1,fr.2,ul⟩
  |exact MQ we at_.1.1 at_.1.2 (by decide)
  |exact Ld we p0 p1
  |(show aV _ _=true;kernel_rfl)
  |exact eF
  |exact⟨Zk,Zk⟩
  |exact Zk
  |done
namespace Ka4
structure aP where
 rgOk:Int->aa->Bool
 rngIn:Int->Int->Int->Bool
abbrev F0:aP:=⟨rgOk,rngIn⟩
def ct (F:aP):CT:=fun f ds=>match f,ds with
 |125,[.one (.v (.int Za n)),.one (.s 2 rs)]=>some (fun _=>0<=n/\n<=1099511627776/\Rw [tI,tI] rs/\rs.length<=1099511627776,[.k (F.rgOk n rs)])
 |225,[.one (.v (.int Za n)),.agg [.v (.int Za a),.v (.int Za l)]]=>some (fun _=>0<=n/\n<=1099511627776,[.k (F.rngIn n a l)])
 |119,[.one (.s 2 es)]=>some (fun _=>Rw [tI,tI] es/\es.length<=1099511627776,[.one (.s 2 es)])
 |165,[.one (.v (.int Za n)),.one (.s 2 rs)]=>some (fun _=>0<=n/\n<=1099511627776/\Rw [tI,tI] rs/\rs.length<=1099511627776,[.k (F.rgOk n rs)])
 |258,[.one (.v (.int Za n)),.agg [.v (.int Za a),.v (.int Za l)]]=>some (fun _=>0<=n/\n<=1099511627776,[.k (F.rngIn n a l)])
 |_,_=>none
theorem aj:aT (ct F0):=by
 intro f ds pre res h hp;unfold ct at h;split at h<;>cases h
 exact jG hp;exact j5 hp;exact hH hp;exact fV hp;exact iX hp
abbrev B:cF:=tb aj
end Ka4
theorem qj {n:Int}{rs:aa}{a l:Int}(hp:0<=n/\n<=1099511627776/\Rw [tI,tI] rs/\rs.length<=1073741824):ap 191 [.j n,.one (.s 2 rs),.agg [.i a,.i l]] [.one (.s 2 (rpL n rs a l)),.k (rpB n rs a l)]:=by
 obtain⟨n0,n1,wr,hl⟩:=hp;refine cb Ka4.B Tryz.func191 ?_
 intro O r F hO hr hF;cbv
 repeat' first|apply Zb|(apply bu<;>intro hb<;>cbv)|(refine⟨[1,5,8,9,25,26,27],[5,8],Int×aa×Int×Int×Bool,fun s_=>match s_ with|(i,o,x,y,d)=>[.reg 27 (.j i),.reg 9 (.k d),.reg 8 (.one (.vw 8 0 0 0 (O.ln o))),.leaf 8 0 ⟨0,0,none,.own (.s 2 o)⟩,.leaf 5 0 ⟨0,0,none,.own (.i x)⟩,.leaf 5 1 ⟨0,0,none,.own (.i y)⟩],fun s_=>match s_ with|(i,o,x,y,d)=>0<=i/\i<=(rs.length:Int)/\Bh rs a l i o x y d/\o.length<=2*i.toNat,fun s_=>match s_ with|(i,o,x,y,d)=>rs.length-i.toNat,⟨(0,[],a,l,false),?_,?_⟩,?_⟩;rotate_left;(focus (cbv;done));intro s_ hi;obtain⟨i,o,x,y,d⟩:=s_;replace hi:0<=i/\i<=(rs.length:Int)/\Bh rs a l i o x y d/\o.length<=2*i.toNat:=hi;obtain⟨i0,i1,i2,i3⟩:=hi;cbv)|(refine ab (O.ar .add Za i 1,o,O.gi rs i 0,O.ar .add Za (O.gi rs i 1) y,d) ?_ ?_ ?_;focus (cbv;done))|(refine ab (O.ar .add Za i 1,o,x,O.ar .add Za y (O.gi rs i 1),d) ?_ ?_ ?_;focus (cbv;done))|(refine ab (O.ar .add Za i 1,O.cat o (O.sub [[.i x,.i y],[.i (O.gi rs i 0),.i (O.gi rs i 1)]] 0 (O.ln [[.i x,.i y],[.i (O.gi rs i 0),.i (O.gi rs i 1)]])),x,y,true) ?_ ?_ ?_;focus (cbv;done))|(refine ab (O.ar .add Za i 1,O.cat o (O.sub [[.i (O.gi rs i 0),.i (O.gi rs i 1)]] 0 (O.ln [[.i (O.gi rs i 0),.i (O.gi rs i 1)]])),x,y,d) ?_ ?_ ?_;focus (cbv;done))
 all_goals(subst hO hr hF;(try simp only[nc]at*);(try simp only[ak,SS,sa,az]at*);(try rw[cy (by omega) (by omega)]);(try have rk:rgOk n rs=true:=(by assumption));(try have T:=ve rk);(try have gi:rngIn n a l=true:=(by assumption));(try have gb:=DD gi T);(try have ib:=i2.b);(try have xb:=T.b _ (Zs (dG (es:=rs) i0 (by omega))));(try have nb:=T.n1);(try simp only at xb);(try have e1:bK .add Za x y=x+y:=bh (by omega));(try have e2:bK .add Za (ag rs i 0) (ag rs i 1)=ag rs i 0+ag rs i 1:=bh (by omega));(try have e3:bK .add Za (ag rs i 1) y=ag rs i 1+y:=bh (by omega));(try have e4:bK .add Za y (ag rs i 1)=y+ag rs i 1:=bh (by omega));(try simp only[e1,e2,e3,e4]at*))
 all_goals first
  | (show(_:List DV)=_
     first
      |(have q:rpB n rs a l=false:=(by unfold rpB;rw[show rgOk n rs=false from(by assumption)];rfl);exact o7 (AF q).symm q.symm)
      |(have q:rpB n rs a l=false:=(by unfold rpB;rw[show rngIn n a l=false from(by assumption)];simp);exact o7 (AF q).symm q.symm)
      |(have q:=NC T i2 i0 (by omega) (by omega) (by omega);exact o7 (AF q).symm q.symm)
      |(have q:=su rk gi i2 (by omega);rw[q.1,q.2];subst_vars;rfl)
      |(have q:=su rk gi i2 (by omega);first|(rw[q.1,q.2,aa3 (by assumption)];done)|(rw[q.1,q.2,aa3 (by assumption)];exact rfl))
      |(have q:=su rk gi i2 (by omega);first|(rw[q.1,q.2,aa4 (by simp_all)];done)|(rw[q.1,q.2,aa4 (by simp_all)];exact rfl))
      |done)
  |omega
  |exact eF
  |(show aV _ _=true;kernel_rfl)
  |exact⟨n0,n1,wr,by omega⟩
  |exact⟨n0,n1⟩
  |exact⟨wr,by omega⟩
  |exact K1 gb
  |exact⟨Zk,Zk,Zk⟩
  |exact K2 T i2 i0 (by omega) (by omega) (by omega)
  |exact K4 T i2 i0 (by omega) (by omega) (by omega) (by omega)
  |exact K5 T i2 i0 (by omega) (by omega) (by omega) (by omega) (by omega) (by assumption)
  |exact Hb T i2 i0 (by omega) (by omega) (by omega) (by omega) (by omega)
  |exact Hb T i2 i0 (by omega) (by omega) (by omega) (by omega) (by simp_all)
  |(simp only[Zg,Zq,Zz];omega)
  |exact Nat.zero_le _
  |exact⟨Zk,Zk⟩
  |exact Zk
  |done
theorem tQ {rs:aa}(hp:On rs/\rs.length<=4294967296):ap 338 [.one (.s 2 rs)] [.one (.s 2 (jnR rs))]:=by
 obtain⟨S,hl⟩:=hp;have wr:=S.w;refine cb Ka4.B Tryz.func338 ?_
 intro O r F hO hr hF;cbv
 repeat' first|apply Zb|(apply bu<;>intro hb<;>cbv)|(refine⟨[0,3,4],[3],Int×aa×Nat,fun s_=>match s_ with|(i,o,m)=>[.reg 4 (.j i),.reg 3 (.one (.vw 3 0 0 0 m)),.leaf 3 0 ⟨0,0,none,.own (.s 2 o)⟩],fun s_=>match s_ with|(i,o,m)=>0<=i/\i<=(rs.length:Int)/\Lw rs i o m,fun s_=>match s_ with|(i,o,m)=>rs.length-i.toNat,⟨(0,[],O.ln []),?_,?_⟩,?_⟩;rotate_left;(focus (cbv;done));intro s_ hi;obtain⟨i,o,m⟩:=s_;replace hi:0<=i/\i<=(rs.length:Int)/\Lw rs i o m:=hi;obtain⟨i0,i1,i2⟩:=hi;cbv)|(refine ab (O.ar .add Za i 1,O.up (.s 2 o) [(O.ad 0 (O.ar .sub Za (O.zi m) 1),1)] [.i (O.ar .add Za (O.pi (.s 2 o) [(O.ad 0 (O.ar .sub Za (O.zi m) 1),1)]) (O.gi rs i 1))],m) ?_ ?_ ?_;focus (cbv;done))|(refine ab (O.ar .add Za i 1,O.cat o (O.sub [[.i (O.gi rs i 0),.i (O.gi rs i 1)]] 0 (O.ln [[.i (O.gi rs i 0),.i (O.gi rs i 1)]])),O.ln (O.cat o (O.sub [[.i (O.gi rs i 0),.i (O.gi rs i 1)]] 0 (O.ln [[.i (O.gi rs i 0),.i (O.gi rs i 1)]])))) ?_ ?_ ?_;focus (cbv;done))
 all_goals(subst hO hr hF;(try simp only[nc]at*);(try simp only[ak,SS,sa,az]at*);(try rw[cy (by omega) (by omega)]);(try have q0:=i2.n);(try have q1:=i2.p.l);(try have q2:=i2.w);(try have e1:bK .sub Za (m:Int) 1=(m:Int)-1:=cN (by omega));(try simp only[e1]at*);(try have s:=S.b i i0 (by omega));(try have b:=i2.b ((m:Int)-1) (by omega) (by omega));(try simp only[jm (l:=o) (sz:=2) (j:=0) (i:=(m:Int)-1) (by omega),jm (l:=o) (sz:=2) (j:=1) (i:=(m:Int)-1) (by omega)]at*);(try have e2:bK .add Za (ag o ((m:Int)-1) 0) (ag o ((m:Int)-1) 1)=ag o ((m:Int)-1) 0+ag o ((m:Int)-1) 1:=bh (by omega));(try have e3:bK .add Za (ag o ((m:Int)-1) 1) (ag rs i 1)=ag o ((m:Int)-1) 1+ag rs i 1:=bh (by omega));(try simp only[e2]at*);(try simp only[e3]at*))
 all_goals first
  | (show(_:List DV)=_
     first
      |(rw[q0,sa];exact congrArg (fun z=>[DV.one (.s 2 z)]) (CY i2.p (by omega)))
      |exact congrArg (fun z=>[DV.one (.s 2 z)]) (CY i2.p (by omega))
      |done)
  |omega
  |exact eF
  |(show aV _ _=true;kernel_rfl)
  |exact P5
  |exact⟨Zk,q0⟩
  |(simp only[Zq,Zz];omega)
  |(rw[Sd q2 (by omega) (by omega)];exact P6 i2 S i0 (by omega) hl (by omega) (by omega))
  |exact P7 i2 S i0 (by omega) hl (by omega)
  |exact RZ q2 (by omega) (by omega) (by decide)
  |exact MQ q2 (by omega) (by omega) (by decide)
  |exact⟨Zk,Zk⟩
  |exact Zk
  |done
namespace Ka5
structure aP where
 rgOk:Int->aa->Bool
 rngIn:Int->Int->Int->Bool
 jnR:aa->aa
abbrev F0:aP:=⟨rgOk,rngIn,jnR⟩
def ct (F:aP):CT:=fun f ds=>match f,ds with
 |165,[.one (.v (.int Za n)),.one (.s 2 rs)]=>some (fun _=>0<=n/\n<=1099511627776/\Rw [tI,tI] rs/\rs.length<=1099511627776,[.k (F.rgOk n rs)])
 |258,[.one (.v (.int Za n)),.agg [.v (.int Za a),.v (.int Za l)]]=>some (fun _=>0<=n/\n<=1099511627776,[.k (F.rngIn n a l)])
 |338,[.one (.s 2 rs)]=>some (fun _=>On rs/\rs.length<=4294967296,[.one (.s 2 (F.jnR rs))])
 |_,_=>none
theorem aj:aT (ct F0):=by
 intro f ds pre res h hp;unfold ct at h;split at h<;>cases h
 exact fV hp;exact iX hp;exact tQ hp
abbrev B:cF:=tb aj
end Ka5
theorem rC {n:Int}{rs:aa}{a l:Int}(hp:0<=n/\n<=1099511627776/\Rw [tI,tI] rs/\rs.length<=1073741824):ap 275 [.j n,.one (.s 2 rs),.agg [.i a,.i l]] [.one (.s 2 (rpL n rs a l)),.k (rpB n rs a l)]:=by
 obtain⟨n0,n1,wr,hl⟩:=hp;have hs:=wr.scal rfl;refine cb Ka5.B Tryz.func275 ?_
 intro O r F hO hr hF;cbv
 repeat' first|apply Zb|(apply bu<;>intro hb<;>cbv)|(refine⟨[1,5,8,9,10,11],[5,8,9],Int×aa×Bool,fun s_=>match s_ with|(i,o,d)=>[.reg 11 (.j i),.reg 10 (.k d),.reg 9 (.one (.vw 9 0 0 0 (O.ln o))),.leaf 9 0 ⟨0,0,none,.own (.s 2 o)⟩],fun s_=>match s_ with|(i,o,d)=>0<=i/\i<=(rs.length:Int)/\vO rs a l i o d,fun s_=>match s_ with|(i,o,d)=>rs.length-i.toNat,⟨(0,[],false),?_,?_⟩,?_⟩;rotate_left;(focus (cbv;done));intro s_ hi;obtain⟨i,o,d⟩:=s_;replace hi:0<=i/\i<=(rs.length:Int)/\vO rs a l i o d:=hi;obtain⟨i0,i1,i2⟩:=hi;cbv)|(refine ab (O.ar .add Za i 1,O.cat (O.cat o (O.sub [[.i a,.i l]] 0 (O.ln [[.i a,.i l]]))) (O.sub [[.i (O.gi rs i 0),.i (O.gi rs i 1)]] 0 (O.ln [[.i (O.gi rs i 0),.i (O.gi rs i 1)]])),true) ?_ ?_ ?_;focus (cbv;done))|(refine ab (O.ar .add Za i 1,O.cat o (O.sub [[.i (O.gi rs i 0),.i (O.gi rs i 1)]] 0 (O.ln [[.i (O.gi rs i 0),.i (O.gi rs i 1)]])),d) ?_ ?_ ?_;focus (cbv;done))
 all_goals(subst hO hr hF;(try simp only[nc]at*);(try simp only[ak,SS,sa,az]at*);(try rw[cy (by omega) (by omega)]);(try have rk:rgOk n rs=true:=(by assumption));(try have T:=ve rk);(try have gi:rngIn n a l=true:=(by assumption));(try have gb:=DD gi T);(try have im:=i2.m);(try have xb:=T.b _ (Zs (dG (es:=rs) i0 (by omega))));(try have nb:=T.n1);(try simp only at xb);(try have e1:bK .add Za a l=a+l:=bh (by omega));(try have e2:bK .add Za (ag rs i 0) (ag rs i 1)=ag rs i 0+ag rs i 1:=bh (by omega));(try simp only[e1]at*);(try simp only[e2]at*);(try have sm:=NE T gi i2 hl i1))
 all_goals first
  | (show(_:List DV)=_
     first
      |(have q:rpB n rs a l=false:=(by unfold rpB;rw[show rgOk n rs=false from(by assumption)];rfl);exact o7 (AF q).symm q.symm)
      |(have q:rpB n rs a l=false:=(by unfold rpB;rw[show rngIn n a l=false from(by assumption)];simp);exact o7 (AF q).symm q.symm)
      |(have q:=ND (n:=n) (rs:=rs) (a0:=a) (l0:=l) i0 (by omega) (by omega) (by omega);exact o7 (AF q).symm q.symm)
      |(have q:=DJ rk gi i2 (by omega);first|(rw[q.1,q.2,aa3 (by assumption)];done)|(rw[q.1,q.2,aa3 (by assumption)];exact rfl))
      |(have q:=DJ rk gi i2 (by omega);first|(rw[q.1,q.2,aa4 (by simp_all)];done)|(rw[q.1,q.2,aa4 (by simp_all)];exact rfl))
      |done)
  |omega
  |exact eF
  |(show aV _ _=true;kernel_rfl)
  |exact hs
  |exact⟨n0,n1,wr,by omega⟩
  |exact⟨n0,n1⟩
  |exact⟨wr,by omega⟩
  |exact RA
  |exact RB i2 i0 (by omega) (by omega) (by assumption) (by omega)
  |exact Hd i2 i0 (by omega) (by omega) (by simp_all)
  |exact Hd i2 i0 (by omega) (by omega) (by rintro⟨u,v⟩;omega)
  |exact Hd i2 i0 (by omega) (by omega) (by rintro⟨u,v⟩;simp_all)
  |(rw[aa3 (by assumption)]at sm;exact⟨sm,by omega⟩)
  |(rw[aa4 (by simp_all)]at sm;exact⟨sm,by simp only[Zg,Zq,Zz];omega⟩)
  |(simp only[Zz,Zg,Zq];omega)
  |exact⟨Zk,Zk⟩
  |exact Zk
  |done
end Go.V