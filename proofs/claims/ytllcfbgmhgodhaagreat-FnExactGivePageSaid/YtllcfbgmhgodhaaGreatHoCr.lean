/- Contracts. -/
import Derived.Test.YtllcfbgmhgodhaaGreatHoAr
import Derived.Test.YtllcfbgmhgodhaaGreatLayPr
set_option linter.all false
namespace Go.V
open Go Go.Proofs
set_option maxRecDepth 1000000
set_option maxHeartbeats 8000000
namespace Ka0
structure aQ where
 kerOk:aa->aa->aa->Int->aa->Bool
 peM:aa->Int->Int
 peF:aa->Int->Int
abbrev F0 :aQ:=⟨kerOk,peM,peF⟩
def ct (F:aQ):CT:=fun f ds=>match f,ds with
 |153,[.agg [.s 1 cs,.s 1 us,.s 2 es,.v (.int .i64 c),.s 1 rs]]=>some (fun _=>Rw [.sl [tI]] cs/\Rw [tB] us/\Rw [tI,tI] es/\Rw [tI] rs,[.k (F.kerOk cs us es c rs)])
 |122,[.agg [.s 1 cs,.s 1 us,.s 2 es,.v (.int .i64 c),.s 1 rs]]=>some (fun _=>Rw [.sl [tI]] cs/\Rw [tB] us/\Rw [tI,tI] es/\Rw [tI] rs,[.k (F.kerOk cs us es c rs)])
 |188,[.agg [.s 2 es],.one (.v (.int .i64 p))]=>some (fun _=>Rw [tI,tI] es,[.agg [.i (F.peM es p),.i (F.peF es p)]])
 |_,_=>none
theorem ai :aS (ct F0):=by
 intro f ds pre res h hp;unfold ct at h;split at h<;>cases h
 exact jT hp;exact jZ hp;exact dC hp
abbrev B :cy:=tb ai
end Ka0
theorem tD {cs us es:aa}{c:Int}{rs:aa}(hp:Rw [.sl [tI]] cs/\Rw [tB] us/\Rw [tI,tI] es/\Rw [tI] rs):au 289 [.agg [.s 1 cs,.s 1 us,.s 2 es,.i c,.s 1 rs]] [.k (ccB cs us es c rs)]:=by
 refine cb Ka0.B Tryz.func289 ?_
 intro O r F hO hr hF;cbv
 repeat' first|apply And.intro|(apply be<;>intro hb<;>cbv)
 all_goals(subst hO hr hF;(try simp only[nc]at*);(try simp only[aj,SS,sa,az]at*))
 all_goals first
  | (show(_:List DV)=_
     first
      |exact ak (O9 (by omega)).symm
      |exact ak (Km (by omega)).symm
      |done)
  |exact hp
  |(show aW _ _=true;kernel_rfl)
  |done
theorem md {cs us es:aa}{c:Int}{rs:aa}(hp:Rw [.sl [tI]] cs/\Rw [tB] us/\Rw [tI,tI] es/\Rw [tI] rs):au 84 [.agg [.s 1 cs,.s 1 us,.s 2 es,.i c,.s 1 rs]] [.k (ccB cs us es c rs)]:=by
 refine cb Ka0.B Tryz.func84 ?_
 intro O r F hO hr hF;cbv
 repeat' first|apply And.intro|(apply be<;>intro hb<;>cbv)
 all_goals(subst hO hr hF;(try simp only[nc]at*);(try simp only[aj,SS,sa,az]at*))
 all_goals first
  | (show(_:List DV)=_
     first
      |exact ak (Pb (by assumption)).symm
      |exact ak (Pd (by assumption))
      |done)
  |exact hp
  |(show aW _ _=true;kernel_rfl)
  |done
theorem uy {cs us es:aa}{c:Int}{rs:aa}{p:Int}(hp:Rw [tI,tI] es):au 285 [.ptr [.s 1 cs,.s 1 us,.s 2 es,.i c,.s 1 rs],.j p] [.j (peM es p)]:=by
 refine cb Ka0.B Tryz.func285 ?_
 intro O r F hO hr hF;cbv
 repeat' first|apply And.intro|(apply be<;>intro hb<;>cbv)
 all_goals(subst hO hr hF;(try simp only[nc]at*);(try simp only[aj,SS,sa,az]at*))
 all_goals first|(show(_:List DV)=_;exact rfl)|exact hp|(show aW _ _=true;kernel_rfl)|done
namespace Ka1
structure aQ where
 pagesOn:aa->Int->aa
abbrev F0 :aQ:=⟨pagesOn⟩
def ct (F:aQ):CT:=fun f ds=>match f,ds with
 |295,[.agg [.s 2 es],.one (.v (.int .i64 f))]=>some (fun _=>Rw [tI,tI] es/\es.length<=1099511627776,[.one (.s 1 (F.pagesOn es f))])
 |320,[.agg [.s 2 es],.one (.v (.int .i64 f))]=>some (fun _=>Rw [tI,tI] es/\es.length<=1099511627776,[.one (.s 1 (F.pagesOn es f))])
 |_,_=>none
theorem ai :aS (ct F0):=by
 intro f ds pre res h hp;unfold ct at h;split at h<;>cases h
 exact gG hp;exact gO hp
abbrev B :cy:=tb ai
end Ka1
theorem tJ {cs us es:aa}{c:Int}{rs:aa}{f:Int}(hp:Rw [.sl [tI]] cs/\Rw [tB] us/\Rw [tI,tI] es/\es.length<=1099511627776/\0<=f/\f<cs.length/\us.length=cs.length):kn 290 [.mp [.own (.s 1 cs),.own (.s 1 us),.own (.s 2 es),.own (.i c),.own (.s 1 rs)],.j f] [[.own (.s 1 (dfC cs es f)),.own (.s 1 (dfU us es f)),.own (.s 2 es),.own (.i c),.own (.s 1 rs)]] []:=by
 obtain⟨wc,wu,we,el,f0,f1,ul⟩:=hp;refine pb Ka1.B Tryz.func290 ?_
 exact SH
theorem ux {cs us es:aa}{c:Int}{rs:aa}{f:Int}(hp:Rw [.sl [tI]] cs/\Rw [tB] us/\Rw [tI,tI] es/\es.length<=1099511627776/\0<=f/\f<cs.length/\us.length=cs.length):kn 286 [.mp [.own (.s 1 cs),.own (.s 1 us),.own (.s 2 es),.own (.i c),.own (.s 1 rs)],.j f] [[.own (.s 1 (dfC cs es f)),.own (.s 1 (dfU us es f)),.own (.s 2 es),.own (.i c),.own (.s 1 rs)]] []:=by
 obtain⟨wc,wu,we,el,f0,f1,ul⟩:=hp;refine pb Ka1.B Tryz.func286 ?_
 exact SH
namespace Ka2
structure aQ where
 ccB:aa->aa->aa->Int->aa->Bool
 mapB:aa->Int->Bool
 dfC:aa->aa->Int->aa
 dfU:aa->aa->Int->aa
abbrev F0 :aQ:=⟨ccB,mapB,dfC,dfU⟩
def ct (F:aQ):CT:=fun f ds=>match f,ds with
 |146,[.agg [.s 1 cs,.s 1 us,.s 2 es,.v (.int .i64 c),.s 1 rs]]=>some (fun _=>Rw [.sl [tI]] cs/\Rw [tB] us/\Rw [tI,tI] es/\Rw [tI] rs/\ah cs<=1099511627776/\ah us<=1099511627776/\ah es<=1099511627776/\ah rs<=1099511627776,[.agg [.s 1 cs,.s 1 us,.s 2 es,.i c,.s 1 rs]])
 |289,[.agg [.s 1 cs,.s 1 us,.s 2 es,.v (.int .i64 c),.s 1 rs]]=>some (fun _=>Rw [.sl [tI]] cs/\Rw [tB] us/\Rw [tI,tI] es/\Rw [tI] rs,[.k (F.ccB cs us es c rs)])
 |260,[.agg [.s 1 a0,.s 1 a1,.s 2 a2,.v (.int .i64 a3),.s 1 a4],.one (.v (.int .i64 p))]=>some (fun _=>Rw [tI,tI] a2,[.k (F.mapB a2 p)])
 |_,_=>none
theorem ai :aS (ct F0):=by
 intro f ds pre res h hp;unfold ct at h;split at h<;>cases h
 exact ie hp;exact tD hp;exact lZ hp
def pt (F:aQ):PT:=fun f=>match f with
 | 290=>some fun ds=>match ds with
   |[.mp [.own (.s 1 cs),.own (.s 1 us),.own (.s 2 es),.own (.v (.int .i64 c)),.own (.s 1 rs)],.one (.v (.int .i64 f))]=>some (fun _=>Rw [.sl [tI]] cs/\Rw [tB] us/\Rw [tI,tI] es/\es.length<=1099511627776/\0<=f/\f<cs.length/\us.length=cs.length,[[.own (.s 1 (F.dfC cs es f)),.own (.s 1 (F.dfU us es f)),.own (.s 2 es),.own (.i c),.own (.s 1 rs)]],[])
   |_=>none
 |_=>none
theorem fO :mP (pt F0):=by
 intro f mk h ds pre outs res hm hp;unfold pt at h;split at h
 ·cases h;dsimp only at hm;split at hm
  ·cases hm;exact tJ hp
  ·cases hm
 ·cases h
abbrev B :cy:={Φ:=aQ,F0:=F0,ct:=ct,hc:=ai,pt:=pt,hp:=fO}
end Ka2
theorem wm {cs us es:aa}{c:Int}{rs:aa}{p:Int}(hp:Rw [.sl [tI]] cs/\Rw [tB] us/\Rw [tI,tI] es/\Rw [tI] rs/\ah cs<=1099511627776/\ah us<=1099511627776/\ah es<=1099511627776/\ah rs<=1099511627776):au 205 [.agg [.s 1 cs,.s 1 us,.s 2 es,.i c,.s 1 rs],.j p] [.agg [.s 1 (ktC (ccB cs us es c rs) cs es p),.s 1 (ktU (ccB cs us es c rs) us es p),.s 2 (ktE (ccB cs us es c rs) es p),.i c,.s 1 rs],.k (ktB (ccB cs us es c rs) es p)]:=by
 obtain⟨wc,wu,we,wr,c1,c2,c3,c4⟩:=hp;have l3:=ay (es:=es);refine cb Ka2.B Tryz.func205 ?_
 intro O r F hO hr hF;cbv
 repeat' first|apply And.intro|(apply be<;>intro hb<;>cbv)
 all_goals(subst hO hr hF;(try simp only[nc]at*);(try simp only[aj,SS,sa,az]at*);(try have mp:mapB es p=true:=(by assumption));(try have at_:=yV mp);(try have p0:=at_.1.1);(try have p1:=at_.1.2);(try simp only[AW (l:=es) (sz:=2) (j:=1) (i:=p) p0]at*);(try have cc:=FE (cs:=cs) (us:=us) (es:=es) (c:=c) (rs:=rs) (by assumption));(try have km:=(mg cc.2).1);(try have fr:=yW km mp);(try have ul:=km.u);(try have um:=LJ we at_.1.1 at_.1.2);(try simp only[um]at*);(try have rm:=(show Rw [tI,tI] (yc es p)from JA (m:=0) (f:=0) we (by omega) (by omega)));(try have ll:(yc es p).length=es.length:=List.length_set))
 all_goals first
  | (show(_:List DV)=_
     first
      |(have q:=Qf (k:=ccB cs us es c rs) (cs:=cs) (us:=us) (es:=es) (p:=p) (by assumption);first|(rw[q.1,q.2.1,q.2.2.1,q.2.2.2];done)|(rw[q.1,q.2.1,q.2.2.1,q.2.2.2];exact rfl))
      |(have q:=Uj (k:=ccB cs us es c rs) (cs:=cs) (us:=us) (es:=es) (p:=p) (by assumption);first|(rw[q.1,q.2.1,q.2.2.1,q.2.2.2];done)|(rw[q.1,q.2.1,q.2.2.1,q.2.2.2];exact rfl))
      |(have q:=Qg (k:=ccB cs us es c rs) (cs:=cs) (us:=us) (es:=es) (p:=p) (by assumption);have z:=Qj (cs:=cs) (us:=us) mp;first|(rw[q.1,q.2.1,q.2.2.1,q.2.2.2,z.1,z.2.1,z.2.2,mp,at_.2.2.1];done)|(rw[q.1,q.2.1,q.2.2.1,q.2.2.2,z.1,z.2.1,z.2.2,mp,at_.2.2.1];exact rfl))
      |done)
  |omega
  |exact⟨wc,wu,we,wr,c1,c2,c3,c4⟩
  |exact⟨wc,wu,we,wr⟩
  |exact we
  |exact⟨wc,wu,rm,by omega,fr.1,fr.2,ul⟩
  |exact R5 we at_.1.1 at_.1.2 (by decide)
  |exact Ng we at_.1.1 at_.1.2 (by decide)
  |exact LA we p0 p1
  |(show aW _ _=true;kernel_rfl)
  |exact eR
  |exact⟨True.intro,True.intro⟩
  |exact True.intro
  |done
namespace Ka3
structure aQ where
 peM:aa->Int->Int
 dfC:aa->aa->Int->aa
 dfU:aa->aa->Int->aa
abbrev F0 :aQ:=⟨peM,dfC,dfU⟩
def ct (F:aQ):CT:=fun f ds=>match f,ds with
 |285,[.ptr [.s 1 cs,.s 1 us,.s 2 es,.v (.int .i64 c),.s 1 rs],.one (.v (.int .i64 p))]=>some (fun _=>Rw [tI,tI] es,[.j (F.peM es p)])
 |_,_=>none
theorem ai :aS (ct F0):=by
 intro f ds pre res h hp;unfold ct at h;split at h<;>cases h
 exact uy hp
def pt (F:aQ):PT:=fun f=>match f with
 | 286=>some fun ds=>match ds with
   |[.mp [.own (.s 1 cs),.own (.s 1 us),.own (.s 2 es),.own (.v (.int .i64 c)),.own (.s 1 rs)],.one (.v (.int .i64 f))]=>some (fun _=>Rw [.sl [tI]] cs/\Rw [tB] us/\Rw [tI,tI] es/\es.length<=1099511627776/\0<=f/\f<cs.length/\us.length=cs.length,[[.own (.s 1 (F.dfC cs es f)),.own (.s 1 (F.dfU us es f)),.own (.s 2 es),.own (.i c),.own (.s 1 rs)]],[])
   |_=>none
 |_=>none
theorem fO :mP (pt F0):=by
 intro f mk h ds pre outs res hm hp;unfold pt at h;split at h
 ·cases h;dsimp only at hm;split at hm
  ·cases hm;exact ux hp
  ·cases hm
 ·cases h
abbrev B :cy:={Φ:=aQ,F0:=F0,ct:=ct,hc:=ai,pt:=pt,hp:=fO}
end Ka3
theorem j6 {cs us es:aa}{c:Int}{rs:aa}{p:Int}(hp:Rw [.sl [tI]] cs/\Rw [tB] us/\Rw [tI,tI] es/\Rw [tI] rs/\lT cs us es):kn 192 [.mp [.own (.s 1 cs),.own (.s 1 us),.own (.s 2 es),.own (.i c),.own (.s 1 rs)],.j p] [[.own (.s 1 (kuC cs es p)),.own (.s 1 (kuU us es p)),.own (.s 2 (kuE es p)),.own (.i c),.own (.s 1 rs)]] [.k (mapB es p)]:=by
 obtain⟨wc,wu,we,wr,km⟩:=hp;have e1:=km.e1;refine pb Ka3.B Tryz.func192 ?_
 intro O r os F hO hr hos hF;cbv
 repeat' first|apply And.intro|(apply be<;>intro hb<;>cbv)
 all_goals((try subst hos);subst hO hr hF;(try simp only[nc]at*);(try simp only[aj,SS,sa,az]at*);(try have mp:mapB es p=true:=decide_eq_true (by assumption));(try have at_:=yV mp);(try have p0:=at_.1.1);(try have p1:=at_.1.2);(try simp only[AW (l:=es) (sz:=2) (j:=1) (i:=p) p0]at*);(try have fr:=yW km mp);(try have ul:=km.u);(try have um:=LJ we at_.1.1 at_.1.2);(try simp only[um]at*);(try have rm:=(show Rw [tI,tI] (yc es p)from JA (m:=0) (f:=0) we (by omega) (by omega)));(try have ll:(yc es p).length=es.length:=List.length_set))
 all_goals first
  | (show(_:List DV)=_
     first
      |exact ak (show false=mapB es p from(decide_eq_false (fun n=>n (by assumption))).symm)
      |exact ak mp.symm
      |done)
  | (show(_:List H)=_
     first
      |(have z:=Qh (cs:=cs) (us:=us) (es:=es) (p:=p) (decide_eq_false (fun n=>n (by assumption)));first|(rw[z.1,z.2.1,z.2.2];done)|(rw[z.1,z.2.1,z.2.2];exact rfl))
      |(have z:=Qj (cs:=cs) (us:=us) mp;first|(rw[z.1,z.2.1,z.2.2,at_.2.2.1];done)|(rw[z.1,z.2.1,z.2.2,at_.2.2.1];exact rfl))
      |done)
  |omega
  |exact we
  |exact⟨wc,wu,rm,by omega,fr.1,fr.2,ul⟩
  |exact Ng we at_.1.1 at_.1.2 (by decide)
  |exact LA we p0 p1
  |(show aW _ _=true;kernel_rfl)
  |exact eR
  |exact⟨True.intro,True.intro⟩
  |exact True.intro
  |done
namespace Ka4
structure aQ where
 rgOk:Int->aa->Bool
 rngIn:Int->Int->Int->Bool
abbrev F0 :aQ:=⟨rgOk,rngIn⟩
def ct (F:aQ):CT:=fun f ds=>match f,ds with
 |154,[.one (.v (.int .i64 n)),.one (.s 2 rs)]=>some (fun _=>0<=n/\n<=1099511627776/\Rw [tI,tI] rs/\rs.length<=1099511627776,[.k (F.rgOk n rs)])
 |257,[.one (.v (.int .i64 n)),.agg [.v (.int .i64 a),.v (.int .i64 l)]]=>some (fun _=>0<=n/\n<=1099511627776,[.k (F.rngIn n a l)])
 |147,[.one (.s 2 es)]=>some (fun _=>Rw [tI,tI] es/\es.length<=1099511627776,[.one (.s 2 es)])
 |123,[.one (.v (.int .i64 n)),.one (.s 2 rs)]=>some (fun _=>0<=n/\n<=1099511627776/\Rw [tI,tI] rs/\rs.length<=1099511627776,[.k (F.rgOk n rs)])
 |234,[.one (.v (.int .i64 n)),.agg [.v (.int .i64 a),.v (.int .i64 l)]]=>some (fun _=>0<=n/\n<=1099511627776,[.k (F.rngIn n a l)])
 |_,_=>none
theorem ai :aS (ct F0):=by
 intro f ds pre res h hp;unfold ct at h;split at h<;>cases h
 exact jX hp;exact ky hp;exact ig hp;exact f9 hp;exact jq hp
abbrev B :cy:=tb ai
end Ka4
theorem ra {n:Int}{rs:aa}{a l:Int}(hp:0<=n/\n<=1099511627776/\Rw [tI,tI] rs/\rs.length<=1073741824):au 206 [.j n,.one (.s 2 rs),.agg [.i a,.i l]] [.one (.s 2 (rpL n rs a l)),.k (rpB n rs a l)]:=by
 obtain⟨n0,n1,wr,hl⟩:=hp;refine cb Ka4.B Tryz.func206 ?_
 intro O r F hO hr hF;cbv
 repeat' first|apply And.intro|(apply be<;>intro hb<;>cbv)|(refine⟨[1,5,8,9,25,26,27],[5,8],Int×aa×Int×Int×Bool,fun s_=>match s_ with|(i,o,x,y,d)=>[.reg 27 (.j i),.reg 9 (.k d),.reg 8 (.one (.vw 8 0 0 0 (O.ln o))),.leaf 8 0 ⟨0,0,none,.own (.s 2 o)⟩,.leaf 5 0 ⟨0,0,none,.own (.i x)⟩,.leaf 5 1 ⟨0,0,none,.own (.i y)⟩],fun s_=>match s_ with|(i,o,x,y,d)=>0<=i/\i<=(rs.length:Int)/\BI rs a l i o x y d/\o.length<=2*i.toNat,fun s_=>match s_ with|(i,o,x,y,d)=>rs.length-i.toNat,⟨(0,[],a,l,false),?_,?_⟩,?_⟩;rotate_left;(focus (cbv;done));intro s_ hi;obtain⟨i,o,x,y,d⟩:=s_;replace hi:0<=i/\i<=(rs.length:Int)/\BI rs a l i o x y d/\o.length<=2*i.toNat:=hi;obtain⟨i0,i1,i2,i3⟩:=hi;cbv)|(refine ab (O.ar .add .i64 i 1,o,O.gi rs i 0,O.ar .add .i64 (O.gi rs i 1) y,d) ?_ ?_ ?_;focus (cbv;done))|(refine ab (O.ar .add .i64 i 1,o,x,O.ar .add .i64 y (O.gi rs i 1),d) ?_ ?_ ?_;focus (cbv;done))|(refine ab (O.ar .add .i64 i 1,O.cat o (O.sub [[.i x,.i y],[.i (O.gi rs i 0),.i (O.gi rs i 1)]] 0 (O.ln [[.i x,.i y],[.i (O.gi rs i 0),.i (O.gi rs i 1)]])),x,y,true) ?_ ?_ ?_;focus (cbv;done))|(refine ab (O.ar .add .i64 i 1,O.cat o (O.sub [[.i (O.gi rs i 0),.i (O.gi rs i 1)]] 0 (O.ln [[.i (O.gi rs i 0),.i (O.gi rs i 1)]])),x,y,d) ?_ ?_ ?_;focus (cbv;done))
 all_goals(subst hO hr hF;(try simp only[nc]at*);(try simp only[aj,SS,sa,az]at*);(try rw[cv (by omega) (by omega)]);(try have rk:rgOk n rs=true:=(by assumption));(try have T:=vI rk);(try have gi:rngIn n a l=true:=(by assumption));(try have gb:=D9 gi T);(try have ib:=i2.b);(try have xb:=T.b _ (List.mem_of_getElem? (dK (es:=rs) i0 (by omega))));(try have nb:=T.n1);(try simp only at xb);(try have e1:bF .add .i64 x y=x+y:=bc (by omega));(try have e2:bF .add .i64 (ag rs i 0) (ag rs i 1)=ag rs i 0+ag rs i 1:=bc (by omega));(try have e3:bF .add .i64 (ag rs i 1) y=ag rs i 1+y:=bc (by omega));(try have e4:bF .add .i64 y (ag rs i 1)=y+ag rs i 1:=bc (by omega));(try simp only[e1,e2,e3,e4]at*))
 all_goals first
  | (show(_:List DV)=_
     first
      |(have q:rpB n rs a l=false:=(by unfold rpB;rw[show rgOk n rs=false from(by assumption)];rfl);exact pN (A3 q).symm q.symm)
      |(have q:rpB n rs a l=false:=(by unfold rpB;rw[show rngIn n a l=false from(by assumption)];simp);exact pN (A3 q).symm q.symm)
      |(have q:=N1 T i2 i0 (by omega) (by omega) (by omega);exact pN (A3 q).symm q.symm)
      |(have q:=ta rk gi i2 (by omega);rw[q.1,q.2];subst_vars;rfl)
      |(have q:=ta rk gi i2 (by omega);first|(rw[q.1,q.2,if_pos (by assumption)];done)|(rw[q.1,q.2,if_pos (by assumption)];exact rfl))
      |(have q:=ta rk gi i2 (by omega);first|(rw[q.1,q.2,if_neg (by simp_all)];done)|(rw[q.1,q.2,if_neg (by simp_all)];exact rfl))
      |done)
  |omega
  |exact eR
  |(show aW _ _=true;kernel_rfl)
  |exact⟨n0,n1,wr,by omega⟩
  |exact⟨n0,n1⟩
  |exact⟨wr,by omega⟩
  |exact Ln gb
  |exact⟨True.intro,True.intro,True.intro⟩
  |exact Lo T i2 i0 (by omega) (by omega) (by omega)
  |exact Lp T i2 i0 (by omega) (by omega) (by omega) (by omega)
  |exact Lq T i2 i0 (by omega) (by omega) (by omega) (by omega) (by omega) (by assumption)
  |exact HA T i2 i0 (by omega) (by omega) (by omega) (by omega) (by omega)
  |exact HA T i2 i0 (by omega) (by omega) (by omega) (by omega) (by simp_all)
  |(simp only[List.length_append,List.length_cons,List.length_nil];omega)
  |exact Nat.zero_le _
  |exact⟨True.intro,True.intro⟩
  |exact True.intro
  |done
theorem uC {rs:aa}(hp:OG rs/\rs.length<=4294967296):au 287 [.one (.s 2 rs)] [.one (.s 2 (jnR rs))]:=by
 obtain⟨S,hl⟩:=hp;have wr:=S.w;refine cb Ka4.B Tryz.func287 ?_
 intro O r F hO hr hF;cbv
 repeat' first|apply And.intro|(apply be<;>intro hb<;>cbv)|(refine⟨[0,3,4],[3],Int×aa×Nat,fun s_=>match s_ with|(i,o,m)=>[.reg 4 (.j i),.reg 3 (.one (.vw 3 0 0 0 m)),.leaf 3 0 ⟨0,0,none,.own (.s 2 o)⟩],fun s_=>match s_ with|(i,o,m)=>0<=i/\i<=(rs.length:Int)/\LX rs i o m,fun s_=>match s_ with|(i,o,m)=>rs.length-i.toNat,⟨(0,[],O.ln []),?_,?_⟩,?_⟩;rotate_left;(focus (cbv;done));intro s_ hi;obtain⟨i,o,m⟩:=s_;replace hi:0<=i/\i<=(rs.length:Int)/\LX rs i o m:=hi;obtain⟨i0,i1,i2⟩:=hi;cbv)|(refine ab (O.ar .add .i64 i 1,O.up (.s 2 o) [(O.ad 0 (O.ar .sub .i64 (O.zi m) 1),1)] [.i (O.ar .add .i64 (O.pi (.s 2 o) [(O.ad 0 (O.ar .sub .i64 (O.zi m) 1),1)]) (O.gi rs i 1))],m) ?_ ?_ ?_;focus (cbv;done))|(refine ab (O.ar .add .i64 i 1,O.cat o (O.sub [[.i (O.gi rs i 0),.i (O.gi rs i 1)]] 0 (O.ln [[.i (O.gi rs i 0),.i (O.gi rs i 1)]])),O.ln (O.cat o (O.sub [[.i (O.gi rs i 0),.i (O.gi rs i 1)]] 0 (O.ln [[.i (O.gi rs i 0),.i (O.gi rs i 1)]])))) ?_ ?_ ?_;focus (cbv;done))
 all_goals(subst hO hr hF;(try simp only[nc]at*);(try simp only[aj,SS,sa,az]at*);(try rw[cv (by omega) (by omega)]);(try have q0:=i2.n);(try have q1:=i2.p.l);(try have q2:=i2.w);(try have e1:bF .sub .i64 (m:Int) 1=(m:Int)-1:=cR (by omega));(try simp only[e1]at*);(try have s:=S.b i i0 (by omega));(try have b:=i2.b ((m:Int)-1) (by omega) (by omega));(try simp only[AW (l:=o) (sz:=2) (j:=0) (i:=(m:Int)-1) (by omega),AW (l:=o) (sz:=2) (j:=1) (i:=(m:Int)-1) (by omega)]at*);(try have e2:bF .add .i64 (ag o ((m:Int)-1) 0) (ag o ((m:Int)-1) 1)=ag o ((m:Int)-1) 0+ag o ((m:Int)-1) 1:=bc (by omega));(try have e3:bF .add .i64 (ag o ((m:Int)-1) 1) (ag rs i 1)=ag o ((m:Int)-1) 1+ag rs i 1:=bc (by omega));(try simp only[e2]at*);(try simp only[e3]at*))
 all_goals first
  | (show(_:List DV)=_
     first
      |(rw[q0,sa];exact congrArg (fun z=>[DV.one (.s 2 z)]) (Dp i2.p (by omega)))
      |exact congrArg (fun z=>[DV.one (.s 2 z)]) (Dp i2.p (by omega))
      |done)
  |omega
  |exact eR
  |(show aW _ _=true;kernel_rfl)
  |exact Qc
  |exact⟨True.intro,q0⟩
  |(simp only[List.length_cons,List.length_nil];omega)
  |(rw[Sj q2 (by omega) (by omega)];exact Qd i2 S i0 (by omega) hl (by omega) (by omega))
  |exact Qe i2 S i0 (by omega) hl (by omega)
  |exact R5 q2 (by omega) (by omega) (by decide)
  |exact Ng q2 (by omega) (by omega) (by decide)
  |exact⟨True.intro,True.intro⟩
  |exact True.intro
  |done
namespace Ka5
structure aQ where
 rgOk:Int->aa->Bool
 rngIn:Int->Int->Int->Bool
 jnR:aa->aa
abbrev F0 :aQ:=⟨rgOk,rngIn,jnR⟩
def ct (F:aQ):CT:=fun f ds=>match f,ds with
 |123,[.one (.v (.int .i64 n)),.one (.s 2 rs)]=>some (fun _=>0<=n/\n<=1099511627776/\Rw [tI,tI] rs/\rs.length<=1099511627776,[.k (F.rgOk n rs)])
 |234,[.one (.v (.int .i64 n)),.agg [.v (.int .i64 a),.v (.int .i64 l)]]=>some (fun _=>0<=n/\n<=1099511627776,[.k (F.rngIn n a l)])
 |287,[.one (.s 2 rs)]=>some (fun _=>OG rs/\rs.length<=4294967296,[.one (.s 2 (F.jnR rs))])
 |_,_=>none
theorem ai :aS (ct F0):=by
 intro f ds pre res h hp;unfold ct at h;split at h<;>cases h
 exact f9 hp;exact jq hp;exact uC hp
abbrev B :cy:=tb ai
end Ka5
theorem j5 {n:Int}{rs:aa}{a l:Int}(hp:0<=n/\n<=1099511627776/\Rw [tI,tI] rs/\rs.length<=1073741824):au 193 [.j n,.one (.s 2 rs),.agg [.i a,.i l]] [.one (.s 2 (rpL n rs a l)),.k (rpB n rs a l)]:=by
 obtain⟨n0,n1,wr,hl⟩:=hp;have hs:=wr.scal rfl;refine cb Ka5.B Tryz.func193 ?_
 intro O r F hO hr hF;cbv
 repeat' first|apply And.intro|(apply be<;>intro hb<;>cbv)|(refine⟨[1,5,8,9,10,11],[5,8,9],Int×aa×Bool,fun s_=>match s_ with|(i,o,d)=>[.reg 11 (.j i),.reg 10 (.k d),.reg 9 (.one (.vw 9 0 0 0 (O.ln o))),.leaf 9 0 ⟨0,0,none,.own (.s 2 o)⟩],fun s_=>match s_ with|(i,o,d)=>0<=i/\i<=(rs.length:Int)/\wl rs a l i o d,fun s_=>match s_ with|(i,o,d)=>rs.length-i.toNat,⟨(0,[],false),?_,?_⟩,?_⟩;rotate_left;(focus (cbv;done));intro s_ hi;obtain⟨i,o,d⟩:=s_;replace hi:0<=i/\i<=(rs.length:Int)/\wl rs a l i o d:=hi;obtain⟨i0,i1,i2⟩:=hi;cbv)|(refine ab (O.ar .add .i64 i 1,O.cat (O.cat o (O.sub [[.i a,.i l]] 0 (O.ln [[.i a,.i l]]))) (O.sub [[.i (O.gi rs i 0),.i (O.gi rs i 1)]] 0 (O.ln [[.i (O.gi rs i 0),.i (O.gi rs i 1)]])),true) ?_ ?_ ?_;focus (cbv;done))|(refine ab (O.ar .add .i64 i 1,O.cat o (O.sub [[.i (O.gi rs i 0),.i (O.gi rs i 1)]] 0 (O.ln [[.i (O.gi rs i 0),.i (O.gi rs i 1)]])),d) ?_ ?_ ?_;focus (cbv;done))
 all_goals(subst hO hr hF;(try simp only[nc]at*);(try simp only[aj,SS,sa,az]at*);(try rw[cv (by omega) (by omega)]);(try have rk:rgOk n rs=true:=(by assumption));(try have T:=vI rk);(try have gi:rngIn n a l=true:=(by assumption));(try have gb:=D9 gi T);(try have im:=i2.m);(try have xb:=T.b _ (List.mem_of_getElem? (dK (es:=rs) i0 (by omega))));(try have nb:=T.n1);(try simp only at xb);(try have e1:bF .add .i64 a l=a+l:=bc (by omega));(try have e2:bF .add .i64 (ag rs i 0) (ag rs i 1)=ag rs i 0+ag rs i 1:=bc (by omega));(try simp only[e1]at*);(try simp only[e2]at*);(try have sm:=N4 T gi i2 hl i1))
 all_goals first
  | (show(_:List DV)=_
     first
      |(have q:rpB n rs a l=false:=(by unfold rpB;rw[show rgOk n rs=false from(by assumption)];rfl);exact pN (A3 q).symm q.symm)
      |(have q:rpB n rs a l=false:=(by unfold rpB;rw[show rngIn n a l=false from(by assumption)];simp);exact pN (A3 q).symm q.symm)
      |(have q:=N2 (n:=n) (rs:=rs) (a0:=a) (l0:=l) i0 (by omega) (by omega) (by omega);exact pN (A3 q).symm q.symm)
      |(have q:=Ee rk gi i2 (by omega);first|(rw[q.1,q.2,if_pos (by assumption)];done)|(rw[q.1,q.2,if_pos (by assumption)];exact rfl))
      |(have q:=Ee rk gi i2 (by omega);first|(rw[q.1,q.2,if_neg (by simp_all)];done)|(rw[q.1,q.2,if_neg (by simp_all)];exact rfl))
      |done)
  |omega
  |exact eR
  |(show aW _ _=true;kernel_rfl)
  |exact hs
  |exact⟨n0,n1,wr,by omega⟩
  |exact⟨n0,n1⟩
  |exact⟨wr,by omega⟩
  |exact RN
  |exact RO i2 i0 (by omega) (by omega) (by assumption) (by omega)
  |exact HC i2 i0 (by omega) (by omega) (by simp_all)
  |exact HC i2 i0 (by omega) (by omega) (by rintro⟨u,v⟩;omega)
  |exact HC i2 i0 (by omega) (by omega) (by rintro⟨u,v⟩;simp_all)
  |(rw[if_pos (by assumption)]at sm;exact⟨sm,by omega⟩)
  |(rw[if_neg (by simp_all)]at sm;exact⟨sm,by simp only[List.length_append,List.length_cons,List.length_nil];omega⟩)
  |(simp only[List.length_nil,List.length_append,List.length_cons];omega)
  |exact⟨True.intro,True.intro⟩
  |exact True.intro
  |done
end Go.V