/- Contracts. -/
import Derived.Test.YtcodmgmliopheaaGreatXHoAt
import Derived.Test.YtcodmgmliopheaaGreatXLayPt
set_option linter.all false
open Go
open And renaming intro->By
open List renaming length_set->adr,mem_of_getElem?->acY,length_append->AT,length_cons->ac7,length_nil->ade
open True renaming intro->ac2
namespace Go.V
open Go Go.Proofs
set_option maxRecDepth 1000000
set_option maxHeartbeats 8000000
abbrev Ka0 :cW:=eF (fun F f=>match f with|166=>dj F|134=>dj F|234=>cH F|_=>fun _=>none) (by
 intro f;dsimp only;split;exact pN;exact pW;exact oN;exact cX)
def fu :EC:=fun F=>fun
 |[.agg [.s 1 cs,.s 1 us,.s 2 es,.v (.int .i64 c),.s 1 rs]]=>some (fun _=>Rw [.sl [tI]] cs/\Rw [tB] us/\Rw [tI,tI] es/\Rw [tI] rs,[.k (F.ccB cs us es c rs)])
 |_=>none
theorem zb :ec 333 fu:=by
 intro _ _ _ h hp;dsimp only[fu,F0]at h;split at h<;>cases h
 rename_i cs us es c rs;refine cb Ka0 Tryz.func333 ?_
 intro O r F hO hr hF;cbv
 repeat' first|apply By|(apply bD<;>intro hb<;>cbv)
 all_goals(subst hO hr hF;(try simp only[nc]at*);(try simp only[ah,SS,sa,az]at*))
 all_goals first
  | (show(_:List DV)=_
     first
      |exact ai (W5 (by omega)).symm
      |exact ai (W6 (by omega)).symm
      |done)
  |exact hp
  |(show aP _ _=true;kernel_rfl)
  |done
theorem Cr :ec 102 fu:=by
 intro _ _ _ h hp;dsimp only[fu,F0]at h;split at h<;>cases h
 rename_i cs us es c rs;refine cb Ka0 Tryz.func102 ?_
 intro O r F hO hr hF;cbv
 repeat' first|apply By|(apply bD<;>intro hb<;>cbv)
 all_goals(subst hO hr hF;(try simp only[nc]at*);(try simp only[ah,SS,sa,az]at*))
 all_goals first
  | (show(_:List DV)=_
     first
      |exact ai (W7 (by assumption)).symm
      |exact ai (W8 (by assumption))
      |done)
  |exact hp
  |(show aP _ _=true;kernel_rfl)
  |done
def mF :EC:=fun F=>fun
 |[.ptr [.s 1 cs,.s 1 us,.s 2 es,.v (.int .i64 c),.s 1 rs],.one (.v (.int .i64 p))]=>some (fun _=>Rw [tI,tI] es,[.j (F.peM es p)])
 |_=>none
theorem Aa :ec 328 mF:=by
 intro _ _ _ h hp;dsimp only[mF,F0]at h;split at h<;>cases h
 rename_i cs us es c rs p;refine cb Ka0 Tryz.func328 ?_
 intro O r F hO hr hF;cbv
 repeat' first|apply By|(apply bD<;>intro hb<;>cbv)
 all_goals(subst hO hr hF;(try simp only[nc]at*);(try simp only[ah,SS,sa,az]at*))
 all_goals first|(show(_:List DV)=_;exact rfl)|exact hp|(show aP _ _=true;kernel_rfl)|done
abbrev Ka1 :cW:=eF (fun F f=>match f with|312=>cK F|368=>cK F|_=>fun _=>none) (by
 intro f;dsimp only;split;exact lO;exact lW;exact cX)
def fx :EP:=fun F=>fun
 |[.mp [.own (.s 1 cs),.own (.s 1 us),.own (.s 2 es),.own (.v (.int .i64 c)),.own (.s 1 rs)],.one (.v (.int .i64 f))]=>some (fun _=>Rw [.sl [tI]] cs/\Rw [tB] us/\Rw [tI,tI] es/\es.length<=1099511627776/\0<=f/\f<cs.length/\us.length=cs.length,[[.own (.s 1 (F.dfC cs es f)),.own (.s 1 (F.dfU us es f)),.own (.s 2 es),.own (.i c),.own (.s 1 rs)]],[])
 |_=>none
theorem zh :ep 343 fx:=by
 intro _ _ _ _ h hp;dsimp only[fx,F0]at h;split at h<;>cases h
 rename_i cs us es c rs f;obtain⟨wc,wu,we,el,f0,f1,ul⟩:=hp;refine pb Ka1 Tryz.func343 ?_
 exact aaL
theorem zZ :ep 398 fx:=by
 intro _ _ _ _ h hp;dsimp only[fx,F0]at h;split at h<;>cases h
 rename_i cs us es c rs f;obtain⟨wc,wu,we,el,f0,f1,ul⟩:=hp;refine pb Ka1 Tryz.func398 ?_
 exact aaL
abbrev Ka2 :cW:={
 Φ:=qj
 F0:=F0
 ct:=fun F f=>match f with|159=>cZ F|333=>fu F|289=>jW F|_=>fun _=>none
 hc:=(by
  intro f;dsimp only;split;exact nu;exact zb;exact sc;exact cX)
 pt:=fun F f=>match f with|343=>some (fx F)|_=>none
 hp:=(by
  intro f mk h;dsimp only at h;split at h<;>cases h
  exact zh)}
def nQ :EC:=fun F=>fun
 |[.agg [.s 1 cs,.s 1 us,.s 2 es,.v (.int .i64 c),.s 1 rs],.one (.v (.int .i64 p))]=>some (fun _=>Rw [.sl [tI]] cs/\Rw [tB] us/\Rw [tI,tI] es/\Rw [tI] rs/\ak cs<=1099511627776/\ak us<=1099511627776/\ak es<=1099511627776/\ak rs<=1099511627776,[.agg [.s 1 (F.ktC (F.ccB cs us es c rs) cs es p),.s 1 (F.ktU (F.ccB cs us es c rs) us es p),.s 2 (F.ktE (F.ccB cs us es c rs) es p),.i c,.s 1 rs],.k (F.ktB (F.ccB cs us es c rs) es p)])
 |_=>none
theorem B0 :ec 242 nQ:=by
 intro _ _ _ h hp;dsimp only[nQ,F0]at h;split at h<;>cases h
 rename_i cs us es c rs p;obtain⟨wc,wu,we,wr,c1,c2,c3,c4⟩:=hp;have l3:=av (es:=es);refine cb Ka2 Tryz.func242 ?_
 intro O r F hO hr hF;cbv
 repeat' first|apply By|(apply bD<;>intro hb<;>cbv)
 all_goals(subst hO hr hF;(try simp only[nc]at*);(try simp only[ah,SS,sa,az]at*);(try have mp:mapB es p=true:=(by assumption));(try have at_:=ER mp);(try have p0:=at_.1.1);(try have p1:=at_.1.2);(try simp only[ng (l:=es) (sz:=2) (j:=1) (i:=p) p0]at*);(try have cc:=Rc (cs:=cs) (us:=us) (es:=es) (c:=c) (rs:=rs) (by assumption));(try have km:=(uq cc.2).1);(try have fr:=JK km mp);(try have ul:=km.u);(try have um:=Tg we at_.1.1 at_.1.2);(try simp only[um]at*);(try have rm:=(show Rw [tI,tI] (DC es p)from Qo (m:=0) (f:=0) we (by omega) (by omega)));(try have ll:(DC es p).length=es.length:=adr))
 all_goals first
  | (show(_:List DV)=_
     first
      |(have q:=Yw (k:=ccB cs us es c rs) (cs:=cs) (us:=us) (es:=es) (p:=p) (by assumption);first|(rw[q.1,q.2.1,q.2.2.1,q.2.2.2];done)|(rw[q.1,q.2.1,q.2.2.1,q.2.2.2];exact rfl))
      |(have q:=abU (k:=ccB cs us es c rs) (cs:=cs) (us:=us) (es:=es) (p:=p) (by assumption);first|(rw[q.1,q.2.1,q.2.2.1,q.2.2.2];done)|(rw[q.1,q.2.1,q.2.2.1,q.2.2.2];exact rfl))
      |(have q:=Yx (k:=ccB cs us es c rs) (cs:=cs) (us:=us) (es:=es) (p:=p) (by assumption);have z:=YA (cs:=cs) (us:=us) mp;first|(rw[q.1,q.2.1,q.2.2.1,q.2.2.2,z.1,z.2.1,z.2.2,mp,at_.2.2.1];done)|(rw[q.1,q.2.1,q.2.2.1,q.2.2.2,z.1,z.2.1,z.2.2,mp,at_.2.2.1];exact rfl))
      |done)
  |omega
  |exact⟨wc,wu,we,wr,c1,c2,c3,c4⟩
  |exact⟨wc,wu,we,wr⟩
  |exact we
  |exact⟨wc,wu,rm,by omega,fr.1,fr.2,ul⟩
  |exact aai we at_.1.1 at_.1.2 (by decide)
  |exact U4 we at_.1.1 at_.1.2 (by decide)
  |exact Tc we p0 p1
  |(show aP _ _=true;kernel_rfl)
  |exact gp
  |exact⟨ac2,ac2⟩
  |exact ac2
  |done
abbrev Ka3 :cW:={
 Φ:=qj
 F0:=F0
 ct:=fun F f=>match f with|328=>mF F|_=>fun _=>none
 hc:=(by
  intro f;dsimp only;split;exact Aa;exact cX)
 pt:=fun F f=>match f with|398=>some (fx F)|_=>none
 hp:=(by
  intro f mk h;dsimp only at h;split at h<;>cases h
  exact zZ)}
def k8 :EP:=fun F=>fun
 |[.mp [.own (.s 1 cs),.own (.s 1 us),.own (.s 2 es),.own (.v (.int .i64 c)),.own (.s 1 rs)],.one (.v (.int .i64 p))]=>some (fun _=>Rw [.sl [tI]] cs/\Rw [tB] us/\Rw [tI,tI] es/\Rw [tI] rs/\BX cs us es,[[.own (.s 1 (F.kuC cs es p)),.own (.s 1 (F.kuU us es p)),.own (.s 2 (F.kuE es p)),.own (.i c),.own (.s 1 rs)]],[.k (F.mapB es p)])
 |_=>none
theorem yf :ep 340 k8:=by
 intro _ _ _ _ h hp;dsimp only[k8,F0]at h;split at h<;>cases h
 rename_i cs us es c rs p;obtain⟨wc,wu,we,wr,km⟩:=hp;have e1:=km.e1;refine pb Ka3 Tryz.func340 ?_
 intro O r os F hO hr hos hF;cbv
 repeat' first|apply By|(apply bD<;>intro hb<;>cbv)
 all_goals((try subst hos);subst hO hr hF;(try simp only[nc]at*);(try simp only[ah,SS,sa,az]at*);(try have mp:mapB es p=true:=decide_eq_true (by assumption));(try have at_:=ER mp);(try have p0:=at_.1.1);(try have p1:=at_.1.2);(try simp only[ng (l:=es) (sz:=2) (j:=1) (i:=p) p0]at*);(try have fr:=JK km mp);(try have ul:=km.u);(try have um:=Tg we at_.1.1 at_.1.2);(try simp only[um]at*);(try have rm:=(show Rw [tI,tI] (DC es p)from Qo (m:=0) (f:=0) we (by omega) (by omega)));(try have ll:(DC es p).length=es.length:=adr))
 all_goals first
  | (show(_:List DV)=_
     first
      |exact ai (show false=mapB es p from(decide_eq_false (fun n=>n (by assumption))).symm)
      |exact ai mp.symm
      |done)
  | (show(_:List H)=_
     first
      |(have z:=Yy (cs:=cs) (us:=us) (es:=es) (p:=p) (decide_eq_false (fun n=>n (by assumption)));first|(rw[z.1,z.2.1,z.2.2];done)|(rw[z.1,z.2.1,z.2.2];exact rfl))
      |(have z:=YA (cs:=cs) (us:=us) mp;first|(rw[z.1,z.2.1,z.2.2,at_.2.2.1];done)|(rw[z.1,z.2.1,z.2.2,at_.2.2.1];exact rfl))
      |done)
  |omega
  |exact we
  |exact⟨wc,wu,rm,by omega,fr.1,fr.2,ul⟩
  |exact U4 we at_.1.1 at_.1.2 (by decide)
  |exact Tc we p0 p1
  |(show aP _ _=true;kernel_rfl)
  |exact gp
  |exact⟨ac2,ac2⟩
  |exact ac2
  |done
abbrev Ka4 :cW:=eF (fun F f=>match f with|167=>cN F|285=>da F|160=>gn F|135=>cN F|264=>da F|_=>fun _=>none) (by
 intro f;dsimp only;split;exact pQ;exact qD;exact ny;exact kw;exact pa;exact cX)
def eO :EC:=fun F=>fun
 |[.one (.v (.int .i64 n)),.one (.s 2 rs),.agg [.v (.int .i64 a),.v (.int .i64 l)]]=>some (fun _=>0<=n/\n<=1099511627776/\Rw [tI,tI] rs/\rs.length<=1073741824,[.one (.s 2 (F.rpL n rs a l)),.k (F.rpB n rs a l)])
 |_=>none
theorem xj :ec 243 eO:=by
 intro _ _ _ h hp;dsimp only[eO,F0]at h;split at h<;>cases h
 rename_i n rs a l;obtain⟨n0,n1,wr,hl⟩:=hp;refine cb Ka4 Tryz.func243 ?_
 intro O r F hO hr hF;cbv
 repeat' first|apply By|(apply bD<;>intro hb<;>cbv)|(refine⟨[1,5,8,9,25,26,27],[5,8],Int×aa×Int×Int×Bool,fun s_=>match s_ with|(i,o,x,y,d)=>[.reg 27 (.j i),.reg 9 (.k d),.reg 8 (.one (.vw 8 0 0 0 (O.ln o))),.leaf 8 0 ⟨0,0,none,.own (.s 2 o)⟩,.leaf 5 0 ⟨0,0,none,.own (.i x)⟩,.leaf 5 1 ⟨0,0,none,.own (.i y)⟩],fun s_=>match s_ with|(i,o,x,y,d)=>0<=i/\i<=(rs.length:Int)/\HA rs a l i o x y d/\o.length<=2*i.toNat,fun s_=>match s_ with|(i,o,x,y,d)=>rs.length-i.toNat,⟨(0,[],a,l,false),?_,?_⟩,?_⟩;rotate_left;(focus (cbv;done));intro s_ hi;obtain⟨i,o,x,y,d⟩:=s_;replace hi:0<=i/\i<=(rs.length:Int)/\HA rs a l i o x y d/\o.length<=2*i.toNat:=hi;obtain⟨i0,i1,i2,i3⟩:=hi;cbv)|(refine ab (O.ar .add .i64 i 1,o,O.gi rs i 0,O.ar .add .i64 (O.gi rs i 1) y,d) ?_ ?_ ?_;focus (cbv;done))|(refine ab (O.ar .add .i64 i 1,o,x,O.ar .add .i64 y (O.gi rs i 1),d) ?_ ?_ ?_;focus (cbv;done))|(refine ab (O.ar .add .i64 i 1,O.cat o (O.sub [[.i x,.i y],[.i (O.gi rs i 0),.i (O.gi rs i 1)]] 0 (O.ln [[.i x,.i y],[.i (O.gi rs i 0),.i (O.gi rs i 1)]])),x,y,true) ?_ ?_ ?_;focus (cbv;done))|(refine ab (O.ar .add .i64 i 1,O.cat o (O.sub [[.i (O.gi rs i 0),.i (O.gi rs i 1)]] 0 (O.ln [[.i (O.gi rs i 0),.i (O.gi rs i 1)]])),x,y,d) ?_ ?_ ?_;focus (cbv;done))
 all_goals(subst hO hr hF;(try simp only[nc]at*);(try simp only[ah,SS,sa,az]at*);(try rw[di (by omega) (by omega)]);(try have rk:rgOk n rs=true:=(by assumption));(try have T:=Bm rk);(try have gi:rngIn n a l=true:=(by assumption));(try have gb:=Kc gi T);(try have ib:=i2.b);(try have xb:=T.b _ (acY (fM (es:=rs) i0 (by omega))));(try have nb:=T.n1);(try simp only at xb);(try have e1:bR .add .i64 x y=x+y:=bE (by omega));(try have e2:bR .add .i64 (ag rs i 0) (ag rs i 1)=ag rs i 0+ag rs i 1:=bE (by omega));(try have e3:bR .add .i64 (ag rs i 1) y=ag rs i 1+y:=bE (by omega));(try have e4:bR .add .i64 y (ag rs i 1)=y+ag rs i 1:=bE (by omega));(try simp only[e1,e2,e3,e4]at*))
 all_goals first
  | (show(_:List DV)=_
     first
      |(have q:rpB n rs a l=false:=(by unfold rpB;rw[show rgOk n rs=false from(by assumption)];rfl);exact vV (GI q).symm q.symm)
      |(have q:rpB n rs a l=false:=(by unfold rpB;rw[show rngIn n a l=false from(by assumption)];simp);exact vV (GI q).symm q.symm)
      |(have q:=VN T i2 i0 (by omega) (by omega) (by omega);exact vV (GI q).symm q.symm)
      |(have q:=yK rk gi i2 (by omega);rw[q.1,q.2];subst_vars;rfl)
      |(have q:=yK rk gi i2 (by omega);first|(rw[q.1,q.2,if_pos (by assumption)];done)|(rw[q.1,q.2,if_pos (by assumption)];exact rfl))
      |(have q:=yK rk gi i2 (by omega);first|(rw[q.1,q.2,if_neg (by simp_all)];done)|(rw[q.1,q.2,if_neg (by simp_all)];exact rfl))
      |done)
  |omega
  |exact gp
  |(show aP _ _=true;kernel_rfl)
  |exact⟨n0,n1,wr,by omega⟩
  |exact⟨n0,n1⟩
  |exact⟨wr,by omega⟩
  |exact SQ gb
  |exact⟨ac2,ac2,ac2⟩
  |exact SR T i2 i0 (by omega) (by omega) (by omega)
  |exact SU T i2 i0 (by omega) (by omega) (by omega) (by omega)
  |exact SV T i2 i0 (by omega) (by omega) (by omega) (by omega) (by omega) (by assumption)
  |exact N6 T i2 i0 (by omega) (by omega) (by omega) (by omega) (by omega)
  |exact N6 T i2 i0 (by omega) (by omega) (by omega) (by omega) (by simp_all)
  |(simp only[AT,ac7,ade];omega)
  |exact Nat.zero_le _
  |exact⟨ac2,ac2⟩
  |exact ac2
  |done
def mG :EC:=fun F=>fun
 |[.one (.s 2 rs)]=>some (fun _=>WS rs/\rs.length<=4294967296,[.one (.s 2 (F.jnR rs))])
 |_=>none
theorem Ac :ec 402 mG:=by
 intro _ _ _ h hp;dsimp only[mG,F0]at h;split at h<;>cases h
 rename_i rs;obtain⟨S,hl⟩:=hp;have wr:=S.w;refine cb Ka4 Tryz.func402 ?_
 intro O r F hO hr hF;cbv
 repeat' first|apply By|(apply bD<;>intro hb<;>cbv)|(refine⟨[0,3,4],[3],Int×aa×Nat,fun s_=>match s_ with|(i,o,m)=>[.reg 4 (.j i),.reg 3 (.one (.vw 3 0 0 0 m)),.leaf 3 0 ⟨0,0,none,.own (.s 2 o)⟩],fun s_=>match s_ with|(i,o,m)=>0<=i/\i<=(rs.length:Int)/\Tx rs i o m,fun s_=>match s_ with|(i,o,m)=>rs.length-i.toNat,⟨(0,[],O.ln []),?_,?_⟩,?_⟩;rotate_left;(focus (cbv;done));intro s_ hi;obtain⟨i,o,m⟩:=s_;replace hi:0<=i/\i<=(rs.length:Int)/\Tx rs i o m:=hi;obtain⟨i0,i1,i2⟩:=hi;cbv)|(refine ab (O.ar .add .i64 i 1,O.up (.s 2 o) [(O.ad 0 (O.ar .sub .i64 (O.zi m) 1),1)] [.i (O.ar .add .i64 (O.pi (.s 2 o) [(O.ad 0 (O.ar .sub .i64 (O.zi m) 1),1)]) (O.gi rs i 1))],m) ?_ ?_ ?_;focus (cbv;done))|(refine ab (O.ar .add .i64 i 1,O.cat o (O.sub [[.i (O.gi rs i 0),.i (O.gi rs i 1)]] 0 (O.ln [[.i (O.gi rs i 0),.i (O.gi rs i 1)]])),O.ln (O.cat o (O.sub [[.i (O.gi rs i 0),.i (O.gi rs i 1)]] 0 (O.ln [[.i (O.gi rs i 0),.i (O.gi rs i 1)]])))) ?_ ?_ ?_;focus (cbv;done))
 all_goals(subst hO hr hF;(try simp only[nc]at*);(try simp only[ah,SS,sa,az]at*);(try rw[di (by omega) (by omega)]);(try have q0:=i2.n);(try have q1:=i2.p.l);(try have q2:=i2.w);(try have e1:bR .sub .i64 (m:Int) 1=(m:Int)-1:=dD (by omega));(try simp only[e1]at*);(try have s:=S.b i i0 (by omega));(try have b:=i2.b ((m:Int)-1) (by omega) (by omega));(try simp only[ng (l:=o) (sz:=2) (j:=0) (i:=(m:Int)-1) (by omega),ng (l:=o) (sz:=2) (j:=1) (i:=(m:Int)-1) (by omega)]at*);(try have e2:bR .add .i64 (ag o ((m:Int)-1) 0) (ag o ((m:Int)-1) 1)=ag o ((m:Int)-1) 0+ag o ((m:Int)-1) 1:=bE (by omega));(try have e3:bR .add .i64 (ag o ((m:Int)-1) 1) (ag rs i 1)=ag o ((m:Int)-1) 1+ag rs i 1:=bE (by omega));(try simp only[e2]at*);(try simp only[e3]at*))
 all_goals first
  | (show(_:List DV)=_
     first
      |(rw[q0,sa];exact congrArg (fun z=>[DV.one (.s 2 z)]) (Jx i2.p (by omega)))
      |exact congrArg (fun z=>[DV.one (.s 2 z)]) (Jx i2.p (by omega))
      |done)
  |omega
  |exact gp
  |(show aP _ _=true;kernel_rfl)
  |exact Yt
  |exact⟨ac2,q0⟩
  |(simp only[ac7,ade];omega)
  |(rw[aat q2 (by omega) (by omega)];exact Yu i2 S i0 (by omega) hl (by omega) (by omega))
  |exact Yv i2 S i0 (by omega) hl (by omega)
  |exact aai q2 (by omega) (by omega) (by decide)
  |exact U4 q2 (by omega) (by omega) (by decide)
  |exact⟨ac2,ac2⟩
  |exact ac2
  |done
abbrev Ka5 :cW:=eF (fun F f=>match f with|135=>cN F|264=>da F|402=>mG F|_=>fun _=>none) (by
 intro f;dsimp only;split;exact kw;exact pa;exact Ac;exact cX)
theorem yd :ec 341 eO:=by
 intro _ _ _ h hp;dsimp only[eO,F0]at h;split at h<;>cases h
 rename_i n rs a l;obtain⟨n0,n1,wr,hl⟩:=hp;have hs:=wr.scal rfl;refine cb Ka5 Tryz.func341 ?_
 intro O r F hO hr hF;cbv
 repeat' first|apply By|(apply bD<;>intro hb<;>cbv)|(refine⟨[1,5,8,9,10,11],[5,8,9],Int×aa×Bool,fun s_=>match s_ with|(i,o,d)=>[.reg 11 (.j i),.reg 10 (.k d),.reg 9 (.one (.vw 9 0 0 0 (O.ln o))),.leaf 9 0 ⟨0,0,none,.own (.s 2 o)⟩],fun s_=>match s_ with|(i,o,d)=>0<=i/\i<=(rs.length:Int)/\BZ rs a l i o d,fun s_=>match s_ with|(i,o,d)=>rs.length-i.toNat,⟨(0,[],false),?_,?_⟩,?_⟩;rotate_left;(focus (cbv;done));intro s_ hi;obtain⟨i,o,d⟩:=s_;replace hi:0<=i/\i<=(rs.length:Int)/\BZ rs a l i o d:=hi;obtain⟨i0,i1,i2⟩:=hi;cbv)|(refine ab (O.ar .add .i64 i 1,O.cat (O.cat o (O.sub [[.i a,.i l]] 0 (O.ln [[.i a,.i l]]))) (O.sub [[.i (O.gi rs i 0),.i (O.gi rs i 1)]] 0 (O.ln [[.i (O.gi rs i 0),.i (O.gi rs i 1)]])),true) ?_ ?_ ?_;focus (cbv;done))|(refine ab (O.ar .add .i64 i 1,O.cat o (O.sub [[.i (O.gi rs i 0),.i (O.gi rs i 1)]] 0 (O.ln [[.i (O.gi rs i 0),.i (O.gi rs i 1)]])),d) ?_ ?_ ?_;focus (cbv;done))
 all_goals(subst hO hr hF;(try simp only[nc]at*);(try simp only[ah,SS,sa,az]at*);(try rw[di (by omega) (by omega)]);(try have rk:rgOk n rs=true:=(by assumption));(try have T:=Bm rk);(try have gi:rngIn n a l=true:=(by assumption));(try have gb:=Kc gi T);(try have im:=i2.m);(try have xb:=T.b _ (acY (fM (es:=rs) i0 (by omega))));(try have nb:=T.n1);(try simp only at xb);(try have e1:bR .add .i64 a l=a+l:=bE (by omega));(try have e2:bR .add .i64 (ag rs i 0) (ag rs i 1)=ag rs i 0+ag rs i 1:=bE (by omega));(try simp only[e1]at*);(try simp only[e2]at*);(try have sm:=VQ T gi i2 hl i1))
 all_goals first
  | (show(_:List DV)=_
     first
      |(have q:rpB n rs a l=false:=(by unfold rpB;rw[show rgOk n rs=false from(by assumption)];rfl);exact vV (GI q).symm q.symm)
      |(have q:rpB n rs a l=false:=(by unfold rpB;rw[show rngIn n a l=false from(by assumption)];simp);exact vV (GI q).symm q.symm)
      |(have q:=VP (n:=n) (rs:=rs) (a0:=a) (l0:=l) i0 (by omega) (by omega) (by omega);exact vV (GI q).symm q.symm)
      |(have q:=Kg rk gi i2 (by omega);first|(rw[q.1,q.2,if_pos (by assumption)];done)|(rw[q.1,q.2,if_pos (by assumption)];exact rfl))
      |(have q:=Kg rk gi i2 (by omega);first|(rw[q.1,q.2,if_neg (by simp_all)];done)|(rw[q.1,q.2,if_neg (by simp_all)];exact rfl))
      |done)
  |omega
  |exact gp
  |(show aP _ _=true;kernel_rfl)
  |exact hs
  |exact⟨n0,n1,wr,by omega⟩
  |exact⟨n0,n1⟩
  |exact⟨wr,by omega⟩
  |exact ZX
  |exact ZY i2 i0 (by omega) (by omega) (by assumption) (by omega)
  |exact N8 i2 i0 (by omega) (by omega) (by simp_all)
  |exact N8 i2 i0 (by omega) (by omega) (by rintro⟨u,v⟩;omega)
  |exact N8 i2 i0 (by omega) (by omega) (by rintro⟨u,v⟩;simp_all)
  |(rw[if_pos (by assumption)]at sm;exact⟨sm,by omega⟩)
  |(rw[if_neg (by simp_all)]at sm;exact⟨sm,by simp only[AT,ac7,ade];omega⟩)
  |(simp only[ade,AT,ac7];omega)
  |exact⟨ac2,ac2⟩
  |exact ac2
  |done
end Go.V