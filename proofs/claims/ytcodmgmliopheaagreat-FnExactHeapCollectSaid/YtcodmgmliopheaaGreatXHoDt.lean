/- Contracts. -/
import Derived.Test.YtcodmgmliopheaaGreatXHoCt
import Derived.Test.YtcodmgmliopheaaGreatXM2
set_option linter.all false
open Go
open And renaming intro->By
open Departure renaming mixedOrders->ahi
open IntKind renaming i64->adl
open True renaming intro->ac2
open Value renaming int->adg
namespace Go.V
open Go Go.Proofs
set_option maxRecDepth 1000000
set_option maxHeartbeats 8000000
open Go.Shelf Go.RowKit Go.Lib in
theorem FZ (base:Option Addr)(len cap i:Nat)(hc:len<=cap)(hm:cap<=9223372036854775807)(hi:i<=len)(w:World)(hb:base=none->cap=0):
 Calls Tryz.prog 326 #[.slice base len cap,.int .i64 i,.int .i64 i] w fun e w'=>e=.returned (.slice base len cap)/\w'=w:=by
 cases base with
 | none=>
   obtain rfl:=hb rfl;obtain rfl:len=0:=by omega
   obtain rfl:i=0:=by omega
   go_enter Tryz.func326,Tryz.ntmps326
   go_wp2
   all_goals(go_ret;exact⟨rfl,rfl⟩)
 | some a=>
   obtain⟨b,off,sp⟩:=a
   go_enter Tryz.func326,Tryz.ntmps326
   go_wp2
   all_goals(go_ret;exact⟨rfl,rfl⟩)
open Go.Shelf Go.RowKit Go.Lib in
theorem F1 (w:World)(es:aa)(b off cap i j:Nat)(S:List Nat)(v1 v2 v3:List Value)(F:qn w 3 es b off cap i j S v1 v2 v3)(hlt:i<j):
 Calls Tryz.prog 326 #[.slice (some ⟨b,off,none⟩) es.length cap,.int .i64 i,.int .i64 j] w fun e w'=>e=.returned (.slice (some ⟨b,off,none⟩) (i+(es.length-j)) cap)/\
  ∃ zs,zs.length=(j-i)*3/\w'=(w.drew.setCells b (off+i*3) v3).setCells b (off+(i+(es.length-j))*3) zs:=by
 obtain⟨A,hA,hsrc⟩:∃ A:Addr,(if cap=j then some (⟨b,off,none⟩:Addr)else some ⟨b,off+j*3,none⟩)=some A/\Hid (∀ t u,v3[t]?=some u->w.drew.cell? (A.add t)=some u):=F.src;have hcap:=F.hcap;have hm:cap<=9223372036854775807:=F.hm;have hij:=F.hij;have hj:=F.hj;have s1:Hid (v3.length=(es.length-j)*3):=F.l3;have s2:Hid (∀ u∈v3,u.oneCell'=true):=F.one;have s3:Hid (∀ t,t<v3.length->(w.drew.cell? ⟨b,off+i*3+t,none⟩).isSome=true/\w.drew.frozen? ⟨b,off+i*3+t,none⟩=false):=by
  intro t ht;rw[F.l3]at ht;rw[Nat.add_assoc];exact F.is (by omega)
 obtain⟨zs,hlz,hcl⟩:=F.clear (P:=Tryz.prog) hlt (t:=61) (e:=139) [adg adl 0,adg adl 0,adg adl 0] Tryz.underlying61 Tryz.zeroValue139 rfl (by intro u hu;simp at hu;rcases hu with rfl|rfl|rfl<;>rfl) rfl;have hW2:Hid (∃ zs',zs'.length=(j-i)*3/\(w.drew.setCells b (off+i*3) v3).setCells b (off+(i+(es.length-j))*3) zs=(w.drew.setCells b (off+i*3) v3).setCells b (off+(i+(es.length-j))*3) zs'):=⟨zs,hlz,rfl⟩;obtain⟨W1,hW1⟩:∃ W1,W1=w.drew.setCells b (off+i*3) v3:=⟨_,rfl⟩;rw[<-hW1]at hcl;have hW:Hid (W1=w.drew.setCells b (off+i*3) v3):=hW1;have mixed:Tryz.prog.follows ahi=true:=mixed;have hic:i<=cap:=by omega
 have hjc:j<=cap:=by omega
 clear hW1 F hlz
 go_enter Tryz.func326,Tryz.ntmps326
 go_wp2_with fail
 go_region_law_o (refine step_append_room rfl (.tmp 22) (.tmp 25) 61 rfl 139 _ 3 Tryz.underlying61 rfl rfl b off i cap (by simp[Act.eval,Act.put]) A (es.length-j) (cap-j) v3 (by simp[Act.eval,Act.put]) s1.out hsrc.out s2.out (by omega) s3.out ?_;rw[<-hW.out])
 go_wp2
 go_ret
 rw[hW.out];exact⟨rfl,hW2⟩
def bi :EO:=fun F=>fun
 |[.one (.s 3 es),.one (.v (.int .i64 i)),.one (.v (.int .i64 j))]=>some (fun _=>0<=i/\i<=j/\j<=es.length,[.one (.s 3 (F.delL es i j))])
 |_=>none
theorem cA :eo 326 bi:=by
 intro _ _ _ h hp;dsimp only[bi,F0]at h;split at h<;>cases h
 rename_i es i j;exact Nt FZ F1 hp
def qL :EC:=fun F=>fun
 |[.agg hl_,.one (.v (.int .i64 p))]=>hL hl_ fun a0 a1 a2 a3 a4 a5 a6 a7 a8 a9 aA aB aC aD aE aF aG aH aI aJ aK aL aM aN=>(fun _=>True,[.k (F.bsB aI aJ aK p)])
 |_=>none
theorem FP :ec 218 qL:=by
 intro _ _ _ h hp;dsimp only[qL,F0,hL]at h;split at h;rotate_left;cases h;split at h<;>cases h
 rename_i p _ a0 a1 a2 a3 a4 a5 a6 a7 a8 a9 aA aB aC aD aE aF aG aH aI aJ aK aL aM aN;refine cb nB Tryz.func218 ?_
 intro O r F hO hr hF;cbv
 repeat' first|apply By|(apply bD<;>intro hb<;>cbv)
 all_goals(subst hO hr hF;(try simp only[nc]at*);(try simp only[ah,SS,sa,az]at*))
 all_goals first
  | (show(_:List DV)=_
     first
      |exact ai (WY (by assumption)).symm
      |exact ai (WW (by assumption) (by assumption)).symm
      |exact ai (WX (by assumption) (by assumption)).symm
      |done)
  |done
def oq :EC:=fun F=>fun
 |[.ptr hl_,.one (.v (.int .i64 p))]=>hL hl_ fun a0 a1 a2 a3 a4 a5 a6 a7 a8 a9 aA aB aC aD aE aF aG aH aI aJ aK aL aM aN=>(fun _=>True,[.k (F.bsB aI aJ aK p)])
 |_=>none
theorem Cu :ec 320 oq:=by
 intro _ _ _ h hp;dsimp only[oq,F0,hL]at h;split at h;rotate_left;cases h;split at h<;>cases h
 rename_i p _ a0 a1 a2 a3 a4 a5 a6 a7 a8 a9 aA aB aC aD aE aF aG aH aI aJ aK aL aM aN;refine cb nB Tryz.func320 ?_
 intro O r F hO hr hF;cbv
 repeat' first|apply By|(apply bD<;>intro hb<;>cbv)
 all_goals(subst hO hr hF;(try simp only[nc]at*);(try simp only[ah,SS,sa,az]at*))
 all_goals first
  | (show(_:List DV)=_
     first
      |exact ai (WY (by assumption)).symm
      |exact ai (WW (by assumption) (Eq.symm (by assumption))).symm
      |(rw[WX (by assumption) (fun e=>absurd e.symm (by assumption))];exact ai (decide_eq_decide.2 ⟨Eq.symm,Eq.symm⟩))
      |done)
  |done
def lc :EC:=fun F=>fun
 |[.ptr hl_]=>hL hl_ fun a0 a1 a2 a3 a4 a5 a6 a7 a8 a9 aA aB aC aD aE aF aG aH aI aJ aK aL aM aN=>(fun _=>a2.length<=1073741824,[.j (F.zlI a2)])
 |_=>none
theorem yi :ec 342 lc:=by
 intro _ _ _ h hp;dsimp only[lc,F0,hL]at h;split at h;rotate_left;cases h;split at h<;>cases h
 rename_i a0 a1 a2 a3 a4 a5 a6 a7 a8 a9 aA aB aC aD aE aF aG aH aI aJ aK aL aM aN;refine cb nB Tryz.func342 ?_
 intro O r F hO hr hF;cbv
 repeat' first|apply By|(apply bD<;>intro hb<;>cbv)
 all_goals(subst hO hr hF;(try simp only[nc]at*);(try simp only[ah,SS,sa,az]at*))
 all_goals first|(show(_:List DV)=_;exact rfl)|done
abbrev Zd1 :cW:=eF (fun F f=>match f with|242=>nQ F|244=>mf F|243=>eO F|_=>fun _=>none) (by
 intro f;dsimp only;split;exact B0;exact ze;exact xj;exact cX)
def jy :EP:=fun F=>fun
 |[.mp hl_,.agg [.v (.int .i64 t),.v (.int .i64 l)]]=>hM hl_ fun a0 a1 a2 a3 a4 a5 a6 a7 a8 a9 aA aB aC aD aE aF aG aH aI aJ aK aL aM aN=>(fun _=>rT a0 a1 a2 a4 a5 a6 a7 a8 a9 aA aB aD aL/\kerOk a0 a1 a2 a3 a4=true/\a3≠100000/\a5.length<=536870911/\0<=t/\0<=l/\t+l<=1000,[(Wu (F.duC a0 a1 a2 t l) (F.duU a0 a1 a2 t l) (F.duE a0 a1 a2 t l) a3 a4 (F.rpL (F.zlI (F.duE a0 a1 a2 t l)) a5 t l) a6 a7 a8 a9 aA aB aC aD aE aF aG aH aI aJ aK aL aM aN)],[])
 |_=>none
theorem vh :ep 111 jy:=by
 intro _ _ _ _ h hp;dsimp only[jy,F0,hM]at h;split at h;rotate_left;cases h;split at h<;>cases h
 rename_i t l _ a0 a1 a2 a3 a4 a5 a6 a7 a8 a9 aA aB aC aD aE aF aG aH aI aJ aK aL aM aN;obtain⟨hp,hk,hn,h5,t0,l0,tl⟩:=hp;have km:=(uq hk).1;have e1:bR .add .i64 t l=t+l:=bE (by omega);have c0:=hp.c0;have c1:=hp.c1;have c2:=hp.c2;have c4:=hp.c4;have c5:=hp.c5;have q2:=av (es:=a2);refine pb Zd1 Tryz.func111 ?_
 intro O r os F hO hr hos hF;cbv
 repeat' first|apply By|(apply bD<;>intro hb<;>cbv)|(refine⟨[0,3,4],[0,3],Int×aa×aa×aa×aa,fun s_=>match s_ with|(p,c,u,e,r)=>[.reg 4 (.j p),.leaf 0 0 ⟨0,0,none,.own (.s 1 c)⟩,.leaf 0 1 ⟨0,0,none,.own (.s 1 u)⟩,.leaf 0 2 ⟨0,0,none,.own (.s 2 e)⟩,.leaf 0 3 ⟨0,0,none,.own (.i a3)⟩,.leaf 0 4 ⟨0,0,none,.own (.s 1 r)⟩],fun s_=>match s_ with|(p,c,u,e,r)=>t<=p/\p<=t+l/\Tp a0 a1 a2 t p c u e/\r=a4,fun s_=>match s_ with|(p,c,u,e,r)=>(t+l-p).toNat,⟨(t,a0,a1,a2,a4),?_,?_⟩,?_⟩;rotate_left;(focus (cbv;done));intro s_ hp;obtain⟨p,c,u,e,r⟩:=s_;replace hp:t<=p/\p<=t+l/\Tp a0 a1 a2 t p c u e/\r=a4:=hp;obtain⟨p0,p1,p2,p3⟩:=hp;cbv)|(refine ab (O.ar .add .i64 p 1,F.ktC (F.ccB (O.sub c 0 (O.ln c)) (O.sub u 0 (O.ln u)) (O.sub e 0 (O.ln e)) a3 (O.sub r 0 (O.ln r))) (O.sub c 0 (O.ln c)) (O.sub e 0 (O.ln e)) p,F.ktU (F.ccB (O.sub c 0 (O.ln c)) (O.sub u 0 (O.ln u)) (O.sub e 0 (O.ln e)) a3 (O.sub r 0 (O.ln r))) (O.sub u 0 (O.ln u)) (O.sub e 0 (O.ln e)) p,F.ktE (F.ccB (O.sub c 0 (O.ln c)) (O.sub u 0 (O.ln u)) (O.sub e 0 (O.ln e)) a3 (O.sub r 0 (O.ln r))) (O.sub e 0 (O.ln e)) p,(O.sub r 0 (O.ln r))) ?_ ?_ ?_;focus (cbv;done))
 all_goals((try subst hos);subst hO hr hF;(try simp only[nc]at*);(try simp only[ah,SS,sa,az]at*);(try simp only[e1]at*);(try rw[di (by omega) (by omega)]);(try subst p3);(try have dc:=Pu p2);(try have el:=p2.l);(try have cc:=T0 p2.m hk hn);(try have kk:=Yx (cs:=c) (us:=u) (es:=e) (p:=p) cc);(try have en:=Pv (l:=l) p2 (by omega) (by omega)))
 all_goals first
  |(show(_:List DV)=_;exact rfl)
  | (show(_:List H)=_
     first
      |(first|(rw[<-en.1, <-en.2.1, <-en.2.2];done)|(rw[<-en.1, <-en.2.1, <-en.2.2];exact rfl))
      |done)
  |omega
  |exact⟨p2.rc,p2.ru,p2.re,hp.r4,by omega,by omega,by omega,by omega⟩
  |exact Xx km hp.r0 hp.r1 hp.r2
  |(show(_:aa)=_;exact rfl)
  |(rw[kk.1,kk.2.1,kk.2.2.1];exact Ui p2 p0)
  |exact⟨by unfold zlI;omega,by unfold zlI;omega,hp.r5,by omega⟩
  |(show aP _ _=true;kernel_rfl)
  |exact⟨ac2,ac2⟩
  |exact ac2
  |done
abbrev Zd2 :cW:={
 Φ:=qj
 F0:=F0
 ct:=fun F f=>match f with|341=>eO F|342=>lc F|_=>fun _=>none
 hc:=(by
  intro f;dsimp only;split;exact yd;exact yi;exact cX)
 pt:=fun F f=>match f with|111=>some (jy F)|340=>some (k8 F)|_=>none
 hp:=(by
  intro f mk h;dsimp only at h;split at h<;>cases h
  exact vh;exact yf)
 ot:=fun F f=>match f with|326=>some (bi F)|_=>none
 ho:=(by
  intro f mk h;dsimp only at h;split at h<;>cases h
  exact cA)}
def eQ :EP:=fun F=>fun
 |[.mp hl_,.one (.v (.int .i64 i))]=>hM hl_ fun a0 a1 a2 a3 a4 a5 a6 a7 a8 a9 aA aB aC aD aE aF aG aH aI aJ aK aL aM aN=>(fun _=>rT a0 a1 a2 a4 a5 a6 a7 a8 a9 aA aB aD aL/\kerOk a0 a1 a2 a3 a4=true/\a3≠100000/\a5.length<=536870911/\0<=i/\i<a6.length/\0<=ag a6 i 0/\ag a6 i 0<=31,[(Wu (F.dsC a0 a1 a2 a6 i) (F.dsU a0 a1 a2 a6 i) (F.dsE a0 a1 a2 a6 i) a3 a4 (F.dsF a0 a1 a2 a5 a6 i) (F.dsS a6 i) a7 a8 a9 aA aB aC aD aE aF aG aH aI aJ aK aL aM aN)],[])
 |_=>none
theorem xq :ep 219 eQ:=by
 intro _ _ _ _ h hp;dsimp only[eQ,F0,hM]at h;split at h;rotate_left;cases h;split at h<;>cases h
 rename_i i _ a0 a1 a2 a3 a4 a5 a6 a7 a8 a9 aA aB aC aD aE aF aG aH aI aJ aK aL aM aN;obtain⟨hp,hk,hn,h5,i0,i1,g0,g1⟩:=hp;have km:=(uq hk).1;have c5:=hp.c5;have c6:=hp.c6;have c2:=hp.c2;have q6:=av (es:=a6);have q2:=av (es:=a2);have q5:=av (es:=a5);have e1:bR .add .i64 i 1=i+1:=bE (by omega);have hs6:=hp.r6.scal rfl;have kl:=EK (es:=a2) (p:=ag a6 i 0);refine pb Zd2 Tryz.func219 ?_
 exact aaC
theorem Ag :ep 321 eQ:=by
 intro _ _ _ _ h hp;dsimp only[eQ,F0,hM]at h;split at h;rotate_left;cases h;split at h<;>cases h
 rename_i i _ a0 a1 a2 a3 a4 a5 a6 a7 a8 a9 aA aB aC aD aE aF aG aH aI aJ aK aL aM aN;obtain⟨hp,hk,hn,h5,i0,i1,g0,g1⟩:=hp;have km:=(uq hk).1;have c5:=hp.c5;have c6:=hp.c6;have c2:=hp.c2;have q6:=av (es:=a6);have q2:=av (es:=a2);have q5:=av (es:=a5);have e1:bR .add .i64 i 1=i+1:=bE (by omega);have hs6:=hp.r6.scal rfl;have kl:=EK (es:=a2) (p:=ag a6 i 0);refine pb Zd2 Tryz.func321 ?_
 exact aaC
end Go.V