/- Contracts. -/
import Derived.Test.YtllcfbgmhgodhaaGreatHoCr
import Derived.Test.YtllcfbgmhgodhaaGreatOfCr
set_option linter.all false
namespace Go.V
open Go Go.Proofs
set_option maxRecDepth 1000000
set_option maxHeartbeats 8000000
open Go.Shelf Go.RowKit Go.Lib in
theorem Av (base:Option Addr)(len cap i:Nat)(hc:len<=cap)(hm:cap<=9223372036854775807)(hi:i<=len)(w:World)(hb:base=none->cap=0):
 Calls Tryz.prog 197 #[.slice base len cap,.int .i64 i,.int .i64 i] w fun e w'=>e=.returned (.slice base len cap)/\w'=w:=by
 cases base with
 | none=>
   obtain rfl:=hb rfl;obtain rfl:len=0:=by omega
   obtain rfl:i=0:=by omega
   go_enter Tryz.func197,Tryz.ntmps197
   go_wp2
   all_goals(go_ret;exact⟨rfl,rfl⟩)
 | some a=>
   obtain⟨b,off,sp⟩:=a
   go_enter Tryz.func197,Tryz.ntmps197
   go_wp2
   all_goals(go_ret;exact⟨rfl,rfl⟩)
open Go.Shelf Go.RowKit Go.Lib in
theorem Aw (w:World)(es:aa)(b off cap i j:Nat)(S:List Nat)(v1 v2 v3:List Value)(F:kj w 3 es b off cap i j S v1 v2 v3)(hlt:i<j):
 Calls Tryz.prog 197 #[.slice (some ⟨b,off,none⟩) es.length cap,.int .i64 i,.int .i64 j] w fun e w'=>e=.returned (.slice (some ⟨b,off,none⟩) (i+(es.length-j)) cap)/\
  ∃ zs,zs.length=(j-i)*3/\w'=(w.drew.setCells b (off+i*3) v3).setCells b (off+(i+(es.length-j))*3) zs:=by
 obtain⟨A,hA,hsrc⟩:∃ A:Addr,(if cap=j then some (⟨b,off,none⟩:Addr)else some ⟨b,off+j*3,none⟩)=some A/\Hid (∀ t u,v3[t]?=some u->w.drew.cell? (A.add t)=some u):=F.src;have hcap:=F.hcap;have hm:cap<=9223372036854775807:=F.hm;have hij:=F.hij;have hj:=F.hj;have s1:Hid (v3.length=(es.length-j)*3):=F.l3;have s2:Hid (∀ u∈v3,u.oneCell'=true):=F.one;have s3:Hid (∀ t,t<v3.length->(w.drew.cell? ⟨b,off+i*3+t,none⟩).isSome=true/\w.drew.frozen? ⟨b,off+i*3+t,none⟩=false):=by
  intro t ht;rw[F.l3]at ht;rw[Nat.add_assoc];exact F.is (by omega)
 obtain⟨zs,hlz,hcl⟩:=F.clear (P:=Tryz.prog) hlt (t:=61) (e:=135) [Value.int IntKind.i64 0,Value.int IntKind.i64 0,Value.int IntKind.i64 0] Tryz.underlying61 Tryz.zeroValue135 rfl (by intro u hu;simp at hu;rcases hu with rfl|rfl|rfl<;>rfl) rfl;have hW2:Hid (∃ zs',zs'.length=(j-i)*3/\(w.drew.setCells b (off+i*3) v3).setCells b (off+(i+(es.length-j))*3) zs=(w.drew.setCells b (off+i*3) v3).setCells b (off+(i+(es.length-j))*3) zs'):=⟨zs,hlz,rfl⟩;obtain⟨W1,hW1⟩:∃ W1,W1=w.drew.setCells b (off+i*3) v3:=⟨_,rfl⟩;rw[<-hW1]at hcl;have hW:Hid (W1=w.drew.setCells b (off+i*3) v3):=hW1;have mixed:Tryz.prog.follows Departure.mixedOrders=true:=mixed;have hic:i<=cap:=by omega
 have hjc:j<=cap:=by omega
 clear hW1 F hlz
 go_enter Tryz.func197,Tryz.ntmps197
 go_wp2_with fail
 go_region_law_o (refine step_append_room rfl (.tmp 22) (.tmp 25) 61 rfl 135 _ 3 Tryz.underlying61 rfl rfl b off i cap (by simp[Act.eval,Act.put]) A (es.length-j) (cap-j) v3 (by simp[Act.eval,Act.put]) s1.out hsrc.out s2.out (by omega) s3.out ?_;rw[<-hW.out])
 go_wp2
 go_ret
 rw[hW.out];exact⟨rfl,hW2⟩
theorem ca {es:aa}{i j:Int}(hp:0<=i/\i<=j/\j<=es.length):Fb Tryz.prog 197 [.one (.s 3 es),.j i,.j j] [.one (.s 3 (delL es i j))]:=by
 exact G4 Av Aw hp
theorem Ao {a0 a1 a2:aa}{a3:Int}{a4 a5 a6 a7 a8 a9 aA aB:aa}{aC:Int}{aD:aa}{aE aF aG aH:Int}{aI:Bool}{aJ aK:Int}{aL:aa}{aM aN p:Int}(hp:True):au 88 [.agg (eD a0 a1 a2 a3 a4 a5 a6 a7 a8 a9 aA aB aC aD aE aF aG aH aI aJ aK aL aM aN),.j p] [.k (bsB aI aJ aK p)]:=by
 refine cb nB Tryz.func88 ?_
 intro O r F hO hr hF;cbv
 repeat' first|apply And.intro|(apply be<;>intro hb<;>cbv)
 all_goals(subst hO hr hF;(try simp only[nc]at*);(try simp only[aj,SS,sa,az]at*))
 all_goals first
  | (show(_:List DV)=_
     first
      |exact ak (O5 (by assumption)).symm
      |exact ak (O3 (by assumption) (by assumption)).symm
      |exact ak (O4 (by assumption) (by assumption)).symm
      |done)
  |done
theorem wV {a0 a1 a2:aa}{a3:Int}{a4 a5 a6 a7 a8 a9 aA aB:aa}{aC:Int}{aD:aa}{aE aF aG aH:Int}{aI:Bool}{aJ aK:Int}{aL:aa}{aM aN p:Int}(hp:True):au 85 [.ptr (eD a0 a1 a2 a3 a4 a5 a6 a7 a8 a9 aA aB aC aD aE aF aG aH aI aJ aK aL aM aN),.j p] [.k (bsB aI aJ aK p)]:=by
 refine cb nB Tryz.func85 ?_
 intro O r F hO hr hF;cbv
 repeat' first|apply And.intro|(apply be<;>intro hb<;>cbv)
 all_goals(subst hO hr hF;(try simp only[nc]at*);(try simp only[aj,SS,sa,az]at*))
 all_goals first
  | (show(_:List DV)=_
     first
      |exact ak (O5 (by assumption)).symm
      |exact ak (O3 (by assumption) (Eq.symm (by assumption))).symm
      |(rw[O4 (by assumption) (fun e=>absurd e.symm (by assumption))];exact ak (decide_eq_decide.2 ⟨Eq.symm,Eq.symm⟩))
      |done)
  |done
theorem j7 {a0 a1 a2:aa}{a3:Int}{a4 a5 a6 a7 a8 a9 aA aB:aa}{aC:Int}{aD:aa}{aE aF aG aH:Int}{aI:Bool}{aJ aK:Int}{aL:aa}{aM aN:Int}(hp:a2.length<=1073741824):au 194 [.ptr (eD a0 a1 a2 a3 a4 a5 a6 a7 a8 a9 aA aB aC aD aE aF aG aH aI aJ aK aL aM aN)] [.j (zlI a2)]:=by
 refine cb nB Tryz.func194 ?_
 intro O r F hO hr hF;cbv
 repeat' first|apply And.intro|(apply be<;>intro hb<;>cbv)
 all_goals(subst hO hr hF;(try simp only[nc]at*);(try simp only[aj,SS,sa,az]at*))
 all_goals first|(show(_:List DV)=_;exact rfl)|done
namespace Zd1
structure aQ where
 ktC:Bool->aa->aa->Int->aa
 ccB:aa->aa->aa->Int->aa->Bool
 ktU:Bool->aa->aa->Int->aa
 ktE:Bool->aa->Int->aa
 ktB:Bool->aa->Int->Bool
 zlI:aa->Int
 rpL:Int->aa->Int->Int->aa
 rpB:Int->aa->Int->Int->Bool
abbrev F0 :aQ:=⟨ktC,ccB,ktU,ktE,ktB,zlI,rpL,rpB⟩
def ct (F:aQ):CT:=fun f ds=>match f,ds with
 |205,[.agg [.s 1 cs,.s 1 us,.s 2 es,.v (.int .i64 c),.s 1 rs],.one (.v (.int .i64 p))]=>some (fun _=>Rw [.sl [tI]] cs/\Rw [tB] us/\Rw [tI,tI] es/\Rw [tI] rs/\ah cs<=1099511627776/\ah us<=1099511627776/\ah es<=1099511627776/\ah rs<=1099511627776,[.agg [.s 1 (F.ktC (F.ccB cs us es c rs) cs es p),.s 1 (F.ktU (F.ccB cs us es c rs) us es p),.s 2 (F.ktE (F.ccB cs us es c rs) es p),.i c,.s 1 rs],.k (F.ktB (F.ccB cs us es c rs) es p)])
 |207,[.agg [.s 1 a0,.s 1 a1,.s 2 a2,.v (.int .i64 a3),.s 1 a4,.s 2 a5,.s 3 a6,.s 3 a7,.s 4 a8,.s 1 a9,.s 1 aA,.s 1 aB,.v (.int .i64 aC),.s 3 aD,.v (.int .i64 aE),.v (.int .i64 aF),.v (.int .i64 aG),.v (.int .i64 aH),.v (.bool aI),.v (.int .i64 aJ),.v (.int .i64 aK),.s 1 aL,.v (.int .i64 aM),.v (.int .i64 aN)]]=>some (fun _=>a2.length<=1073741824,[.j (F.zlI a2)])
 |206,[.one (.v (.int .i64 n)),.one (.s 2 rs),.agg [.v (.int .i64 a),.v (.int .i64 l)]]=>some (fun _=>0<=n/\n<=1099511627776/\Rw [tI,tI] rs/\rs.length<=1073741824,[.one (.s 2 (F.rpL n rs a l)),.k (F.rpB n rs a l)])
 |_,_=>none
theorem ai :aS (ct F0):=by
 intro f ds pre res h hp;unfold ct at h;split at h<;>cases h
 exact wm hp;exact tG hp;exact ra hp
abbrev B :cy:=tb ai
end Zd1
theorem iZ {a0 a1 a2:aa}{a3:Int}{a4 a5 a6 a7 a8 a9 aA aB:aa}{aC:Int}{aD:aa}{aE aF aG aH:Int}{aI:Bool}{aJ aK:Int}{aL:aa}{aM aN t l:Int}(hp:gg a0 a1 a2 a4 a5 a6 a7 a8 a9 aA aB aD aL/\kerOk a0 a1 a2 a3 a4=true/\a3≠100000/\a5.length<=536870911/\0<=t/\0<=l/\t+l<=1000):kn 96 [.mp (Bz a0 a1 a2 a3 a4 a5 a6 a7 a8 a9 aA aB aC aD aE aF aG aH aI aJ aK aL aM aN),.agg [.i t,.i l]] [(Bz (duC a0 a1 a2 t l) (duU a0 a1 a2 t l) (duE a0 a1 a2 t l) a3 a4 (rpL (zlI (duE a0 a1 a2 t l)) a5 t l) a6 a7 a8 a9 aA aB aC aD aE aF aG aH aI aJ aK aL aM aN)] []:=by
 obtain⟨hp,hk,hn,h5,t0,l0,tl⟩:=hp;have km:=(mg hk).1;have e1:bF .add .i64 t l=t+l:=bc (by omega);have c0:=hp.c0;have c1:=hp.c1;have c2:=hp.c2;have c4:=hp.c4;have c5:=hp.c5;have q2:=ay (es:=a2);refine pb Zd1.B Tryz.func96 ?_
 intro O r os F hO hr hos hF;cbv
 repeat' first|apply And.intro|(apply be<;>intro hb<;>cbv)|(refine⟨[0,3,4],[0,3],Int×aa×aa×aa×aa,fun s_=>match s_ with|(p,c,u,e,r)=>[.reg 4 (.j p),.leaf 0 0 ⟨0,0,none,.own (.s 1 c)⟩,.leaf 0 1 ⟨0,0,none,.own (.s 1 u)⟩,.leaf 0 2 ⟨0,0,none,.own (.s 2 e)⟩,.leaf 0 3 ⟨0,0,none,.own (.i a3)⟩,.leaf 0 4 ⟨0,0,none,.own (.s 1 r)⟩],fun s_=>match s_ with|(p,c,u,e,r)=>t<=p/\p<=t+l/\H9 a0 a1 a2 t p c u e/\r=a4,fun s_=>match s_ with|(p,c,u,e,r)=>(t+l-p).toNat,⟨(t,a0,a1,a2,a4),?_,?_⟩,?_⟩;rotate_left;(focus (cbv;done));intro s_ hp;obtain⟨p,c,u,e,r⟩:=s_;replace hp:t<=p/\p<=t+l/\H9 a0 a1 a2 t p c u e/\r=a4:=hp;obtain⟨p0,p1,p2,p3⟩:=hp;cbv)|(refine ab (O.ar .add .i64 p 1,F.ktC (F.ccB (O.sub c 0 (O.ln c)) (O.sub u 0 (O.ln u)) (O.sub e 0 (O.ln e)) a3 (O.sub r 0 (O.ln r))) (O.sub c 0 (O.ln c)) (O.sub e 0 (O.ln e)) p,F.ktU (F.ccB (O.sub c 0 (O.ln c)) (O.sub u 0 (O.ln u)) (O.sub e 0 (O.ln e)) a3 (O.sub r 0 (O.ln r))) (O.sub u 0 (O.ln u)) (O.sub e 0 (O.ln e)) p,F.ktE (F.ccB (O.sub c 0 (O.ln c)) (O.sub u 0 (O.ln u)) (O.sub e 0 (O.ln e)) a3 (O.sub r 0 (O.ln r))) (O.sub e 0 (O.ln e)) p,(O.sub r 0 (O.ln r))) ?_ ?_ ?_;focus (cbv;done))
 all_goals((try subst hos);subst hO hr hF;(try simp only[nc]at*);(try simp only[aj,SS,sa,az]at*);(try simp only[e1]at*);(try rw[cv (by omega) (by omega)]);(try subst p3);(try have dc:=De p2);(try have el:=p2.l);(try have cc:=Mi p2.m hk hn);(try have kk:=Qg (cs:=c) (us:=u) (es:=e) (p:=p) cc);(try have en:=yD (l:=l) p2 (by omega) (by omega)))
 all_goals first
  |(show(_:List DV)=_;exact rfl)
  | (show(_:List H)=_
     first
      |(first|(rw[<-en.1, <-en.2.1, <-en.2.2];done)|(rw[<-en.1, <-en.2.1, <-en.2.2];exact rfl))
      |done)
  |omega
  |exact⟨p2.rc,p2.ru,p2.re,hp.r4,by omega,by omega,by omega,by omega⟩
  |exact FL km hp.r0 hp.r1 hp.r2
  |(show(_:aa)=_;exact rfl)
  |(rw[kk.1,kk.2.1,kk.2.2.1];exact yE p2 p0)
  |exact⟨by unfold zlI;omega,by unfold zlI;omega,hp.r5,by omega⟩
  |(show aW _ _=true;kernel_rfl)
  |exact⟨True.intro,True.intro⟩
  |exact True.intro
  |done
namespace Zd2
structure aQ where
 duC:aa->aa->aa->Int->Int->aa
 duU:aa->aa->aa->Int->Int->aa
 duE:aa->aa->aa->Int->Int->aa
 rpL:Int->aa->Int->Int->aa
 zlI:aa->Int
 delL:aa->Int->Int->aa
 mapB:aa->Int->Bool
 kuC:aa->aa->Int->aa
 kuU:aa->aa->Int->aa
 kuE:aa->Int->aa
 rpB:Int->aa->Int->Int->Bool
abbrev F0 :aQ:=⟨duC,duU,duE,rpL,zlI,delL,mapB,kuC,kuU,kuE,rpB⟩
def ct (F:aQ):CT:=fun f ds=>match f,ds with
 |193,[.one (.v (.int .i64 n)),.one (.s 2 rs),.agg [.v (.int .i64 a),.v (.int .i64 l)]]=>some (fun _=>0<=n/\n<=1099511627776/\Rw [tI,tI] rs/\rs.length<=1073741824,[.one (.s 2 (F.rpL n rs a l)),.k (F.rpB n rs a l)])
 |194,[.ptr [.s 1 a0,.s 1 a1,.s 2 a2,.v (.int .i64 a3),.s 1 a4,.s 2 a5,.s 3 a6,.s 3 a7,.s 4 a8,.s 1 a9,.s 1 aA,.s 1 aB,.v (.int .i64 aC),.s 3 aD,.v (.int .i64 aE),.v (.int .i64 aF),.v (.int .i64 aG),.v (.int .i64 aH),.v (.bool aI),.v (.int .i64 aJ),.v (.int .i64 aK),.s 1 aL,.v (.int .i64 aM),.v (.int .i64 aN)]]=>some (fun _=>a2.length<=1073741824,[.j (F.zlI a2)])
 |_,_=>none
theorem ai :aS (ct F0):=by
 intro f ds pre res h hp;unfold ct at h;split at h<;>cases h
 exact j5 hp;exact j7 hp
def pt (F:aQ):PT:=fun f=>match f with
 | 96=>some fun ds=>match ds with
   |[.mp [.own (.s 1 a0),.own (.s 1 a1),.own (.s 2 a2),.own (.v (.int .i64 a3)),.own (.s 1 a4),.own (.s 2 a5),.own (.s 3 a6),.own (.s 3 a7),.own (.s 4 a8),.own (.s 1 a9),.own (.s 1 aA),.own (.s 1 aB),.own (.v (.int .i64 aC)),.own (.s 3 aD),.own (.v (.int .i64 aE)),.own (.v (.int .i64 aF)),.own (.v (.int .i64 aG)),.own (.v (.int .i64 aH)),.own (.v (.bool aI)),.own (.v (.int .i64 aJ)),.own (.v (.int .i64 aK)),.own (.s 1 aL),.own (.v (.int .i64 aM)),.own (.v (.int .i64 aN))],.agg [.v (.int .i64 t),.v (.int .i64 l)]]=>some (fun _=>gg a0 a1 a2 a4 a5 a6 a7 a8 a9 aA aB aD aL/\kerOk a0 a1 a2 a3 a4=true/\a3≠100000/\a5.length<=536870911/\0<=t/\0<=l/\t+l<=1000,[(Bz (F.duC a0 a1 a2 t l) (F.duU a0 a1 a2 t l) (F.duE a0 a1 a2 t l) a3 a4 (F.rpL (F.zlI (F.duE a0 a1 a2 t l)) a5 t l) a6 a7 a8 a9 aA aB aC aD aE aF aG aH aI aJ aK aL aM aN)],[])
   |_=>none
 | 192=>some fun ds=>match ds with
   |[.mp [.own (.s 1 cs),.own (.s 1 us),.own (.s 2 es),.own (.v (.int .i64 c)),.own (.s 1 rs)],.one (.v (.int .i64 p))]=>some (fun _=>Rw [.sl [tI]] cs/\Rw [tB] us/\Rw [tI,tI] es/\Rw [tI] rs/\lT cs us es,[[.own (.s 1 (F.kuC cs es p)),.own (.s 1 (F.kuU us es p)),.own (.s 2 (F.kuE es p)),.own (.i c),.own (.s 1 rs)]],[.k (F.mapB es p)])
   |_=>none
 |_=>none
theorem fO :mP (pt F0):=by
 intro f mk h ds pre outs res hm hp;unfold pt at h;split at h
 ·cases h;dsimp only at hm;split at hm
  ·cases hm;exact iZ hp
  ·cases hm
 ·cases h;dsimp only at hm;split at hm
  ·cases hm;exact j6 hp
  ·cases hm
 ·cases h
def ot (F:aQ):OT:=fun f=>match f with
 | 197=>some fun ds=>match ds with
   |[.one (.s 3 es),.one (.v (.int .i64 i)),.one (.v (.int .i64 j))]=>some (fun _=>0<=i/\i<=j/\j<=es.length,[.one (.s 3 (F.delL es i j))])
   |_=>none
 |_=>none
theorem Q4 :Af Tryz.prog (ot F0):=by
 intro f mk h ds pre hs hm hp;unfold ot at h;split at h
 ·cases h;dsimp only at hm;split at hm
  ·cases hm;exact ca hp
  ·cases hm
 ·cases h
abbrev B :cy:={Φ:=aQ,F0:=F0,ct:=ct,hc:=ai,pt:=pt,hp:=fO,ot:=ot,ho:=Q4}
end Zd2
theorem rq {a0 a1 a2:aa}{a3:Int}{a4 a5 a6 a7 a8 a9 aA aB:aa}{aC:Int}{aD:aa}{aE aF aG aH:Int}{aI:Bool}{aJ aK:Int}{aL:aa}{aM aN i:Int}(hp:gg a0 a1 a2 a4 a5 a6 a7 a8 a9 aA aB aD aL/\kerOk a0 a1 a2 a3 a4=true/\a3≠100000/\a5.length<=536870911/\0<=i/\i<a6.length/\0<=ag a6 i 0/\ag a6 i 0<=31):kn 89 [.mp (Bz a0 a1 a2 a3 a4 a5 a6 a7 a8 a9 aA aB aC aD aE aF aG aH aI aJ aK aL aM aN),.j i] [(Bz (dsC a0 a1 a2 a6 i) (dsU a0 a1 a2 a6 i) (dsE a0 a1 a2 a6 i) a3 a4 (dsF a0 a1 a2 a5 a6 i) (dsS a6 i) a7 a8 a9 aA aB aC aD aE aF aG aH aI aJ aK aL aM aN)] []:=by
 obtain⟨hp,hk,hn,h5,i0,i1,g0,g1⟩:=hp;have km:=(mg hk).1;have c5:=hp.c5;have c6:=hp.c6;have c2:=hp.c2;have q6:=ay (es:=a6);have q2:=ay (es:=a2);have q5:=ay (es:=a5);have e1:bF .add .i64 i 1=i+1:=bc (by omega);have hs6:=hp.r6.scal rfl;have kl:=yU (es:=a2) (p:=ag a6 i 0);refine pb Zd2.B Tryz.func89 ?_
 exact SB
theorem uH {a0 a1 a2:aa}{a3:Int}{a4 a5 a6 a7 a8 a9 aA aB:aa}{aC:Int}{aD:aa}{aE aF aG aH:Int}{aI:Bool}{aJ aK:Int}{aL:aa}{aM aN i:Int}(hp:gg a0 a1 a2 a4 a5 a6 a7 a8 a9 aA aB aD aL/\kerOk a0 a1 a2 a3 a4=true/\a3≠100000/\a5.length<=536870911/\0<=i/\i<a6.length/\0<=ag a6 i 0/\ag a6 i 0<=31):kn 86 [.mp (Bz a0 a1 a2 a3 a4 a5 a6 a7 a8 a9 aA aB aC aD aE aF aG aH aI aJ aK aL aM aN),.j i] [(Bz (dsC a0 a1 a2 a6 i) (dsU a0 a1 a2 a6 i) (dsE a0 a1 a2 a6 i) a3 a4 (dsF a0 a1 a2 a5 a6 i) (dsS a6 i) a7 a8 a9 aA aB aC aD aE aF aG aH aI aJ aK aL aM aN)] []:=by
 obtain⟨hp,hk,hn,h5,i0,i1,g0,g1⟩:=hp;have km:=(mg hk).1;have c5:=hp.c5;have c6:=hp.c6;have c2:=hp.c2;have q6:=ay (es:=a6);have q2:=ay (es:=a2);have q5:=ay (es:=a5);have e1:bF .add .i64 i 1=i+1:=bc (by omega);have hs6:=hp.r6.scal rfl;have kl:=yU (es:=a2) (p:=ag a6 i 0);refine pb Zd2.B Tryz.func86 ?_
 exact SB
namespace Zd3
structure aQ where
 spI:aa->Int->Int
 hpI:aa->aa->aa->Int->aa->aa->aa->aa->aa->aa->aa->aa->Int->aa->Int->Int->Int->Int->Bool->Int->Int->aa->Int->Int->Bool
 bsB:Bool->Int->Int->Int->Bool
 dsC:aa->aa->aa->aa->Int->aa
 dsU:aa->aa->aa->aa->Int->aa
 dsE:aa->aa->aa->aa->Int->aa
 dsF:aa->aa->aa->aa->aa->Int->aa
 dsS:aa->Int->aa
 ccB:aa->aa->aa->Int->aa->Bool
abbrev F0 :aQ:=⟨spI,hpI,bsB,dsC,dsU,dsE,dsF,dsS,ccB⟩
def ct (F:aQ):CT:=fun f ds=>match f with
 | 50=>match ds with
   |[.agg [.s 1 a0,.s 1 a1,.s 2 a2,.v (.int .i64 a3),.s 1 a4,.s 2 a5,.s 3 a6,.s 3 a7,.s 4 a8,.s 1 a9,.s 1 aA,.s 1 aB,.v (.int .i64 aC),.s 3 aD,.v (.int .i64 aE),.v (.int .i64 aF),.v (.int .i64 aG),.v (.int .i64 aH),.v (.bool aI),.v (.int .i64 aJ),.v (.int .i64 aK),.s 1 aL,.v (.int .i64 aM),.v (.int .i64 aN)]]=>some (fun _=>gg a0 a1 a2 a4 a5 a6 a7 a8 a9 aA aB aD aL,[.agg (eD a0 a1 a2 a3 a4 a5 a6 a7 a8 a9 aA aB aC aD aE aF aG aH aI aJ aK aL aM aN)])
   |_=>none
 | 87=>match ds with
   |[.agg [.s 1 a0,.s 1 a1,.s 2 a2,.v (.int .i64 a3),.s 1 a4,.s 2 a5,.s 3 a6,.s 3 a7,.s 4 a8,.s 1 a9,.s 1 aA,.s 1 aB,.v (.int .i64 aC),.s 3 aD,.v (.int .i64 aE),.v (.int .i64 aF),.v (.int .i64 aG),.v (.int .i64 aH),.v (.bool aI),.v (.int .i64 aJ),.v (.int .i64 aK),.s 1 aL,.v (.int .i64 aM),.v (.int .i64 aN)],.one (.v (.int .i64 pg))]=>some (fun _=>Rw [tI,tI,tI] a6/\a6.length<=1099511627776,[.j (F.spI a6 pg)])
   |_=>none
 | 52=>match ds with
   |[.agg [.s 1 a0,.s 1 a1,.s 2 a2,.v (.int .i64 a3),.s 1 a4,.s 2 a5,.s 3 a6,.s 3 a7,.s 4 a8,.s 1 a9,.s 1 aA,.s 1 aB,.v (.int .i64 aC),.s 3 aD,.v (.int .i64 aE),.v (.int .i64 aF),.v (.int .i64 aG),.v (.int .i64 aH),.v (.bool aI),.v (.int .i64 aJ),.v (.int .i64 aK),.s 1 aL,.v (.int .i64 aM),.v (.int .i64 aN)]]=>some (fun _=>E4 a0 a1 a2 a4 a5 a6 a7 a8 a9 aA aB aD aL,[.k (F.hpI a0 a1 a2 a3 a4 a5 a6 a7 a8 a9 aA aB aC aD aE aF aG aH aI aJ aK aL aM aN)])
   |_=>none
 | 88=>match ds with
   |[.agg [.s 1 a0,.s 1 a1,.s 2 a2,.v (.int .i64 a3),.s 1 a4,.s 2 a5,.s 3 a6,.s 3 a7,.s 4 a8,.s 1 a9,.s 1 aA,.s 1 aB,.v (.int .i64 aC),.s 3 aD,.v (.int .i64 aE),.v (.int .i64 aF),.v (.int .i64 aG),.v (.int .i64 aH),.v (.bool aI),.v (.int .i64 aJ),.v (.int .i64 aK),.s 1 aL,.v (.int .i64 aM),.v (.int .i64 aN)],.one (.v (.int .i64 p))]=>some (fun _=>True,[.k (F.bsB aI aJ aK p)])
   |_=>none
 | 38=>match ds with
   |[.agg [.s 1 a0,.s 1 a1,.s 2 a2,.v (.int .i64 a3),.s 1 a4,.s 2 a5,.s 3 a6,.s 3 a7,.s 4 a8,.s 1 a9,.s 1 aA,.s 1 aB,.v (.int .i64 aC),.s 3 aD,.v (.int .i64 aE),.v (.int .i64 aF),.v (.int .i64 aG),.v (.int .i64 aH),.v (.bool aI),.v (.int .i64 aJ),.v (.int .i64 aK),.s 1 aL,.v (.int .i64 aM),.v (.int .i64 aN)]]=>some (fun _=>gg a0 a1 a2 a4 a5 a6 a7 a8 a9 aA aB aD aL,[.agg (eD a0 a1 a2 a3 a4 a5 a6 a7 a8 a9 aA aB aC aD aE aF aG aH aI aJ aK aL aM aN)])
   |_=>none
 | 83=>match ds with
   |[.agg [.s 1 a0,.s 1 a1,.s 2 a2,.v (.int .i64 a3),.s 1 a4,.s 2 a5,.s 3 a6,.s 3 a7,.s 4 a8,.s 1 a9,.s 1 aA,.s 1 aB,.v (.int .i64 aC),.s 3 aD,.v (.int .i64 aE),.v (.int .i64 aF),.v (.int .i64 aG),.v (.int .i64 aH),.v (.bool aI),.v (.int .i64 aJ),.v (.int .i64 aK),.s 1 aL,.v (.int .i64 aM),.v (.int .i64 aN)],.one (.v (.int .i64 pg))]=>some (fun _=>Rw [tI,tI,tI] a6/\a6.length<=1099511627776,[.j (F.spI a6 pg)])
   |_=>none
 | 39=>match ds with
   |[.agg [.s 1 a0,.s 1 a1,.s 2 a2,.v (.int .i64 a3),.s 1 a4,.s 2 a5,.s 3 a6,.s 3 a7,.s 4 a8,.s 1 a9,.s 1 aA,.s 1 aB,.v (.int .i64 aC),.s 3 aD,.v (.int .i64 aE),.v (.int .i64 aF),.v (.int .i64 aG),.v (.int .i64 aH),.v (.bool aI),.v (.int .i64 aJ),.v (.int .i64 aK),.s 1 aL,.v (.int .i64 aM),.v (.int .i64 aN)]]=>some (fun _=>E4 a0 a1 a2 a4 a5 a6 a7 a8 a9 aA aB aD aL,[.k (F.hpI a0 a1 a2 a3 a4 a5 a6 a7 a8 a9 aA aB aC aD aE aF aG aH aI aJ aK aL aM aN)])
   |_=>none
 | 84=>match ds with
   |[.agg [.s 1 cs,.s 1 us,.s 2 es,.v (.int .i64 c),.s 1 rs]]=>some (fun _=>Rw [.sl [tI]] cs/\Rw [tB] us/\Rw [tI,tI] es/\Rw [tI] rs,[.k (F.ccB cs us es c rs)])
   |_=>none
 | 85=>match ds with
   |[.ptr [.s 1 a0,.s 1 a1,.s 2 a2,.v (.int .i64 a3),.s 1 a4,.s 2 a5,.s 3 a6,.s 3 a7,.s 4 a8,.s 1 a9,.s 1 aA,.s 1 aB,.v (.int .i64 aC),.s 3 aD,.v (.int .i64 aE),.v (.int .i64 aF),.v (.int .i64 aG),.v (.int .i64 aH),.v (.bool aI),.v (.int .i64 aJ),.v (.int .i64 aK),.s 1 aL,.v (.int .i64 aM),.v (.int .i64 aN)],.one (.v (.int .i64 p))]=>some (fun _=>True,[.k (F.bsB aI aJ aK p)])
   |_=>none
 |_=>none
theorem ai :aS (ct F0):=by
 intro f ds pre res h hp;unfold ct at h;split at h<;>(try split at h)<;>cases h
 exact fU hp;exact lY hp;exact iD hp;exact Ao hp;exact gQ hp;exact iK hp;exact fy hp;exact md hp;exact wV hp
def pt (F:aQ):PT:=fun f=>match f with
 | 89=>some fun ds=>match ds with
   |[.mp [.own (.s 1 a0),.own (.s 1 a1),.own (.s 2 a2),.own (.v (.int .i64 a3)),.own (.s 1 a4),.own (.s 2 a5),.own (.s 3 a6),.own (.s 3 a7),.own (.s 4 a8),.own (.s 1 a9),.own (.s 1 aA),.own (.s 1 aB),.own (.v (.int .i64 aC)),.own (.s 3 aD),.own (.v (.int .i64 aE)),.own (.v (.int .i64 aF)),.own (.v (.int .i64 aG)),.own (.v (.int .i64 aH)),.own (.v (.bool aI)),.own (.v (.int .i64 aJ)),.own (.v (.int .i64 aK)),.own (.s 1 aL),.own (.v (.int .i64 aM)),.own (.v (.int .i64 aN))],.one (.v (.int .i64 i))]=>some (fun _=>gg a0 a1 a2 a4 a5 a6 a7 a8 a9 aA aB aD aL/\kerOk a0 a1 a2 a3 a4=true/\a3≠100000/\a5.length<=536870911/\0<=i/\i<a6.length/\0<=ag a6 i 0/\ag a6 i 0<=31,[(Bz (F.dsC a0 a1 a2 a6 i) (F.dsU a0 a1 a2 a6 i) (F.dsE a0 a1 a2 a6 i) a3 a4 (F.dsF a0 a1 a2 a5 a6 i) (F.dsS a6 i) a7 a8 a9 aA aB aC aD aE aF aG aH aI aJ aK aL aM aN)],[])
   |_=>none
 | 86=>some fun ds=>match ds with
   |[.mp [.own (.s 1 a0),.own (.s 1 a1),.own (.s 2 a2),.own (.v (.int .i64 a3)),.own (.s 1 a4),.own (.s 2 a5),.own (.s 3 a6),.own (.s 3 a7),.own (.s 4 a8),.own (.s 1 a9),.own (.s 1 aA),.own (.s 1 aB),.own (.v (.int .i64 aC)),.own (.s 3 aD),.own (.v (.int .i64 aE)),.own (.v (.int .i64 aF)),.own (.v (.int .i64 aG)),.own (.v (.int .i64 aH)),.own (.v (.bool aI)),.own (.v (.int .i64 aJ)),.own (.v (.int .i64 aK)),.own (.s 1 aL),.own (.v (.int .i64 aM)),.own (.v (.int .i64 aN))],.one (.v (.int .i64 i))]=>some (fun _=>gg a0 a1 a2 a4 a5 a6 a7 a8 a9 aA aB aD aL/\kerOk a0 a1 a2 a3 a4=true/\a3≠100000/\a5.length<=536870911/\0<=i/\i<a6.length/\0<=ag a6 i 0/\ag a6 i 0<=31,[(Bz (F.dsC a0 a1 a2 a6 i) (F.dsU a0 a1 a2 a6 i) (F.dsE a0 a1 a2 a6 i) a3 a4 (F.dsF a0 a1 a2 a5 a6 i) (F.dsS a6 i) a7 a8 a9 aA aB aC aD aE aF aG aH aI aJ aK aL aM aN)],[])
   |_=>none
 |_=>none
theorem fO :mP (pt F0):=by
 intro f mk h ds pre outs res hm hp;unfold pt at h;split at h
 ·cases h;dsimp only at hm;split at hm
  ·cases hm;exact rq hp
  ·cases hm
 ·cases h;dsimp only at hm;split at hm
  ·cases hm;exact uH hp
  ·cases hm
 ·cases h
abbrev B :cy:={Φ:=aQ,F0:=F0,ct:=ct,hc:=ai,pt:=pt,hp:=fO}
end Zd3
theorem qX {a0 a1 a2:aa}{a3:Int}{a4 a5 a6 a7 a8 a9 aA aB:aa}{aC:Int}{aD:aa}{aE aF aG aH:Int}{aI:Bool}{aJ aK:Int}{aL:aa}{aM aN p:Int}(hp:gg a0 a1 a2 a4 a5 a6 a7 a8 a9 aA aB aD aL):au 20 [.agg (eD a0 a1 a2 a3 a4 a5 a6 a7 a8 a9 aA aB aC aD aE aF aG aH aI aJ aK aL aM aN),.j p] [.agg (eD (ifR (gvB (hpI a0 a1 a2 a3 a4 a5 a6 a7 a8 a9 aA aB aC aD aE aF aG aH aI aJ aK aL aM aN) a3 a6 aI aJ aK p) (dsC a0 a1 a2 a6 (spI a6 p)) a0) (ifR (gvB (hpI a0 a1 a2 a3 a4 a5 a6 a7 a8 a9 aA aB aC aD aE aF aG aH aI aJ aK aL aM aN) a3 a6 aI aJ aK p) (dsU a0 a1 a2 a6 (spI a6 p)) a1) (ifR (gvB (hpI a0 a1 a2 a3 a4 a5 a6 a7 a8 a9 aA aB aC aD aE aF aG aH aI aJ aK aL aM aN) a3 a6 aI aJ aK p) (dsE a0 a1 a2 a6 (spI a6 p)) a2) a3 a4 (ifR (gvB (hpI a0 a1 a2 a3 a4 a5 a6 a7 a8 a9 aA aB aC aD aE aF aG aH aI aJ aK aL aM aN) a3 a6 aI aJ aK p) (dsF a0 a1 a2 a5 a6 (spI a6 p)) a5) (ifR (gvB (hpI a0 a1 a2 a3 a4 a5 a6 a7 a8 a9 aA aB aC aD aE aF aG aH aI aJ aK aL aM aN) a3 a6 aI aJ aK p) (dsS a6 (spI a6 p)) a6) a7 a8 a9 aA aB aC aD aE aF aG aH aI aJ aK aL aM aN),.k (gvB (hpI a0 a1 a2 a3 a4 a5 a6 a7 a8 a9 aA aB aC aD aE aF aG aH aI aJ aK aL aM aN) a3 a6 aI aJ aK p)]:=by
 have l6:=ay (es:=a6);have c6:=hp.c6;have c5:=hp.c5;have l5:=ay (es:=a5);have h6:=hp.r6;refine cb Zd3.B Tryz.func20 ?_
 exact VO
theorem sj {a0 a1 a2:aa}{a3:Int}{a4 a5 a6 a7 a8 a9 aA aB:aa}{aC:Int}{aD:aa}{aE aF aG aH:Int}{aI:Bool}{aJ aK:Int}{aL:aa}{aM aN p:Int}(hp:gg a0 a1 a2 a4 a5 a6 a7 a8 a9 aA aB aD aL):au 19 [.agg (eD a0 a1 a2 a3 a4 a5 a6 a7 a8 a9 aA aB aC aD aE aF aG aH aI aJ aK aL aM aN),.j p] [.agg (eD (ifR (gvB (hpI a0 a1 a2 a3 a4 a5 a6 a7 a8 a9 aA aB aC aD aE aF aG aH aI aJ aK aL aM aN) a3 a6 aI aJ aK p) (dsC a0 a1 a2 a6 (spI a6 p)) a0) (ifR (gvB (hpI a0 a1 a2 a3 a4 a5 a6 a7 a8 a9 aA aB aC aD aE aF aG aH aI aJ aK aL aM aN) a3 a6 aI aJ aK p) (dsU a0 a1 a2 a6 (spI a6 p)) a1) (ifR (gvB (hpI a0 a1 a2 a3 a4 a5 a6 a7 a8 a9 aA aB aC aD aE aF aG aH aI aJ aK aL aM aN) a3 a6 aI aJ aK p) (dsE a0 a1 a2 a6 (spI a6 p)) a2) a3 a4 (ifR (gvB (hpI a0 a1 a2 a3 a4 a5 a6 a7 a8 a9 aA aB aC aD aE aF aG aH aI aJ aK aL aM aN) a3 a6 aI aJ aK p) (dsF a0 a1 a2 a5 a6 (spI a6 p)) a5) (ifR (gvB (hpI a0 a1 a2 a3 a4 a5 a6 a7 a8 a9 aA aB aC aD aE aF aG aH aI aJ aK aL aM aN) a3 a6 aI aJ aK p) (dsS a6 (spI a6 p)) a6) a7 a8 a9 aA aB aC aD aE aF aG aH aI aJ aK aL aM aN),.k (gvB (hpI a0 a1 a2 a3 a4 a5 a6 a7 a8 a9 aA aB aC aD aE aF aG aH aI aJ aK aL aM aN) a3 a6 aI aJ aK p)]:=by
 have l6:=ay (es:=a6);have c6:=hp.c6;have c5:=hp.c5;have l5:=ay (es:=a5);have h6:=hp.r6;refine cb Zd3.B Tryz.func19 ?_
 exact VO
end Go.V