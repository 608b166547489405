/-
  A condition generator for functions on trees of data, part 5 of 5: values in memory, contracts, soundness.
-/
import Derived.Test.YtpldpilhgjpkjaaGreatXVD
set_option linter.all false
open Go
open Bool renaming and_eq_true->Zc
open Code renaming wp_mono->YP
open Ending renaming returned->X5
open Int renaming ofNat->WM
open List renaming all_eq_true->Z6,mem_of_getElem?->Zy,getElem?_eq_some_iff->ZC,range->Zo,getElem?_eq_getElem->Zu,getD->ZF,getElem?_of_mem->YA,getD_eq_getElem?_getD->Zm,all_cons->Xy
open Nat renaming beq->ZL,ble->YC,le_of_ble_eq_true->YU,lt_or_ge->Yb,zero_add->ZS,le_trans->ZN
open Option renaming map_some->Yk,getD_some->ZZ
namespace Go.V
def yy {α:Type}(pr:(Unit->Prop)->Prop)(r:Nat):Nat->List H->(List H->Rd α)->Rd α
 |_,[],k=>k []
 | j,h0::hs,k=>gp r j fun h=>match h.c with
   | .own l=>yy pr r (j+1) hs fun cs=>k (.own l::cs)
   | .ro l=>match h0 with
     | .ro l0=>match h.org with
       |some i=>if ZL i (r*1000+j)then .req (pr fun _=>l=l0) (yy pr r (j+1) hs fun cs=>k (.ro l0::cs))else .fail
       |none=>.fail
     |_=>.fail
   | .gone=>.fail
def I1 {α:Type}(pr:(Unit->Prop)->Prop)(os:Nat->List H):List (Nat×List H)->Nat->Rd α->Rd α
 |[],_,k=>k
 |(r,hs)::m,i,k=>yy pr r 0 hs fun cs=>.req (pr fun _=>cs=os i) (I1 pr os m (i+1) k)
def FR (T:xz)(O:CF)(ts:List TypeId)(rvs:List ResultVar)(m:List (Nat×List H))(σ:VS)(res:List DV)(os:Nat->List H):Prop:=
 (zN T O ts rvs fun ds srcs=>if bC srcs&&srcs.all (fun s=>m.all fun q=> !(s.1.beq q.1))then .req (O.pr fun _=>ds=res) (I1 O.pr os m 0 (.ret ()))else .fail).wpU (get σ) [] fun _ _=>True
def KU (T:xz)(O:CF)(ts:List TypeId)(rvs:List ResultVar)(m:List (Nat×List H))(res:List DV)(os:Nat->List H):Ex->VS->Prop
 | .normal,σ=>FR T O ts rvs m σ res os
 | .ret,σ=>FR T O ts rvs m σ res os
 | .exit _,_=>False
section
variable {P: Program} {T: xz} {cx: Cx} {G: Gh} {g: Gm} {a: Act} {w: World}
theorem KN (fz:List (Nat×List Nat))(hT:bJ P T){Φ:Type}{F0:Φ}{ctF:Φ->CT}{mtF:Φ->MT}{ptF:Φ->PT}{ntF:Φ->NT}{otF:Φ->OT}(hct:yL P (ctF F0))(hmt:Cy P (mtF F0))(hpt:CH P (ptF F0))(hnw:Cz P (ntF F0))(hot:CE P (otF F0))(hm:P.follows .mixedOrders=true){f:FuncId}{fn:Func}{ds res:List DV}(n:Nat)(c:Code)(ts:List TypeId)(rvs:List ResultVar) 
 (hf:P.funcs[f]?=some fn) (hb:fn.body=some c) (hnt:fn.ntmps=n) (hts:fn.resultTypes.toList=ts) (hrv:fn.results.toList=rvs) (hn:YC ds.length n=true)
 (h:∀ O r F,O=aj->r=res->F=F0->nA T O ⟨ctF F,mtF F,ptF F,ntF F,otF F⟩ n [] fz c (KV T O ts rvs r) (dS 0 ds)):GM P f ds res:=by
 subst hnt hts hrv;replace h:=h aj res F0 rfl rfl rfl;replace hn:=YU hn;intro w vs hargs;refine calls_of_wp hf hb ?_;refine YP ?_ (db (fz:=fz) (cx:=⟨fn.ntmps,w,fun _=>True,fun _=>undef,fun _=>none,fun _=>0,fun _=>True⟩) (fun _ _=>trivial) hT (ct:=⟨ctF F0,mtF F0,ptF F0,ntF F0,otF F0⟩) ⟨hct,hmt,hpt,hnw,hot⟩ hm rfl (an:=[]) (fun r x e=>by cases e) c _ _ _ w h (Bm fn.ntmps w ds vs hargs hn));rintro e a' w' ⟨ex,σ',rfl,hq',G,hS⟩;have hq:yJ T aj fn.resultTypes.toList fn.results.toList σ' res:=by
  cases ex with
  |normal=>exact hq'
  |ret=>exact hq'
  |exit i=>exact hq'.elim
 have hex:ex=.normal\/ex=.ret:=by
  cases ex with
  |normal=>exact .inl rfl
  |ret=>exact .inr rfl
  |exit i=>exact hq'.elim
 unfold yJ at hq;obtain⟨ls,u,t,h1,_⟩:=Rd.wpU_runs hq;obtain⟨ds',vs',srcs,S,ls',k1,k2,k3,k4,k5⟩:=lH hS _ _ _ _ _ (nm hT (fun _ _ _ h=>h) h1);split at k5
 case isFalse=>exact k5.elim
 rename_i hd;simp only[Rd.Runs]at k5;have hres0:ds'=res:=k5.1;subst hres0;obtain⟨v,hrun,hres⟩:=sJ k1 k2;have hfresh:∀ b∈S,w.heap.size<=b/\eh w' b:=by
  intro b hb;obtain⟨u,r,j,m1,m2⟩:=k4 b hb;refine⟨?_,u⟩;rcases Yb b w.heap.size with hlt|hge
  ·rcases hS.frow b hlt trivial with e|e<;>rw[m2]at e<;>cases e
  ·exact hge
 have fin:a'.defers=[]/\∃ v,(results fn a'.tmps).run P w'=.ok v w'/\∃ v' S,X5 v=.returned v'/\gq w' ds' v' S/\S.Nodup/\(∀ b∈S,w.heap.size<=b/\eh w' b)/\Same (fun _=>True) w w':=
  ⟨hS.defers,_,hrun,_,S,rfl,hres,k3 hd,hfresh,hS.frame⟩
 rcases hex with rfl|rfl;exact fin;exact fin
theorem oM {α:Type}{r:Nat}:∀ (hs:List H) (j:Nat) (k:List H->Rd α) (ls:List Loc) (out:α),(yy mf r j hs k).Runs g ls out->
 ∃ cs ls',(k cs).Runs g ls' out/\cs.length=hs.length/\∀ (i:Nat) c,cs[i]?=some c->∃ hv,g (.leaf r (j+i))=some (.h hv)/\hv.c=c/\(match c with
  | .own _=>True
  | .ro l=>hs[i]?=some (.ro l)/\hv.org=some (r*1000+(j+i))
  | .gone=>False)
 |[],j,k,ls,out,h=>⟨[],ls,h,rfl,fun i c e=>by simp at e⟩
 | h0::hs,j,k,ls,out,h=>by
   obtain⟨hv,ls2,_,q2,hk⟩:=bD (k:=fun hh=>match hh.c with
    | .own l=>yy mf r (j+1) hs fun cs=>k (.own l::cs)
    | .ro l=>match(generalizing:=false) h0 with
      | .ro l0=>match hh.org with
        |some i=>if ZL i (r*1000+j)then .req (mf fun _=>l=l0) (yy mf r (j+1) hs fun cs=>k (.ro l0::cs))else .fail
        |none=>.fail
      |_=>.fail
    | .gone=>.fail) h
   cases hc:hv.c with
   |gone=>simp[hc,Rd.Runs]at hk
   | own l=>
     simp only[hc]at hk;obtain⟨cs,ls3,e1,e2,e3⟩:=oM hs (j+1) _ _ _ hk;refine⟨_,ls3,e1,by simp[e2],fun i c e=>?_⟩;cases i with
     |zero=>simp at e;subst e;exact⟨hv,q2,hc,trivial⟩
     | succ i=>
       simp at e;obtain⟨hv',k1,k2,k3⟩:=e3 i c e;refine⟨hv',by rw[show j+(i+1)=j+1+i from by omega];exact k1,k2,?_⟩;cases c with
       |own l=>trivial
       |ro l=>exact⟨by simpa using k3.1,by rw[show j+(i+1)=j+1+i from by omega];exact k3.2⟩
       |gone=>exact k3
   | ro l=>
     simp only[hc]at hk;cases h0 with
     |own l0=>exact hk.elim
     |gone=>exact hk.elim
     | ro l0=>
       simp only at hk;cases ho:hv.org with
       |none=>simp[ho,Rd.Runs]at hk
       | some i0=>
         simp only[ho]at hk;split at hk
         ·rename_i hb;have hi:=Nat.eq_of_beq_eq_true hb;obtain⟨hl,hk⟩:=hk;have hl:l=l0:=hl;subst hl hi;obtain⟨cs,ls3,e1,e2,e3⟩:=oM hs (j+1) _ _ _ hk;refine⟨_,ls3,e1,by simp[e2],fun i c e=>?_⟩;cases i with
          |zero=>simp at e;subst e;exact⟨hv,q2,hc,by simp,ho⟩
          | succ i=>
            simp at e;obtain⟨hv',k1,k2,k3⟩:=e3 i c e;refine⟨hv',by rw[show j+(i+1)=j+1+i from by omega];exact k1,k2,?_⟩;cases c with
            |own l=>trivial
            |ro l=>exact⟨by simpa using k3.1,by rw[show j+(i+1)=j+1+i from by omega];exact k3.2⟩
            |gone=>exact k3
         ·exact hk.elim
theorem tK {α:Type}{os:Nat->List H}:∀ (m:List (Nat×List H)) (i:Nat) (k:Rd α) (ls:List Loc) (out:α),(I1 mf os m i k).Runs g ls out->
 ∀ (n r:Nat) hs,m[n]?=some (r,hs)->(os (i+n)).length=hs.length/\∀ (j:Nat) c,(os (i+n))[j]?=some c->∃ hv,g (.leaf r j)=some (.h hv)/\hv.c=c/\(match c with
  | .own _=>True
  | .ro l=>hs[j]?=some (.ro l)/\hv.org=some (r*1000+j)
  | .gone=>False)
 |[],i,k,ls,out,h=>fun n r hs e=>by simp at e
 | (r0,hs0)::m,i,k,ls,out,h=>by
  obtain⟨cs,ls2,h1,h2,h3⟩:=oM _ _ _ _ _ h;obtain⟨he,h1⟩:=h1;have he:cs=os i:=he;intro n r hs e;cases n with
  | zero=>
    simp at e;obtain⟨rfl,rfl⟩:=e;rw[Nat.add_zero, <-he];refine⟨h2,fun j c hc=>?_⟩;have:=h3 j c hc
    simpa using this
  | succ n=>
    simp at e;have:=tK m (i+1) k _ _ h1 n r hs e;rw[show i+(n+1)=i+1+n from by omega];exact this
theorem oK {w:World}{ok:Nat->Prop}:∀ {ds:List DV} {vs:List Value} {ps:List fM} {p k:Nat} {q:fM},ga w ok ds vs ps->ps[k]?=some q->∃ r,(mpL p ds)[k]?=some (r,q.hs)
 |[],vs,ps,p,k,q,h,e=>by simp only[ga]at h;rw[h.2]at e;simp at e
 | d::ds,vs,ps,p,k,q,h,e=>by
   cases d with
   | mp hs=>
     obtain⟨p0,ps',vs',rfl,rfl,e0,h⟩:=h;cases k with
     |zero=>simp at e;subst e;exact⟨p,by simp[mpL,e0]⟩
     |succ k=>simp at e;obtain⟨r,hr⟩:=oK (p:=p+1) h e;exact⟨r,by simpa[mpL]using hr⟩
   |one l=>obtain⟨v,vs',S,rfl,_,_,h⟩:=h;exact oK (p:=p+1) h e
   |agg l=>obtain⟨v,vs',S,rfl,_,_,h⟩:=h;exact oK (p:=p+1) h e
   |ptr l=>obtain⟨v,vs',S,rfl,_,_,h⟩:=h;exact oK (p:=p+1) h e
   |fn f l=>obtain⟨v,vs',S,rfl,_,_,h⟩:=h;exact oK (p:=p+1) h e
open Classical in
theorem BE (al:Bool)(hT:bJ P T){Φ:Type}{F0:Φ}{ctF:Φ->CT}{mtF:Φ->MT}{ptF:Φ->PT}{ntF:Φ->NT}{otF:Φ->OT}(hct:yL P (ctF F0))(hmt:Cy P (mtF F0))(hpt:CH P (ptF F0))(hnw:Cz P (ntF F0))(hot:CE P (otF F0))(hm:P.follows .mixedOrders=true){f:FuncId}{fn:Func}{ds res:List DV}{outs:List (List H)}(n:Nat)(c:Code)(ts:List TypeId)(rvs:List ResultVar) 
 (hf:P.funcs[f]?=some fn) (hb:fn.body=some c) (hnt:fn.ntmps=n) (hts:fn.resultTypes.toList=ts) (hrv:fn.results.toList=rvs) (hn:YC ds.length n=true) (hlo:(mpL 0 ds).length=outs.length) (hl0:(mpL 0 ds).all (fun q=>q.2.length.ble 999)=true) (hl1:al=true->(mpL 0 ds).all (fun q=>q.1.ble 999)=true)
 (h:∀ O r os F,O=aj->r=res->os=(fun i=>outs.getD i [])->F=F0->nA T O ⟨ctF F,mtF F,ptF F,ntF F,otF F⟩ n ((mpL 0 ds).map (·.1)) [] c (KU T O ts rvs (mpL 0 ds) r os) (eD al 0 ds)):xy P f ds outs res:=by
 subst hnt hts hrv;replace h:=h aj res _ F0 rfl rfl rfl rfl;replace hn:=YU hn;intro w vs ps hpre;have ix:=fun {r q}=>p8 (p:=0) (r:=r) (q:=q) hpre.args
 have hlt:∀ {r q},gU 0 ds ps r=some q->q.hs.length<=999:=by
  intro r q e;obtain⟨k,e1,_⟩:=ix.1 e;have:=Z6.1 hl0 _ (Zy e1);exact YU this
 let anc:Nat->Value:=fun i=>((gU 0 ds ps ((match al with|true=>i%1000000000|false=>i)/1000)).map fun q=>q.val (i%1000)).getD undef
 have hlr:∀ {r q},al=true->gU 0 ds ps r=some q->r<=999:=by
  intro r q ha e;obtain⟨k,e1,_⟩:=ix.1 e;have:=Z6.1 (hl1 ha) _ (Zy e1);exact YU this
 have hanc:∀ r q j l,gU 0 ds ps r=some q->q.hs[j]?=some (.ro l)->anc (r*1000+j)=q.val j:=by
  intro r q j l e e1;have h1:=(ZC.1 e1).1;have h2:=hlt e;have h3:(r*1000+j)/1000=r:=by omega
  have h4:(r*1000+j)%1000=j:=by omega
  cases al with
  |false=>simp only[anc,h3,h4,e,Yk,ZZ]
  | true=>
    have h5:=hlr rfl e;have h6:(r*1000+j)%1000000000=r*1000+j:=by omega
    simp only[anc,h6,h3,h4,e,Yk,ZZ]
 have hanc2:∀ r q j l,al=true->gU 0 ds ps r=some q->q.hs[j]?=some (.own l)->anc (1000000000+(r*1000+j))=q.val j:=by
  intro r q j l ha e e1;have h1:=(ZC.1 e1).1;have h2:=hlt e;have h5:=hlr ha e;subst ha;have h3:(1000000000+(r*1000+j))%1000000000/1000=r:=by omega
  have h4:(1000000000+(r*1000+j))%1000=j:=by omega
  simp only[anc,h3,h4,e,Yk,ZZ]
 refine calls_of_wp hf hb ?_;have hini:=Ge (al:=al) fn.ntmps w ds vs ps hpre hn anc hanc hanc2;refine YP ?_ (db (fz:=[]) (cx:=⟨fn.ntmps,w,fun b=>¬ lN ps b/\¬ pu ps b,anc,fun r=>(gU 0 ds ps r).map fun(q:fM)=>(q.b,q.off),fun r=>((gU 0 ds ps r).map fun(q:fM)=>q.hs.length).getD 0,fun _=>True⟩) (fun q=>absurd rfl q) hT (ct:=⟨ctF F0,mtF F0,ptF F0,ntF F0,otF F0⟩) ⟨hct,hmt,hpt,hnw,hot⟩ hm rfl (an:=(mpL 0 ds).map (·.1)) (fun r x e=>by
  cases e0:gU 0 ds ps r with
  |none=>simp[e0]at e
  |some q=>obtain⟨k,e1,_⟩:=ix.1 e0;exact List.mem_map.2 ⟨_,Zy e1,rfl⟩) c _ _ _ w h hini)
 rintro e a' w' ⟨ex,σ',rfl,hq',G,hS⟩;have hq:FR T aj fn.resultTypes.toList fn.results.toList (mpL 0 ds) σ' res (fun i=>outs.getD i []):=by
  cases ex with
  |normal=>exact hq'
  |ret=>exact hq'
  |exit i=>exact hq'.elim
 have hex:ex=.normal\/ex=.ret:=by
  cases ex with
  |normal=>exact .inl rfl
  |ret=>exact .inr rfl
  |exit i=>exact hq'.elim
 unfold FR at hq;obtain⟨ls,u,t,h1,_⟩:=Rd.wpU_runs hq;obtain⟨ds',vs',srcs,Sr,ls',k1,k2,k3,k4,k5⟩:=lH hS _ _ _ _ _ (nm hT (fun _ _ _ h=>h) h1);split at k5
 case isFalse=>exact k5.elim
 rename_i hd;simp only[Zc]at hd;obtain⟨SD,hd2⟩:=hd;obtain⟨hres0,k5⟩:=k5;have hres0:ds'=res:=hres0;subst hres0;have o1:=tK _ _ _ _ _ k5;obtain⟨v,hrun,hres⟩:=sJ k1 k2;have plen:ps.length=outs.length:=by
  rw[<-hlo];have key:∀ {ds:List DV} {vs:List Value} {ps:List fM} {p:Nat} {ok:Nat->Prop},ga w ok ds vs ps->ps.length=(mpL p ds).length:=by
   intro ds
   induction ds with
   |nil=>intro vs ps p ok h;simp only[ga]at h;simp[h.2,mpL]
   | cons d ds ih=>
     intro vs ps p ok h;cases d with
     |mp hs=>obtain⟨p0,ps',vs',rfl,rfl,_,h⟩:=h;simp[mpL,ih (p:=p+1) h]
     |one l=>obtain⟨v,vs',S,rfl,_,_,h⟩:=h;exact ih (p:=p+1) h
     |agg l=>obtain⟨v,vs',S,rfl,_,_,h⟩:=h;exact ih (p:=p+1) h
     |ptr l=>obtain⟨v,vs',S,rfl,_,_,h⟩:=h;exact ih (p:=p+1) h
     |fn f l=>obtain⟨v,vs',S,rfl,_,_,h⟩:=h;exact ih (p:=p+1) h
  exact key hpre.args
 let pst:Nat->fM:=fun k=>
  { b:=(ps.getD k ⟨0,0,[],fun _=>undef,fun _=>[]⟩).b,off:=(ps.getD k ⟨0,0,[],fun _=>undef,fun _=>[]⟩).off,hs:=outs.getD k [],
    val:=fun j=>G.val ((mpL 0 ds).getD k (0,[])).1 j,
    fp:=fun j=>match(outs.getD k [])[j]? with
     |some (.own _)=>G.fp ((mpL 0 ds).getD k (0,[])).1 j
     |_=>(ps.getD k ⟨0,0,[],fun _=>undef,fun _=>[]⟩).fp j}
 have info:∀ (k:Nat) q',((Zo ps.length).map pst)[k]?=some q'->∃ q r,ps[k]?=some q/\(mpL 0 ds)[k]?=some (r,q.hs)/\gU 0 ds ps r=some q/\q'=pst k/\q'.b=q.b/\q'.off=q.off/\outs[k]?=some q'.hs/\q'.hs.length=q.hs.length/\(∀ j,q'.val j=G.val r j)/\(∀ j l,q'.hs[j]?=some (.own l)->q'.fp j=G.fp r j)/\
  ∀ (j:Nat) c,q'.hs[j]?=some c->∃ hv,get σ' (.leaf r j)=some (.h hv)/\hv.c=c/\(match c with
   | .own _=>True
   | .ro l=>q.hs[j]?=some (.ro l)/\hv.org=some (r*1000+j)
   | .gone=>False):=by
  intro k q' e;rw[List.getElem?_map,Option.map_eq_some_iff]at e;obtain⟨k',e1,rfl⟩:=e;obtain⟨hk,rfl⟩:=ZC.1 e1;simp only[List.length_range]at hk;simp only[List.getElem_range];have hq:ps[k]?=some ps[k]:=Zu hk;obtain⟨r,hr⟩:=oK (p:=0) hpre.args hq;have hpa:gU 0 ds ps r=some ps[k]:=ix.2 ⟨k,hr,hq⟩;have hout:outs[k]?=some outs[k]:=Zu (by omega);have g1:ps.getD k ⟨0,0,[],fun _=>undef,fun _=>[]⟩=ps[k]:=by simp[ZF,hq]
  have g2:outs.getD k []=outs[k]:=by simp[ZF,hout]
  have g3:(mpL 0 ds).getD k (0,[])=(r,ps[k].hs):=by simp[ZF,hr]
  obtain⟨m1,m2⟩:=o1 k r _ hr;rw[ZS]at m1 m2;refine⟨ps[k],r,hq,hr,hpa,trivial,by simp only[pst,g1],by simp only[pst,g1],by simp only[pst,g2];exact hout,by simp only[pst];exact m1,fun j=>by simp only[pst,g3],fun j l e=>?_,fun j c e=>?_⟩
  ·simp only[pst]at e ⊢;rw[e];simp only[g3]
  ·exact m2 j c e
 have meta_:∀ {r q},gU 0 ds ps r=some q->G.loc r=some (q.b,q.off)/\get σ' (.meta_ r)=some (.m q.hs.length true):=by
  intro r q e;have:=hS.aloc r (q.b,q.off) (by simp[e])
  simpa[e]using this
 have mem:∀ q'∈(Zo ps.length).map pst,∃ k:Nat,((Zo ps.length).map pst)[k]?=some q':=fun q' hq=>by
  obtain⟨k,hk⟩:=YA hq;exact⟨k,hk⟩
 have ownTok:∀ b,lN ((Zo ps.length).map pst) b->∃ r j q,gU 0 ds ps r=some q/\G.ow b=some (.leaf r j)/\eh w' b:=by
  rintro b ⟨q',hq,j,l,e1,e2⟩;obtain⟨k,hk⟩:=mem q' hq;obtain⟨q,r,i1,i2,i3,i4,i5,i6,i7,i8,i9,i10,i11⟩:=info k q' hk;obtain⟨hv,m1,m2,_⟩:=i11 j _ e1;rw[i10 j l e1]at e2;have:=hS.hok (au.2 m1);simp only[dN,m2]at this;exact⟨r,j,q,i3,this.2.2 b e2⟩
 have ptrTok:∀ b,pu ps b->∃ k,G.ow b=some (.box k):=by
  rintro b ⟨q,hq,rfl⟩;obtain⟨k,hk⟩:=YA hq;obtain⟨r,hr⟩:=oK (p:=0) hpre.args hk;obtain⟨f1,f2⟩:=meta_ (ix.2 ⟨k,hr,hk⟩);obtain⟨b',off',cur,ty,z1,z2,_⟩:=hS.boxes r _ f2;rw[f1]at z1;cases z1;exact⟨_,z2⟩
 have own:∀ b r j,eh w' b->G.ow b=some (.leaf r j)->eh w' b/\(w.heap.size<=b\/lN ps b):=by
  intro b r j hu ht;refine⟨hu,?_⟩;rcases Yb b w.heap.size with hlt|hge
  ·by_cases c1:lN ps b;exact .inr c1
   ·by_cases c2:pu ps b
    ·obtain⟨k,hk⟩:=ptrTok b c2;rw[hk]at ht;cases ht
    ·rcases hS.frow b hlt ⟨c1,c2⟩with e|e<;>rw[ht]at e<;>cases e
  ·exact .inl hge
 have post:G6 w ps outs w' ((Zo ps.length).map pst) Sr:=by
  refine⟨by simp,?_,?_,?_,?_,?_,?_,⟨k3 SD,?_⟩,?_,hS.frame,?_⟩
  ·intro k p p' hp hp';obtain⟨q,r,i1,i2,i3,i4,i5,i6,i7,i8,_⟩:=info k p' hp';rw[hp]at i1;cases i1;exact⟨i5,i6,i7,i8⟩
  ·intro q' hq;obtain⟨k,hk⟩:=mem q' hq;obtain⟨q,r,i1,i2,i3,i4,i5,i6,i7,i8,i9,_⟩:=info k q' hk;obtain⟨f1,f2⟩:=meta_ i3;obtain⟨b',off',cur,ty,z1,z2,z3,z4,z5⟩:=hS.boxes r _ f2;rw[f1]at z1;cases z1;exact⟨cur,ty,by rw[i5];exact z3,fun j hj=>by rw[i6,i9];exact z5 j (by omega)⟩
  ·intro q' hq j l e;obtain⟨k,hk⟩:=mem q' hq;obtain⟨q,r,i1,i2,i3,i4,i5,i6,i7,i8,i9,i10,i11⟩:=info k q' hk;obtain⟨hv,m1,m2,_⟩:=i11 j _ e;have:=hS.hok (au.2 m1);simp only[dN,m2]at this;rw[i9,i10 j l e];exact⟨this.1,this.2.1⟩
  ·intro k p p' j l hp hp' e;obtain⟨q,r,i1,i2,i3,i4,i5,i6,i7,i8,i9,i10,i11⟩:=info k p' hp';rw[hp]at i1;cases i1;obtain⟨hv,m1,m2,m3,m4⟩:=i11 j _ e;refine⟨m3,?_⟩;rw[i9,hS.anc r j hv (au.2 m1) _ m4];exact hanc r p j l i3 m3
  ·intro q' hq j e;obtain⟨k,hk⟩:=mem q' hq;obtain⟨q,r,i1,i2,i3,i4,i5,i6,i7,i8,i9,i10,i11⟩:=info k q' hk;obtain⟨hv,m1,m2,m3⟩:=i11 j _ e;exact m3
  ·intro k j k' j' p p' l l' hp hp' e e' hne b hb hb';obtain⟨q,r,i1,i2,i3,i4,i5,i6,i7,i8,i9,i10,i11⟩:=info k p hp;obtain⟨q2,r2,i1',i2',i3',i4',i5',i6',i7',i8',i9',i10',i11'⟩:=info k' p' hp';obtain⟨hv,m1,m2,_⟩:=i11 j _ e;obtain⟨hv',m1',m2',_⟩:=i11' j' _ e';rw[i10 j l e]at hb;rw[i10' j' l' e']at hb';have t1:=hS.hok (au.2 m1);simp only[dN,m2]at t1;have t2:=hS.hok (au.2 m1');simp only[dN,m2']at t2;have u1:=(t1.2.2 b hb).1;have u2:=(t2.2.2 b hb').1;rw[u1]at u2;cases u2;have hkk:k=k':=by
    rw[i3]at i3';cases i3';by_cases c:k=k';exact c
    ·have:=hpre.sep k k' q q c i1 i1' rfl;have:=(ZC.1 e).1;omega
   subst hkk;exact hne rfl
  ·intro b hb ho;obtain⟨r,j,q,e1,e2,_⟩:=ownTok b ho;obtain⟨_,r',j',m1,m2⟩:=k4 b hb;rw[m2]at e2;cases e2;obtain⟨k,e3,_⟩:=ix.1 e1;have:=Z6.1 (Z6.1 hd2 _ m1) _ (Zy e3);simp at this
  ·intro b hb;rcases hb with hb|hb
   ·obtain⟨hu,r,j,_,m2⟩:=k4 b hb;exact own b r j hu m2
   ·obtain⟨r,j,q,_,m2,hu⟩:=ownTok b hb;exact own b r j hu m2
  ·rintro b ⟨q,hq,rfl⟩;obtain⟨k,hk⟩:=YA hq;obtain⟨r,hr⟩:=oK (p:=0) hpre.args hk;have hpa:=ix.2 ⟨k,hr,hk⟩;obtain⟨c0,c1,ty,z1,z2,z3,z4⟩:=hS.afr r q.b q.off (by simp[hpa]);refine⟨c0,c1,ty,z1,z2,z3,fun i hi=>z4 i (fun r' off' e=>?_)⟩;cases e0:gU 0 ds ps r' with
   |none=>simp[e0]at e
   | some q2=>
     simp[e0]at e ⊢;obtain⟨e1,rfl⟩:=e;obtain⟨k2,_,hk2⟩:=ix.1 e0;exact hi q2 (Zy hk2) e1
 have fin:a'.defers=[]/\∃ v,(results fn a'.tmps).run P w'=.ok v w'/\∃ v' Sr ps',X5 v=.returned v'/\gq w' ds' v' Sr/\G6 w ps outs w' ps' Sr:=
  ⟨hS.defers,_,hrun,_,Sr,_,rfl,hres,post⟩
 rcases hex with rfl|rfl;exact fin;exact fin
def wi {α:Type}(r:Nat):Nat->Nat->(List H->Rd α)->Rd α
 |_,0,k=>k []
 | j,m+1,k=>gp r j fun h=>match h.c with
   | .own (.v x)=>wi r (j+1) m fun hs=>k (.own (.v x)::hs)
   | .ro l=>wi r (j+1) m fun hs=>k (.ro l::hs)
   |_=>.fail
def FQ (O:CF)(rvs:List ResultVar)(σ:VS)(hs:List H):Prop:=
 match rvs with
 | [.tmp t]=>((AG t fun v=>match v with
    | .one (.pt r 0)=>.get (.meta_ r) fun
      |some (.m k true)=>wi r 0 k fun hs'=>.req (O.pr fun _=>hs'=hs) (.ret ())
      |_=>.fail
    |_=>.fail):Rd Unit).wpU (get σ) [] fun _ _=>True
 |_=>False
def aal (O:CF)(rvs:List ResultVar)(hs:List H):Ex->VS->Prop
 | .normal,σ=>FQ O rvs σ hs
 | .ret,σ=>FQ O rvs σ hs
 | .exit _,_=>False
theorem tF {α:Type}{r:Nat}:∀ (m j:Nat) (k:List H->Rd α) (ls:List Loc) (out:α),(wi r j m k).Runs g ls out->
 ∃ hs ls',(k hs).Runs g ls' out/\hs.length=m/\∀ i h0,hs[i]?=some h0->∃ h,gl g r (j+i)=some h/\((∃ x,h.c=.own (.v x)/\h0=.own (.v x))\/∃ l,h.c=.ro l/\h0=.ro l)
 |0,j,k,ls,out,h=>⟨[],ls,h,rfl,fun i h0 e=>by simp at e⟩
 | m+1,j,k,ls,out,h=>by
   obtain⟨hv,ls1,hg,_,hq⟩:=bD (k:=fun h=>match h.c with
    | .own (.v x)=>wi r (j+1) m fun hs=>k (.own (.v x)::hs)
    | .ro l=>wi r (j+1) m fun hs=>k (.ro l::hs)
    |_=>.fail) h
   have fin:∀ c:H,((∃ x,hv.c=.own (.v x)/\c=.own (.v x))\/∃ l,hv.c=.ro l/\c=.ro l)->(wi r (j+1) m fun hs=>k (c::hs)).Runs g ls1 out->
    ∃ hs ls',(k hs).Runs g ls' out/\hs.length=m+1/\∀ i h0,hs[i]?=some h0->∃ h,gl g r (j+i)=some h/\((∃ x,h.c=.own (.v x)/\h0=.own (.v x))\/∃ l,h.c=.ro l/\h0=.ro l):=by
    intro c hc hq;obtain⟨hs,ls',q1,q2,q3⟩:=tF m (j+1) _ _ _ hq;refine⟨c::hs,ls',q1,by simp[q2],fun i h0 e=>?_⟩;cases i with
    |zero=>simp at e;subst e;exact⟨hv,by simpa using hg,hc⟩
    | succ i=>
      have:=q3 i h0 (by simpa using e)
      rwa [show j+1+i=j+(i+1)from by omega]at this
   cases hc:hv.c with
   | own l=>
     simp only[hc]at hq;cases l with
     |v x=>exact fin _ (.inl ⟨x,hc,rfl⟩) hq
     |_=>exact hq.elim
   |ro l=>simp only[hc]at hq;exact fin _ (.inr ⟨l,hc,rfl⟩) hq
   |gone=>simp only[hc]at hq;exact hq.elim
theorem LJ (hT:bJ P T){Φ:Type}{F0:Φ}{ctF:Φ->CT}{mtF:Φ->MT}{ptF:Φ->PT}{ntF:Φ->NT}{otF:Φ->OT}(hct:yL P (ctF F0))(hmt:Cy P (mtF F0))(hpt:CH P (ptF F0))(hnw:Cz P (ntF F0))(hot:CE P (otF F0))(hm:P.follows .mixedOrders=true){f:FuncId}{fn:Func}{ds:List DV}{res:List H}(n:Nat)(c:Code)(ts:List TypeId)(rvs:List ResultVar) 
 (hf:P.funcs[f]?=some fn) (hb:fn.body=some c) (hnt:fn.ntmps=n) (hts:fn.resultTypes.toList=ts) (hrv:fn.results.toList=rvs) (hn:YC ds.length n=true)
 (h:∀ O r F,O=aj->r=res->F=F0->nA T O ⟨ctF F,mtF F,ptF F,ntF F,otF F⟩ n [] [] c (aal O rvs r) (dS 0 ds)):FZ P f ds res:=by
 subst hnt hts hrv;replace h:=h aj res F0 rfl rfl rfl;replace hn:=YU hn;intro X w vs hargs;refine calls_of_wp hf hb ?_;refine YP ?_ (db (fz:=[]) (cx:=⟨fn.ntmps,w,fun _=>True,fun _=>undef,fun _=>none,fun _=>0,X⟩) (fun q=>absurd rfl q) hT (ct:=⟨ctF F0,mtF F0,ptF F0,ntF F0,otF F0⟩) ⟨hct,hmt,hpt,hnw,hot⟩ hm rfl (an:=[]) (fun r x e=>by cases e) c _ _ _ w h (Gf X fn.ntmps w ds vs hargs hn));rintro e a' w' ⟨ex,σ',rfl,hq',G,hS⟩;have hq:FQ aj fn.results.toList σ' res:=by
  cases ex with
  |normal=>exact hq'
  |ret=>exact hq'
  |exit i=>exact hq'.elim
 have hex:ex=.normal\/ex=.ret:=by
  cases ex with
  |normal=>exact .inl rfl
  |ret=>exact .inr rfl
  |exit i=>exact hq'.elim
 unfold FQ at hq;split at hq
 case h_2=>exact hq.elim
 rename_i t hrv;obtain⟨ls,u,tt,h1,_⟩:=Rd.wpU_runs hq;obtain⟨v,ls1,hv,hreg,h1⟩:=mH hS h1;split at h1
 case h_2=>exact h1.elim
 rename_i r;obtain⟨ls2,_,h1⟩:=h1;simp only at h1;split at h1
 case h_2=>exact h1.elim
 rename_i k hmeta;obtain⟨hs',ls3,h1,hk,hl⟩:=tF k 0 _ _ _ h1;obtain⟨h1,_⟩:=h1;have h1:hs'=res:=h1;cases h1;subst hk;obtain⟨b,off,cur,ty,f1,f2,f3,f4,f5⟩:=hS.boxes r _ hmeta;simp only[cM]at hv;obtain⟨b',off',f6,f7⟩:=hv;rw[f1]at f6;cases f6;have hrun:(results fn a'.tmps).run P w'=.ok (a'.tmps.getD t undef) w':=by
  rw[wA,Array.mapM_eq_mapM_toList (m:=Sem),hrv];simp[oS]
 have hcell:∀ j h,res[j]?=some h->G5 X w' h (G.val r j):=by
  intro j h0 e;obtain⟨h,g1,g2⟩:=hl j h0 e;rw[ZS]at g1;have hok:=hS.hok g1;rcases g2 with⟨x,q1,rfl⟩|⟨l,q1,rfl⟩
  ·simp only[dN,q1]at hok;obtain⟨q2,_,_⟩:=hok;simp only[bM]at q2;exact⟨q2.1,q2.2.1,rfl⟩
  ·simp only[dN,q1]at hok;obtain⟨S,q2,q3⟩:=hok;exact⟨S,q2,fun c hc=>hS.roX c (q3 c hc)⟩
 have fin:a'.defers=[]/\∃ v,(results fn a'.tmps).run P w'=.ok v w'/\∃ b off cur ty,∃ val:Nat->Value,X5 v=.returned (.pointer (some ⟨b,off,none⟩))/\w.heap.size<=b/\w'.heap[b]?=some (.cells cur ty (0,0))/\off+res.length<=cur.size/\
  (∀ j,j<res.length->cur[off+j]?=some (val j))/\(∀ j h,res[j]?=some h->G5 X w' h (val j))/\Same (fun _=>True) w w':=
  ⟨hS.defers,_,hrun,b,off,cur,ty,G.val r,by rw[f7];rfl,hS.newb r b off f1 rfl,f3,f4,f5,hcell,hS.frame⟩
 rcases hex with rfl|rfl;exact fin;exact fin
end
end Go.V
namespace Go.V
theorem SS:(∀ a b:Int,(cW .eql a b=true)↔a=b)/\(∀ a b:Int,(cW .eql a b=false)↔a≠b)/\(∀ a b:Int,(cW .neq a b=true)↔a≠b)/\(∀ a b:Int,(cW .neq a b=false)↔a=b)/\
 (∀ a b:Int,(cW .lss a b=true)↔a<b)/\(∀ a b:Int,(cW .lss a b=false)↔b<=a)/\(∀ a b:Int,(cW .leq a b=true)↔a<=b)/\(∀ a b:Int,(cW .leq a b=false)↔b<a)/\
 (∀ a b:Int,(cW .gtr a b=true)↔b<a)/\(∀ a b:Int,(cW .gtr a b=false)↔a<=b)/\(∀ a b:Int,(cW .geq a b=true)↔b<=a)/\(∀ a b:Int,(cW .geq a b=false)↔a<b)/\
 (∀ b,(Hh b=true)↔b=false)/\(∀ b,(Hh b=false)↔b=true)/\(∀ a b,zV true a b=a)/\(∀ a b,zV false a b=b)/\
 (∀ a b,(AB .eql a b=true)↔a=b)/\(∀ a b,(AB .eql a b=false)↔a≠b)/\(∀ a b,(AB .neq a b=true)↔a≠b)/\(∀ a b,(AB .neq a b=false)↔a=b)/\
 (∀ n,ziI n=(n:Int))/\(∀ es,lnI es=es.length)/\(∀ f,prI f=f ())/\(∀ n:Nat,WM n=(n:Int))/\(∀ a b,Tm a b=a++b)/\(∀ i,nnI i=i.toNat):=
 ⟨fun _ _=>Ku,fun _ _=>Kt,fun _ _=>KE,fun _ _=>KD,fun _ _=>KC,fun _ _=>KB,fun _ _=>KA,fun _ _=>Kz,fun _ _=>Ky,fun _ _=>Kx,fun _ _=>Kw,fun _ _=>Kv,
   fun _=>adQ,fun _=>adP,fun _ _=>rfl,fun _ _=>rfl,fun _ _=>Hj,fun _ _=>Hi,fun _ _=>Hl,fun _ _=>Hk,fun _=>rfl,fun _=>rfl,fun _=>rfl,fun _=>rfl,fun _ _=>rfl,fun _=>rfl⟩
end Go.V
namespace Go.V
theorem onc (n:Nat):WM n=(n:Int):=rfl
structure TB (P:Program) where
 Φ:Type
 F0:Φ
 ct:Φ->CT:=noC
 mt:Φ->MT:=abQ
 pt:Φ->PT:=abT
 nt:Φ->NT:=abR
 ot:Φ->OT:=abS
 hc:yL P (ct F0):=by exact QY
 hm:Cy P (mt F0):=by exact LK
 hp:CH P (pt F0):=by exact LN
 hn:Cz P (nt F0):=by exact LL
 ho:CE P (ot F0):=by exact LM
abbrev tb {P:Program}{Φ:Type}{F0:Φ}{ct:Φ->CT}(hc:yL P (ct F0)):TB P:={Φ:=Φ,F0:=F0,ct:=ct,hc:=hc}
section
variable {P: Program} {T: xz} (B: TB P) (hT: bJ P T) (hm: P.follows .mixedOrders = true) {f: FuncId} {fn: Func} {ds: List DV} (n: Nat) (c: Code) (ts: List TypeId) (rvs: List ResultVar)
include hT hm
theorem LQ (al:Bool){res:List DV}{outs:List (List H)}(hf:P.funcs[f]?=some fn)(hb:fn.body=some c)(hnt:fn.ntmps=n)(hts:fn.resultTypes.toList=ts)(hrv:fn.results.toList=rvs)(hn:YC ds.length n=true)(hlo:(mpL 0 ds).length=outs.length)(hl0:(mpL 0 ds).all (fun q=>q.2.length.ble 999)=true) 
 (hl1:al=true->(mpL 0 ds).all (fun q=>q.1.ble 999)=true) (h:∀ O r os F,O=aj->r=res->os=(fun i=>outs.getD i [])->F=B.F0->nA T O ⟨B.ct F,B.mt F,B.pt F,B.nt F,B.ot F⟩ n ((mpL 0 ds).map (·.1)) [] c (KU T O ts rvs (mpL 0 ds) r os) (eD al 0 ds)):xy P f ds outs res:=
 BE al hT B.hc B.hm B.hp B.hn B.ho hm n c ts rvs hf hb hnt hts hrv hn hlo hl0 hl1 h
theorem Q5 {res:List DV}{outs:List (List H)}(hf:P.funcs[f]?=some fn)(hb:fn.body=some c)(hnt:fn.ntmps=n)(hts:fn.resultTypes.toList=ts)(hrv:fn.results.toList=rvs)(hn:YC ds.length n=true)(hlo:(mpL 0 ds).length=outs.length)(hl0:(mpL 0 ds).all (fun q=>q.2.length.ble 999)=true) 
 (h:∀ O r os F,O=aj->r=res->os=(fun i=>outs.getD i [])->F=B.F0->nA T O ⟨B.ct F,B.mt F,B.pt F,B.nt F,B.ot F⟩ n ((mpL 0 ds).map (·.1)) [] c (KU T O ts rvs (mpL 0 ds) r os) (eD false 0 ds)):xy P f ds outs res:=
 LQ B hT hm n c ts rvs false hf hb hnt hts hrv hn hlo hl0 (fun h=>by cases h) h
theorem QW {res:List H}(hf:P.funcs[f]?=some fn)(hb:fn.body=some c)(hnt:fn.ntmps=n)(hts:fn.resultTypes.toList=ts)(hrv:fn.results.toList=rvs)(hn:YC ds.length n=true) 
 (h:∀ O r F,O=aj->r=res->F=B.F0->nA T O ⟨B.ct F,B.mt F,B.pt F,B.nt F,B.ot F⟩ n [] [] c (aal O rvs r) (dS 0 ds)):FZ P f ds res:=
 LJ hT B.hc B.hm B.hp B.hn B.ho hm n c ts rvs hf hb hnt hts hrv hn h
end
end Go.V
namespace Go.V
mutual
def pQ:L->Nat
 | .s _ es=>es.length+cK es
 |_=>0
def fj:aT->Nat
 |[]=>0
 |l::ls=>pQ l+fj ls
def cK:af->Nat
 |[]=>0
 |e::es=>fj e+cK es
end
def ap (es:af):Nat:=es.length+cK es
def xW:List af->Nat
 |[]=>0
 |r::rs=>ap r+xW rs
theorem ez:∀ {a b:af},cK (a++b)=cK a+cK b
 |[],b=>by simp[cK]
 |e::a,b=>by simp[cK,ez (a:=a),Nat.add_assoc]
theorem EI:∀ {ls:aT} {j:Nat} {l:L},ls[j]?=some l->pQ l<=fj ls
 |[],j,l,h=>by simp at h
 |x::ls,0,l,h=>by simp at h;subst h;simp[fj]
 |x::ls,j+1,l,h=>by simp at h;have:=EI h;simp[fj];omega
def wid:Ty->Nat
 | .sl _=>0
 |_=>1
end Go.V
namespace Go.V
abbrev Rw (fs:List Ty)(es:af):Prop:=es.length<=maxLen/\∀ e∈es,bR fs e
abbrev tI:Ty:=.int .i64
abbrev tB:Ty:=.bool
mutual
def zL:Ty->L
 | .int k=>.v (.int k 0)
 | .bool=>.v (.bool false)
 | .str=>.v (.string .empty)
 | .sl fs=>.s fs.length []
def zR:List Ty->aT
 |[]=>[]
 |t::ts=>zL t::zR ts
end
theorem A0:∀ {fs:List Ty} {e:aT},bR fs e->lX (zR fs) e=true
 |[],[],_=>rfl
 |[],_::_,h=>h.elim
 |_::_,[],h=>h.elim
 | t::ts,l::ls,h=>by
   obtain⟨h1,h2⟩:=h;simp only[zR,lX,Zc];refine⟨?_,A0 h2⟩;cases t with
   | int k=>cases l with
     | v x=>cases x with
       |int k' n=>simp only[dq]at h1;simp[zL,pV,h1.1]
       |_=>simp[dq]at h1
     |_=>simp[dq]at h1
   | bool=>cases l with
     | v x=>cases x with
       |bool b=>rfl
       |_=>simp[dq]at h1
     |_=>simp[dq]at h1
   | str=>cases l with
     | v x=>cases x with
       |string b=>rfl
       |_=>simp[dq]at h1
     |_=>simp[dq]at h1
   | sl fs=>cases l with
     |s sz es=>simp only[dq]at h1;simp[zL,pV,h1.1]
     |_=>simp[dq]at h1
theorem Rw.wf {fs:List Ty}{es:af}(h:Rw fs es):Wf (zR fs) es:=fun e he=>A0 (h.2 e he)
theorem Rw.at {fs:List Ty}{es:af}(h:Rw fs es){n:Nat}(hn:n<es.length):bR fs (es.getD n []):=by
 refine h.2 _ ?_;rw[Zm,Zu hn];exact List.getElem_mem _
theorem Rw.eta {fs:List Ty}{es:af}(h:Rw fs es){i:Int}(h0:0<=i)(h1:i<es.length):es.getD i.toNat []=k8 aj es i 0 (zR fs):=(CZ h.wf h0 h1).symm
theorem xZ:∀ {fs:List Ty} {e:aT} {j:Nat} {gs:List Ty},bR fs e->fs[j]?=some (.sl gs)->∃ es',e[j]?=some (.s gs.length es')/\Rw gs es'
 |[],_,j,gs,_,h=>by simp at h
 |_::_,[],j,gs,h,_=>h.elim
 | t::ts,l::ls,0,gs,h,e=>by
   simp at e;subst e;have h1:=h.1;cases l with
   |s sz es=>simp only[dq]at h1;exact⟨es,by simp[h1.1],h1.2⟩
   |_=>simp[dq]at h1
 | t::ts,l::ls,j+1,gs,h,e=>by
   simp at e;obtain⟨es',h1,h2⟩:=xZ h.2 e;exact⟨es',by simpa using h1,h2⟩
theorem Rw.sub {fs:List Ty}{es:af}(h:Rw fs es){i:Int}(hn:i.toNat<es.length){j:Nat}{gs:List Ty}(hj:fs[j]?=some (.sl gs)):Rw gs (aw es i j):=by
 obtain⟨es',h1,h2⟩:=xZ (h.at hn) hj;unfold aw;rw[Zm (l:=es.getD i.toNat []),h1];exact h2
theorem Rw.nil {fs:List Ty}:Rw fs []:=⟨Nat.zero_le _,by simp⟩
theorem Rw.take {fs:List Ty}{es:af}(h:Rw fs es)(n:Nat):Rw fs (es.take n):=⟨by rw[List.length_take];exact ZN (Nat.min_le_right _ _) h.1,fun e he=>h.2 e (List.mem_of_mem_take he)⟩
theorem Rw.drop {fs:List Ty}{es:af}(h:Rw fs es)(n:Nat):Rw fs (es.drop n):=⟨by rw[List.length_drop];exact ZN (Nat.sub_le _ _) h.1,fun e he=>h.2 e (List.mem_of_mem_drop he)⟩
theorem Rw.append {fs:List Ty}{a b:af}(ha:Rw fs a)(hb:Rw fs b)(hl:a.length+b.length<=maxLen):Rw fs (a++b):=⟨by simpa using hl,fun e he=>by rcases List.mem_append.1 he with q|q;exact ha.2 e q;exact hb.2 e q⟩
theorem Rw.one {fs:List Ty}{e:aT}(h:bR fs e):Rw fs [e]:=⟨by simp[maxLen],by simpa using h⟩
theorem Rw.set {fs:List Ty}{es:af}(h:Rw fs es){e:aT}(he:bR fs e)(n:Nat):Rw fs (es.set n e):=⟨by simpa using h.1,fun x hx=>by rcases List.mem_or_eq_of_mem_set hx with q|q;exact h.2 x q;rw[q];exact he⟩
theorem Rw.replicate {fs:List Ty}{e:aT}(h:bR fs e){n:Nat}(hn:n<=maxLen):Rw fs (List.replicate n e):=⟨by simpa using hn,fun x hx=>by rw[List.eq_of_mem_replicate hx];exact h⟩
def sR:Ty->Bool
 | .sl _=>false
 |_=>true
theorem vK {t:Ty}{l:L}(h:dq t l)(hs:sR t=true):∃ x,l=.v x:=by
 cases t with
 |sl fs=>cases hs
 | int k=>cases l with
   |v x=>exact⟨x,rfl⟩
   |_=>simp[dq]at h
 | bool=>cases l with
   |v x=>exact⟨x,rfl⟩
   |_=>simp[dq]at h
 | str=>cases l with
   |v x=>exact⟨x,rfl⟩
   |_=>simp[dq]at h
theorem yi:∀ {fs:List Ty} {e:aT},fs.all sR=true->bR fs e->fj e=0
 |[],[],_,_=>rfl
 |[],_::_,_,h=>h.elim
 |_::_,[],_,h=>h.elim
 | t::ts,l::ls,hs,h=>by
   simp only[Xy,Zc]at hs;obtain⟨x,rfl⟩:=vK h.1 hs.1;simp only[fj,pQ];rw[yi hs.2 h.2]
theorem A7 {fs:List Ty}(hs:fs.all sR=true):∀ {es:af},(∀ e∈es,bR fs e)->cK es=0
 |[],_=>rfl
 |e::es,h=>by simp only[cK];rw[yi hs (h e (by simp)),A7 hs (fun x hx=>h x (by simp[hx]))]
theorem Rw.cnt {fs:List Ty}{es:af}(h:Rw fs es)(hs:fs.all sR=true):ap es=es.length:=by unfold ap;rw[A7 hs h.2];rfl
theorem Rw.scal {fs:List Ty}{es:af}(h:Rw fs es)(hs:fs.all sR=true):bE es:=by
 have key:∀ {fs:List Ty} {e:aT},fs.all sR=true->bR fs e->eF e:=by
  intro fs
  induction fs with
  | nil=>intro e _ h;cases e with
    |nil=>trivial
    |cons _ _=>exact h.elim
  | cons t ts ih=>
    intro e hs h;cases e with
    |nil=>exact h.elim
    | cons l ls=>
      simp only[Xy,Zc]at hs;obtain⟨x,rfl⟩:=vK h.1 hs.1;exact(ih hs.2 h.2:eF ls)
 have:∀ {es:af},(∀ e∈es,bR fs e)->bE es:=by
  intro es
  induction es with
  |nil=>intro _;trivial
  |cons e es ih=>intro h;exact⟨key hs (h e (by simp)),ih (fun x hx=>h x (by simp[hx]))⟩
 exact this h.2
theorem KL {es:af}{n:Nat}(hn:n<es.length):cK (es.take (n+1))=cK (es.take n)+fj (es.getD n []):=by
 rw[kO (d:=[]) hn,ez];simp[cK]
theorem xG {es:af}{n:Nat}:cK (es.take n)<=cK es:=by
 conv=>rhs;rw[<-List.take_append_drop n es,ez]
 omega
theorem LW {sz:Nat}{c:af}{n j:Nat}:kh (.s sz c) [(n,j)]=Nv ((c.getD n []).getD j .g):=by
 unfold kh fC;simp only[bQ];cases h:c[n]? with
 |none=>simp[ZF,h,Nv]
 | some rec=>
   simp only[Yk,ZF,h,ZZ];cases h2:rec[j]? with
   |none=>simp[Nv]
   |some l=>cases l<;>simp[Nv]
theorem K2 {sz:Nat}{c:af}{n j:Nat}(h:n<c.length):bQ (.s sz c) [(n,j)]=some (c.getD n [],j):=by simp[bQ,ZF,h]
theorem K4 {sz:Nat}{c:af}{n j:Nat}(h:n<c.length):fC (.s sz c) [(n,j)]=match(c.getD n [])[j]? with
 |some (.s sz es)=>some (sz,es)
 |_=>none:=by unfold fC;rw[K2 h];rfl
end Go.V
namespace Go.V
abbrev Lb (a0 a1 a2:af)(a3:Int)(a4 a5 a6 a7 a8 a9 aA aB:af)(aC:Int)(aD:af)(aE aF aG aH:Int)(aI:Bool)(aJ aK:Int)(aL:af)(aM aN:Int):aT:=[.s 1 a0,.s 1 a1,.s 2 a2,.i a3,.s 1 a4,.s 2 a5,.s 3 a6,.s 3 a7,.s 4 a8,.s 1 a9,.s 1 aA,.s 1 aB,.i aC,.s 3 aD,.i aE,.i aF,.i aG,.i aH,.v (.bool aI),.i aJ,.i aK,.s 1 aL,.i aM,.i aN]
abbrev Lc (a0 a1 a2:af)(a3:Int)(a4 a5 a6 a7 a8 a9 aA aB:af)(aC:Int)(aD:af)(aE aF aG aH:Int)(aI:Bool)(aJ aK:Int)(aL:af)(aM aN:Int):List H:=[.own (.s 1 a0),.own (.s 1 a1),.own (.s 2 a2),.own (.i a3),.own (.s 1 a4),.own (.s 2 a5),.own (.s 3 a6),.own (.s 3 a7),.own (.s 4 a8),.own (.s 1 a9),.own (.s 1 aA),.own (.s 1 aB),.own (.i aC),.own (.s 3 aD),.own (.i aE),.own (.i aF),.own (.i aG),.own (.i aH),.own (.v (.bool aI)),.own (.i aJ),.own (.i aK),.own (.s 1 aL),.own (.i aM),.own (.i aN)]
theorem agv {es:af}{n:Nat}(h:ap es<=n):es.length<=n:=ZN (Nat.le_add_right _ _) h
theorem zq0 {p:Prop}(h:p:=by
 intro O r F hO hr hF;cbv
 repeat' first|apply And.intro|(apply cP<;>intro hb<;>cbv)
 all_goals(subst hO hr hF;(try simp only[nc]at*);(try simp only[aj,SS,sa,az]at*))
 all_goals first|exact hs|trivial|exact⟨trivial,trivial⟩|exact⟨hw,hl⟩|omega|(show ax _ _=true;kernel_rfl)|(simp only[List.length_nil];omega)|exact rfl|done):p:=h
theorem zq1 {p:Prop}(h:p:=by
 intro O r F hO hr hF;cbv
 repeat' first|apply And.intro|(apply cP<;>intro hb<;>cbv)
 all_goals(subst hO hr hF;(try simp only[nc]at*);(try simp only[aj,SS,sa,az]at*))
 all_goals first|exact rfl|done):p:=h
theorem zq2 {p:Prop}(h:p:=by
 intro O r F hO hr hF;cbv
 repeat' first|apply And.intro|(apply cP<;>intro hb<;>cbv)
 all_goals(subst hO hr hF;(try simp only[nc]at*);(try simp only[aj,SS,sa,az]at*))
 all_goals first
  | (show(_:List DV)=_
     first
      |exact av (lB (by unfold eqB;simp only[SS,VR]))
      |done)
  |done):p:=h
theorem zq3 {p:Prop}(h:p:=by
 intro O r F hO hr hF;cbv
 repeat' first|apply And.intro|(apply cP<;>intro hb<;>cbv)
 all_goals(subst hO hr hF;(try simp only[nc]at*);(try simp only[aj,SS,sa,az]at*))
 all_goals first|exact hp|exact rfl|done):p:=h
theorem fK {p:Prop}(h:p:=by
 refine⟨by omega,by omega,(Rw.eta (by first|assumption|exact Rw.sub (by first|assumption|exact Rw.sub (by assumption) (by omega) rfl) (by omega) rfl) (by omega) (by omega)).trans ?_⟩;rfl):p:=h
end Go.V