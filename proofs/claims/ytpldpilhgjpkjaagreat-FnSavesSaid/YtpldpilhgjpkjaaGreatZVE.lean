/-
  A condition generator for functions on trees of data, part 5 of 5: values in memory, contracts, soundness.
-/
import Derived.Test.YtpldpilhgjpkjaaGreatZVD
set_option linter.all false
open Go
open Bool renaming and_eq_true->Zb
open Code renaming wp_mono->YF
open Ending renaming returned->XJ
open Int renaming ofNat->WJ
open List renaming all_eq_true->Z7,mem_of_getElem?->ZA,getElem?_eq_some_iff->ZB,range->Zo,getElem?_eq_getElem->Zt,getD->ZD,getElem?_of_mem->YA,getD_eq_getElem?_getD->Zm,all_cons->Xz
open Nat renaming beq->ZL,ble->Yr,le_of_ble_eq_true->YR,lt_or_ge->Z8,zero_add->ZK,le_trans->ZH
open Option renaming map_some->Yk,getD_some->Z0
namespace Go.V
def AD {α:Type}(pr:(Unit->Prop)->Prop)(r:Nat):Nat->List H->(List H->Rd α)->Rd α
 |_,[],k=>k []
 | j,h0::hs,k=>gD r j fun h=>match h.c with
   | .own l=>AD pr r (j+1) hs fun cs=>k (.own l::cs)
   | .ro l=>match h0 with
     | .ro l0=>match h.org with
       |some i=>if ZL i (r*1000+j)then .req (pr fun _=>l=l0) (AD pr r (j+1) hs fun cs=>k (.ro l0::cs))else .fail
       |none=>.fail
     |_=>.fail
   | .gone=>.fail
def K4 {α:Type}(pr:(Unit->Prop)->Prop)(os:Nat->List H):List (Nat×List H)->Nat->Rd α->Rd α
 |[],_,k=>k
 |(r,hs)::m,i,k=>AD pr r 0 hs fun cs=>.req (pr fun _=>cs=os i) (K4 pr os m (i+1) k)
def HR (T:vK)(O:zW)(ts:List TypeId)(rvs:List ResultVar)(m:List (Nat×List H))(σ:VS)(res:List DV)(os:Nat->List H):Prop:=
 (yr T O ts rvs fun ds srcs=>if bG srcs&&srcs.all (fun s=>m.all fun q=> !(s.1.beq q.1))then .req (O.pr fun _=>ds=res) (K4 O.pr os m 0 (.ret ()))else .fail).wpU (get σ) [] fun _ _=>True
def Nk (T:vK)(O:zW)(ts:List TypeId)(rvs:List ResultVar)(m:List (Nat×List H))(res:List DV)(os:Nat->List H):Ex->VS->Prop
 | .normal,σ=>HR T O ts rvs m σ res os
 | .ret,σ=>HR T O ts rvs m σ res os
 | .exit _,_=>False
section
variable {P: Program} {T: vK} {cx: Cx} {G: Gh} {g: Gm} {a: Act} {w: World}
def Nf (fz:List (Nat×List Nat))(hT:bO P T){Φ:Type}{F0:Φ}{ctF:Φ->CT}{mtF:Φ->MT}{ptF:Φ->PT}{ntF:Φ->NT}{otF:Φ->OT}(hct:zu P (ctF F0))(hmt:CB P (mtF F0))(hpt:CF P (ptF F0))(hnw:CC P (ntF F0))(hot:CE P (otF F0))(hm:P.follows .mixedOrders=true){f:FuncId}{fn:Func}{ds res:List DV}(n:Nat)(c:Code)(ts:List TypeId)(rvs:List ResultVar) 
 (hf:P.funcs[f]?=some fn) (hb:fn.body=some c) (hnt:fn.ntmps=n) (hts:fn.resultTypes.toList=ts) (hrv:fn.results.toList=rvs) (hn:Yr ds.length n=true)
 (h:∀ O r F,O=aj->r=res->F=F0->mW T O ⟨ctF F,mtF F,ptF F,ntF F,otF F⟩ n [] fz c (Nl T O ts rvs r) (ed 0 ds)):IU P f ds res:=by
 subst hnt hts hrv;replace h:=h aj res F0 rfl rfl rfl;replace hn:=YR hn;intro w vs hargs;refine calls_of_wp hf hb ?_;refine YF ?_ (dm (fz:=fz) (cx:=⟨fn.ntmps,w,fun _=>True,fun _=>undef,fun _=>none,fun _=>0,fun _=>True⟩) (fun _ _=>trivial) hT (ct:=⟨ctF F0,mtF F0,ptF F0,ntF F0,otF F0⟩) ⟨hct,hmt,hpt,hnw,hot⟩ hm rfl (an:=[]) (fun r x e=>by cases e) c _ _ _ w h (Dh fn.ntmps w ds vs hargs hn));rintro e a' w' ⟨ex,σ',rfl,hq',G,hS⟩;have hq:AP T aj fn.resultTypes.toList fn.results.toList σ' res:=by
  cases ex with
  |normal=>exact hq'
  |ret=>exact hq'
  |exit i=>exact hq'.elim
 have hex:ex=.normal\/ex=.ret:=by
  cases ex with
  |normal=>exact .inl rfl
  |ret=>exact .inr rfl
  |exit i=>exact hq'.elim
 unfold AP at hq;obtain⟨ls,u,t,h1,_⟩:=Rd.wpU_runs hq;obtain⟨ds',vs',srcs,S,ls',k1,k2,k3,k4,k5⟩:=jV hS _ _ _ _ _ (lS hT (fun _ _ _ h=>h) h1);split at k5
 case isFalse=>exact k5.elim
 rename_i hd;simp only[Rd.Runs]at k5;have hres0:ds'=res:=k5.1;subst hres0;obtain⟨v,hrun,hres⟩:=qt k1 k2;have hfresh:∀ b∈S,w.heap.size<=b/\eH w' b:=by
  intro b hb;obtain⟨u,r,j,m1,m2⟩:=k4 b hb;refine⟨?_,u⟩;rcases Z8 b w.heap.size with hlt|hge
  ·rcases hS.frow b hlt trivial with e|e<;>rw[m2]at e<;>cases e
  ·exact hge
 have fin:a'.defers=[]/\∃ v,(results fn a'.tmps).run P w'=.ok v w'/\∃ v' S,XJ v=.returned v'/\gy w' ds' v' S/\S.Nodup/\(∀ b∈S,w.heap.size<=b/\eH w' b)/\Same (fun _=>True) w w':=
  ⟨hS.defers,_,hrun,_,S,rfl,hres,k3 hd,hfresh,hS.frame⟩
 rcases hex with rfl|rfl;exact fin;exact fin
def pM {α:Type}{r:Nat}:∀ (hs:List H) (j:Nat) (k:List H->Rd α) (ls:List Loc) (out:α),(AD mS r j hs k).Runs g ls out->
 ∃ cs ls',(k cs).Runs g ls' out/\cs.length=hs.length/\∀ (i:Nat) c,cs[i]?=some c->∃ hv,g (.leaf r (j+i))=some (.h hv)/\hv.c=c/\(match c with
  | .own _=>True
  | .ro l=>hs[i]?=some (.ro l)/\hv.org=some (r*1000+(j+i))
  | .gone=>False)
 |[],j,k,ls,out,h=>⟨[],ls,h,rfl,fun i c e=>by simp at e⟩
 | h0::hs,j,k,ls,out,h=>by
   obtain⟨hv,ls2,_,q2,hk⟩:=bL (k:=fun hh=>match hh.c with
    | .own l=>AD mS r (j+1) hs fun cs=>k (.own l::cs)
    | .ro l=>match(generalizing:=false) h0 with
      | .ro l0=>match hh.org with
        |some i=>if ZL i (r*1000+j)then .req (mS fun _=>l=l0) (AD mS r (j+1) hs fun cs=>k (.ro l0::cs))else .fail
        |none=>.fail
      |_=>.fail
    | .gone=>.fail) h
   cases hc:hv.c with
   |gone=>simp[hc,Rd.Runs]at hk
   | own l=>
     simp only[hc]at hk;obtain⟨cs,ls3,e1,e2,e3⟩:=pM hs (j+1) _ _ _ hk;refine⟨_,ls3,e1,by simp[e2],fun i c e=>?_⟩;cases i with
     |zero=>simp at e;subst e;exact⟨hv,q2,hc,trivial⟩
     | succ i=>
       simp at e;obtain⟨hv',k1,k2,k3⟩:=e3 i c e;refine⟨hv',by rw[show j+(i+1)=j+1+i from by omega];exact k1,k2,?_⟩;cases c with
       |own l=>trivial
       |ro l=>exact⟨by simpa using k3.1,by rw[show j+(i+1)=j+1+i from by omega];exact k3.2⟩
       |gone=>exact k3
   | ro l=>
     simp only[hc]at hk;cases h0 with
     |own l0=>exact hk.elim
     |gone=>exact hk.elim
     | ro l0=>
       simp only at hk;cases ho:hv.org with
       |none=>simp[ho,Rd.Runs]at hk
       | some i0=>
         simp only[ho]at hk;split at hk
         ·rename_i hb;have hi:=Nat.eq_of_beq_eq_true hb;obtain⟨hl,hk⟩:=hk;have hl:l=l0:=hl;subst hl hi;obtain⟨cs,ls3,e1,e2,e3⟩:=pM hs (j+1) _ _ _ hk;refine⟨_,ls3,e1,by simp[e2],fun i c e=>?_⟩;cases i with
          |zero=>simp at e;subst e;exact⟨hv,q2,hc,by simp,ho⟩
          | succ i=>
            simp at e;obtain⟨hv',k1,k2,k3⟩:=e3 i c e;refine⟨hv',by rw[show j+(i+1)=j+1+i from by omega];exact k1,k2,?_⟩;cases c with
            |own l=>trivial
            |ro l=>exact⟨by simpa using k3.1,by rw[show j+(i+1)=j+1+i from by omega];exact k3.2⟩
            |gone=>exact k3
         ·exact hk.elim
def vB {α:Type}{os:Nat->List H}:∀ (m:List (Nat×List H)) (i:Nat) (k:Rd α) (ls:List Loc) (out:α),(K4 mS os m i k).Runs g ls out->
 ∀ (n r:Nat) hs,m[n]?=some (r,hs)->(os (i+n)).length=hs.length/\∀ (j:Nat) c,(os (i+n))[j]?=some c->∃ hv,g (.leaf r j)=some (.h hv)/\hv.c=c/\(match c with
  | .own _=>True
  | .ro l=>hs[j]?=some (.ro l)/\hv.org=some (r*1000+j)
  | .gone=>False)
 |[],i,k,ls,out,h=>fun n r hs e=>by simp at e
 | (r0,hs0)::m,i,k,ls,out,h=>by
  obtain⟨cs,ls2,h1,h2,h3⟩:=pM _ _ _ _ _ h;obtain⟨he,h1⟩:=h1;have he:cs=os i:=he;intro n r hs e;cases n with
  | zero=>
    simp at e;obtain⟨rfl,rfl⟩:=e;rw[Nat.add_zero, <-he];refine⟨h2,fun j c hc=>?_⟩;have:=h3 j c hc
    simpa using this
  | succ n=>
    simp at e;have:=vB m (i+1) k _ _ h1 n r hs e;rw[show i+(n+1)=i+1+n from by omega];exact this
def pK {w:World}{ok:Nat->Prop}:∀ {ds:List DV} {vs:List Value} {ps:List ga} {p k:Nat} {q:ga},gx w ok ds vs ps->ps[k]?=some q->∃ r,(mpL p ds)[k]?=some (r,q.hs)
 |[],vs,ps,p,k,q,h,e=>by simp only[gx]at h;rw[h.2]at e;simp at e
 | d::ds,vs,ps,p,k,q,h,e=>by
   cases d with
   | mp hs=>
     obtain⟨p0,ps',vs',rfl,rfl,e0,h⟩:=h;cases k with
     |zero=>simp at e;subst e;exact⟨p,by simp[mpL,e0]⟩
     |succ k=>simp at e;obtain⟨r,hr⟩:=pK (p:=p+1) h e;exact⟨r,by simpa[mpL]using hr⟩
   |one l=>obtain⟨v,vs',S,rfl,_,_,h⟩:=h;exact pK (p:=p+1) h e
   |agg l=>obtain⟨v,vs',S,rfl,_,_,h⟩:=h;exact pK (p:=p+1) h e
   |ptr l=>obtain⟨v,vs',S,rfl,_,_,h⟩:=h;exact pK (p:=p+1) h e
   |fn f l=>obtain⟨v,vs',S,rfl,_,_,h⟩:=h;exact pK (p:=p+1) h e
open Classical in
def Dw (al:Bool)(hT:bO P T){Φ:Type}{F0:Φ}{ctF:Φ->CT}{mtF:Φ->MT}{ptF:Φ->PT}{ntF:Φ->NT}{otF:Φ->OT}(hct:zu P (ctF F0))(hmt:CB P (mtF F0))(hpt:CF P (ptF F0))(hnw:CC P (ntF F0))(hot:CE P (otF F0))(hm:P.follows .mixedOrders=true){f:FuncId}{fn:Func}{ds res:List DV}{outs:List (List H)}(n:Nat)(c:Code)(ts:List TypeId)(rvs:List ResultVar) 
 (hf:P.funcs[f]?=some fn) (hb:fn.body=some c) (hnt:fn.ntmps=n) (hts:fn.resultTypes.toList=ts) (hrv:fn.results.toList=rvs) (hn:Yr ds.length n=true) (hlo:(mpL 0 ds).length=outs.length) (hl0:(mpL 0 ds).all (fun q=>q.2.length.ble 999)=true) (hl1:al=true->(mpL 0 ds).all (fun q=>q.1.ble 999)=true)
 (h:∀ O r os F,O=aj->r=res->os=(fun i=>outs.getD i [])->F=F0->mW T O ⟨ctF F,mtF F,ptF F,ntF F,otF F⟩ n ((mpL 0 ds).map (·.1)) [] c (Nk T O ts rvs (mpL 0 ds) r os) (fc al 0 ds)):zy P f ds outs res:=by
 subst hnt hts hrv;replace h:=h aj res _ F0 rfl rfl rfl rfl;replace hn:=YR hn;intro w vs ps hpre;have ix:=fun {r q}=>rG (p:=0) (r:=r) (q:=q) hpre.args
 have hlt:∀ {r q},im 0 ds ps r=some q->q.hs.length<=999:=by
  intro r q e;obtain⟨k,e1,_⟩:=ix.1 e;have:=Z7.1 hl0 _ (ZA e1);exact YR this
 let anc:Nat->Value:=fun i=>((im 0 ds ps ((match al with|true=>i%1000000000|false=>i)/1000)).map fun q=>q.val (i%1000)).getD undef
 have hlr:∀ {r q},al=true->im 0 ds ps r=some q->r<=999:=by
  intro r q ha e;obtain⟨k,e1,_⟩:=ix.1 e;have:=Z7.1 (hl1 ha) _ (ZA e1);exact YR this
 have hanc:∀ r q j l,im 0 ds ps r=some q->q.hs[j]?=some (.ro l)->anc (r*1000+j)=q.val j:=by
  intro r q j l e e1;have h1:=(ZB.1 e1).1;have h2:=hlt e;have h3:(r*1000+j)/1000=r:=by omega
  have h4:(r*1000+j)%1000=j:=by omega
  cases al with
  |false=>simp only[anc,h3,h4,e,Yk,Z0]
  | true=>
    have h5:=hlr rfl e;have h6:(r*1000+j)%1000000000=r*1000+j:=by omega
    simp only[anc,h6,h3,h4,e,Yk,Z0]
 have hanc2:∀ r q j l,al=true->im 0 ds ps r=some q->q.hs[j]?=some (.own l)->anc (1000000000+(r*1000+j))=q.val j:=by
  intro r q j l ha e e1;have h1:=(ZB.1 e1).1;have h2:=hlt e;have h5:=hlr ha e;subst ha;have h3:(1000000000+(r*1000+j))%1000000000/1000=r:=by omega
  have h4:(1000000000+(r*1000+j))%1000=j:=by omega
  simp only[anc,h3,h4,e,Yk,Z0]
 refine calls_of_wp hf hb ?_;have hini:=Ia (al:=al) fn.ntmps w ds vs ps hpre hn anc hanc hanc2;refine YF ?_ (dm (fz:=[]) (cx:=⟨fn.ntmps,w,fun b=>¬ mD ps b/\¬ qI ps b,anc,fun r=>(im 0 ds ps r).map fun(q:ga)=>(q.b,q.off),fun r=>((im 0 ds ps r).map fun(q:ga)=>q.hs.length).getD 0,fun _=>True⟩) (fun q=>absurd rfl q) hT (ct:=⟨ctF F0,mtF F0,ptF F0,ntF F0,otF F0⟩) ⟨hct,hmt,hpt,hnw,hot⟩ hm rfl (an:=(mpL 0 ds).map (·.1)) (fun r x e=>by
  cases e0:im 0 ds ps r with
  |none=>simp[e0]at e
  |some q=>obtain⟨k,e1,_⟩:=ix.1 e0;exact List.mem_map.2 ⟨_,ZA e1,rfl⟩) c _ _ _ w h hini)
 rintro e a' w' ⟨ex,σ',rfl,hq',G,hS⟩;have hq:HR T aj fn.resultTypes.toList fn.results.toList (mpL 0 ds) σ' res (fun i=>outs.getD i []):=by
  cases ex with
  |normal=>exact hq'
  |ret=>exact hq'
  |exit i=>exact hq'.elim
 have hex:ex=.normal\/ex=.ret:=by
  cases ex with
  |normal=>exact .inl rfl
  |ret=>exact .inr rfl
  |exit i=>exact hq'.elim
 unfold HR at hq;obtain⟨ls,u,t,h1,_⟩:=Rd.wpU_runs hq;obtain⟨ds',vs',srcs,Sr,ls',k1,k2,k3,k4,k5⟩:=jV hS _ _ _ _ _ (lS hT (fun _ _ _ h=>h) h1);split at k5
 case isFalse=>exact k5.elim
 rename_i hd;simp only[Zb]at hd;obtain⟨hd1,hd2⟩:=hd;obtain⟨hres0,k5⟩:=k5;have hres0:ds'=res:=hres0;subst hres0;have o1:=vB _ _ _ _ _ k5;obtain⟨v,hrun,hres⟩:=qt k1 k2;have plen:ps.length=outs.length:=by
  rw[<-hlo];have key:∀ {ds:List DV} {vs:List Value} {ps:List ga} {p:Nat} {ok:Nat->Prop},gx w ok ds vs ps->ps.length=(mpL p ds).length:=by
   intro ds
   induction ds with
   |nil=>intro vs ps p ok h;simp only[gx]at h;simp[h.2,mpL]
   | cons d ds ih=>
     intro vs ps p ok h;cases d with
     |mp hs=>obtain⟨p0,ps',vs',rfl,rfl,_,h⟩:=h;simp[mpL,ih (p:=p+1) h]
     |one l=>obtain⟨v,vs',S,rfl,_,_,h⟩:=h;exact ih (p:=p+1) h
     |agg l=>obtain⟨v,vs',S,rfl,_,_,h⟩:=h;exact ih (p:=p+1) h
     |ptr l=>obtain⟨v,vs',S,rfl,_,_,h⟩:=h;exact ih (p:=p+1) h
     |fn f l=>obtain⟨v,vs',S,rfl,_,_,h⟩:=h;exact ih (p:=p+1) h
  exact key hpre.args
 let pst:Nat->ga:=fun k=>
  { b:=(ps.getD k ⟨0,0,[],fun _=>undef,fun _=>[]⟩).b,off:=(ps.getD k ⟨0,0,[],fun _=>undef,fun _=>[]⟩).off,hs:=outs.getD k [],
    val:=fun j=>G.val ((mpL 0 ds).getD k (0,[])).1 j,
    fp:=fun j=>match(outs.getD k [])[j]? with
     |some (.own _)=>G.fp ((mpL 0 ds).getD k (0,[])).1 j
     |_=>(ps.getD k ⟨0,0,[],fun _=>undef,fun _=>[]⟩).fp j}
 have info:∀ (k:Nat) q',((Zo ps.length).map pst)[k]?=some q'->∃ q r,ps[k]?=some q/\(mpL 0 ds)[k]?=some (r,q.hs)/\im 0 ds ps r=some q/\q'=pst k/\q'.b=q.b/\q'.off=q.off/\outs[k]?=some q'.hs/\q'.hs.length=q.hs.length/\(∀ j,q'.val j=G.val r j)/\(∀ j l,q'.hs[j]?=some (.own l)->q'.fp j=G.fp r j)/\
  ∀ (j:Nat) c,q'.hs[j]?=some c->∃ hv,get σ' (.leaf r j)=some (.h hv)/\hv.c=c/\(match c with
   | .own _=>True
   | .ro l=>q.hs[j]?=some (.ro l)/\hv.org=some (r*1000+j)
   | .gone=>False):=by
  intro k q' e;rw[List.getElem?_map,Option.map_eq_some_iff]at e;obtain⟨k',e1,rfl⟩:=e;obtain⟨hk,rfl⟩:=ZB.1 e1;simp only[List.length_range]at hk;simp only[List.getElem_range];have hq:ps[k]?=some ps[k]:=Zt hk;obtain⟨r,hr⟩:=pK (p:=0) hpre.args hq;have hpa:im 0 ds ps r=some ps[k]:=ix.2 ⟨k,hr,hq⟩;have hout:outs[k]?=some outs[k]:=Zt Uc;have g1:ps.getD k ⟨0,0,[],fun _=>undef,fun _=>[]⟩=ps[k]:=by simp[ZD,hq]
  have g2:outs.getD k []=outs[k]:=by simp[ZD,hout]
  have g3:(mpL 0 ds).getD k (0,[])=(r,ps[k].hs):=by simp[ZD,hr]
  obtain⟨m1,m2⟩:=o1 k r _ hr;rw[ZK]at m1 m2;refine⟨ps[k],r,hq,hr,hpa,trivial,by simp only[pst,g1],by simp only[pst,g1],by simp only[pst,g2];exact hout,by simp only[pst];exact m1,fun j=>by simp only[pst,g3],fun j l e=>?_,fun j c e=>?_⟩
  ·simp only[pst]at e ⊢;rw[e];simp only[g3]
  ·exact m2 j c e
 have meta_:∀ {r q},im 0 ds ps r=some q->G.loc r=some (q.b,q.off)/\get σ' (.meta_ r)=some (.m q.hs.length true):=by
  intro r q e;have:=hS.aloc r (q.b,q.off) (by simp[e])
  simpa[e]using this
 have mem:∀ q'∈(Zo ps.length).map pst,∃ k:Nat,((Zo ps.length).map pst)[k]?=some q':=fun q' hq=>by
  obtain⟨k,hk⟩:=YA hq;exact⟨k,hk⟩
 have ownTok:∀ b,mD ((Zo ps.length).map pst) b->∃ r j q,im 0 ds ps r=some q/\G.ow b=some (.leaf r j)/\eH w' b:=by
  rintro b ⟨q',hq,j,l,e1,e2⟩;obtain⟨k,hk⟩:=mem q' hq;obtain⟨q,r,i1,i2,i3,i4,i5,i6,i7,i8,i9,i10,i11⟩:=info k q' hk;obtain⟨hv,m1,m2,_⟩:=i11 j _ e1;rw[i10 j l e1]at e2;have:=hS.hok (av.2 m1);simp only[d4,m2]at this;exact⟨r,j,q,i3,this.2.2 b e2⟩
 have ptrTok:∀ b,qI ps b->∃ k,G.ow b=some (.box k):=by
  rintro b ⟨q,hq,rfl⟩;obtain⟨k,hk⟩:=YA hq;obtain⟨r,hr⟩:=pK (p:=0) hpre.args hk;obtain⟨f1,f2⟩:=meta_ (ix.2 ⟨k,hr,hk⟩);obtain⟨b',off',cur,ty,z1,z2,_⟩:=hS.boxes r _ f2;rw[f1]at z1;cases z1;exact⟨_,z2⟩
 have own:∀ b r j,eH w' b->G.ow b=some (.leaf r j)->eH w' b/\(w.heap.size<=b\/mD ps b):=by
  intro b r j hu ht;refine⟨hu,?_⟩;rcases Z8 b w.heap.size with hlt|hge
  ·by_cases c1:mD ps b;exact .inr c1
   ·by_cases c2:qI ps b
    ·obtain⟨k,hk⟩:=ptrTok b c2;rw[hk]at ht;cases ht
    ·rcases hS.frow b hlt ⟨c1,c2⟩with e|e<;>rw[ht]at e<;>cases e
  ·exact .inl hge
 have post:Jg w ps outs w' ((Zo ps.length).map pst) Sr:=by
  refine⟨by simp,?_,?_,?_,?_,?_,?_,⟨k3 hd1,?_⟩,?_,hS.frame,?_⟩
  ·intro k p p' hp hp';obtain⟨q,r,i1,i2,i3,i4,i5,i6,i7,i8,_⟩:=info k p' hp';rw[hp]at i1;cases i1;exact⟨i5,i6,i7,i8⟩
  ·intro q' hq;obtain⟨k,hk⟩:=mem q' hq;obtain⟨q,r,i1,i2,i3,i4,i5,i6,i7,i8,i9,_⟩:=info k q' hk;obtain⟨f1,f2⟩:=meta_ i3;obtain⟨b',off',cur,ty,z1,z2,z3,z4,z5⟩:=hS.boxes r _ f2;rw[f1]at z1;cases z1;exact⟨cur,ty,by rw[i5];exact z3,fun j hj=>by rw[i6,i9];exact z5 j Uc⟩
  ·intro q' hq j l e;obtain⟨k,hk⟩:=mem q' hq;obtain⟨q,r,i1,i2,i3,i4,i5,i6,i7,i8,i9,i10,i11⟩:=info k q' hk;obtain⟨hv,m1,m2,_⟩:=i11 j _ e;have:=hS.hok (av.2 m1);simp only[d4,m2]at this;rw[i9,i10 j l e];exact⟨this.1,this.2.1⟩
  ·intro k p p' j l hp hp' e;obtain⟨q,r,i1,i2,i3,i4,i5,i6,i7,i8,i9,i10,i11⟩:=info k p' hp';rw[hp]at i1;cases i1;obtain⟨hv,m1,m2,m3,m4⟩:=i11 j _ e;refine⟨m3,?_⟩;rw[i9,hS.anc r j hv (av.2 m1) _ m4];exact hanc r p j l i3 m3
  ·intro q' hq j e;obtain⟨k,hk⟩:=mem q' hq;obtain⟨q,r,i1,i2,i3,i4,i5,i6,i7,i8,i9,i10,i11⟩:=info k q' hk;obtain⟨hv,m1,m2,m3⟩:=i11 j _ e;exact m3
  ·intro k j k' j' p p' l l' hp hp' e e' hne b hb hb';obtain⟨q,r,i1,i2,i3,i4,i5,i6,i7,i8,i9,i10,i11⟩:=info k p hp;obtain⟨q2,r2,i1',i2',i3',i4',i5',i6',i7',i8',i9',i10',i11'⟩:=info k' p' hp';obtain⟨hv,m1,m2,_⟩:=i11 j _ e;obtain⟨hv',m1',m2',_⟩:=i11' j' _ e';rw[i10 j l e]at hb;rw[i10' j' l' e']at hb';have t1:=hS.hok (av.2 m1);simp only[d4,m2]at t1;have t2:=hS.hok (av.2 m1');simp only[d4,m2']at t2;have u1:=(t1.2.2 b hb).1;have u2:=(t2.2.2 b hb').1;rw[u1]at u2;cases u2;have hkk:k=k':=by
    rw[i3]at i3';cases i3';by_cases c:k=k';exact c
    ·have:=hpre.sep k k' q q c i1 i1' rfl;have:=(ZB.1 e).1;omega
   subst hkk;exact hne rfl
  ·intro b hb ho;obtain⟨r,j,q,e1,e2,_⟩:=ownTok b ho;obtain⟨_,r',j',m1,m2⟩:=k4 b hb;rw[m2]at e2;cases e2;obtain⟨k,e3,_⟩:=ix.1 e1;have:=Z7.1 (Z7.1 hd2 _ m1) _ (ZA e3);simp at this
  ·intro b hb;rcases hb with hb|hb
   ·obtain⟨hu,r,j,_,m2⟩:=k4 b hb;exact own b r j hu m2
   ·obtain⟨r,j,q,_,m2,hu⟩:=ownTok b hb;exact own b r j hu m2
  ·rintro b ⟨q,hq,rfl⟩;obtain⟨k,hk⟩:=YA hq;obtain⟨r,hr⟩:=pK (p:=0) hpre.args hk;have hpa:=ix.2 ⟨k,hr,hk⟩;obtain⟨c0,c1,ty,z1,z2,z3,z4⟩:=hS.afr r q.b q.off (by simp[hpa]);refine⟨c0,c1,ty,z1,z2,z3,fun i hi=>z4 i (fun r' off' e=>?_)⟩;cases e0:im 0 ds ps r' with
   |none=>simp[e0]at e
   | some q2=>
     simp[e0]at e ⊢;obtain⟨e1,rfl⟩:=e;obtain⟨k2,_,hk2⟩:=ix.1 e0;exact hi q2 (ZA hk2) e1
 have fin:a'.defers=[]/\∃ v,(results fn a'.tmps).run P w'=.ok v w'/\∃ v' Sr ps',XJ v=.returned v'/\gy w' ds' v' Sr/\Jg w ps outs w' ps' Sr:=
  ⟨hS.defers,_,hrun,_,Sr,_,rfl,hres,post⟩
 rcases hex with rfl|rfl;exact fin;exact fin
def yg {α:Type}(r:Nat):Nat->Nat->(List H->Rd α)->Rd α
 |_,0,k=>k []
 | j,m+1,k=>gD r j fun h=>match h.c with
   | .own (.v x)=>yg r (j+1) m fun hs=>k (.own (.v x)::hs)
   | .ro l=>yg r (j+1) m fun hs=>k (.ro l::hs)
   |_=>.fail
def HQ (O:zW)(rvs:List ResultVar)(σ:VS)(hs:List H):Prop:=
 match rvs with
 | [.tmp t]=>((Ct t fun v=>match v with
    | .one (.pt r 0)=>.get (.meta_ r) fun
      |some (.m k true)=>yg r 0 k fun hs'=>.req (O.pr fun _=>hs'=hs) (.ret ())
      |_=>.fail
    |_=>.fail):Rd Unit).wpU (get σ) [] fun _ _=>True
 |_=>False
def acL (O:zW)(rvs:List ResultVar)(hs:List H):Ex->VS->Prop
 | .normal,σ=>HQ O rvs σ hs
 | .ret,σ=>HQ O rvs σ hs
 | .exit _,_=>False
def vu {α:Type}{r:Nat}:∀ (m j:Nat) (k:List H->Rd α) (ls:List Loc) (out:α),(yg r j m k).Runs g ls out->
 ∃ hs ls',(k hs).Runs g ls' out/\hs.length=m/\∀ i h0,hs[i]?=some h0->∃ h,gl g r (j+i)=some h/\((∃ x,h.c=.own (.v x)/\h0=.own (.v x))\/∃ l,h.c=.ro l/\h0=.ro l)
 |0,j,k,ls,out,h=>⟨[],ls,h,rfl,fun i h0 e=>by simp at e⟩
 | m+1,j,k,ls,out,h=>by
   obtain⟨hv,ls1,hg,_,hq⟩:=bL (k:=fun h=>match h.c with
    | .own (.v x)=>yg r (j+1) m fun hs=>k (.own (.v x)::hs)
    | .ro l=>yg r (j+1) m fun hs=>k (.ro l::hs)
    |_=>.fail) h
   have fin:∀ c:H,((∃ x,hv.c=.own (.v x)/\c=.own (.v x))\/∃ l,hv.c=.ro l/\c=.ro l)->(yg r (j+1) m fun hs=>k (c::hs)).Runs g ls1 out->
    ∃ hs ls',(k hs).Runs g ls' out/\hs.length=m+1/\∀ i h0,hs[i]?=some h0->∃ h,gl g r (j+i)=some h/\((∃ x,h.c=.own (.v x)/\h0=.own (.v x))\/∃ l,h.c=.ro l/\h0=.ro l):=by
    intro c hc hq;obtain⟨hs,ls',q1,q2,q3⟩:=vu m (j+1) _ _ _ hq;refine⟨c::hs,ls',q1,by simp[q2],fun i h0 e=>?_⟩;cases i with
    |zero=>simp at e;subst e;exact⟨hv,by simpa using hg,hc⟩
    | succ i=>
      have:=q3 i h0 (by simpa using e)
      rwa [show j+1+i=j+(i+1)from by omega]at this
   cases hc:hv.c with
   | own l=>
     simp only[hc]at hq;cases l with
     |v x=>exact fin _ (.inl ⟨x,hc,rfl⟩) hq
     |_=>exact hq.elim
   |ro l=>simp only[hc]at hq;exact fin _ (.inr ⟨l,hc,rfl⟩) hq
   |gone=>simp only[hc]at hq;exact hq.elim
def Oc (hT:bO P T){Φ:Type}{F0:Φ}{ctF:Φ->CT}{mtF:Φ->MT}{ptF:Φ->PT}{ntF:Φ->NT}{otF:Φ->OT}(hct:zu P (ctF F0))(hmt:CB P (mtF F0))(hpt:CF P (ptF F0))(hnw:CC P (ntF F0))(hot:CE P (otF F0))(hm:P.follows .mixedOrders=true){f:FuncId}{fn:Func}{ds:List DV}{res:List H}(n:Nat)(c:Code)(ts:List TypeId)(rvs:List ResultVar) 
 (hf:P.funcs[f]?=some fn) (hb:fn.body=some c) (hnt:fn.ntmps=n) (hts:fn.resultTypes.toList=ts) (hrv:fn.results.toList=rvs) (hn:Yr ds.length n=true)
 (h:∀ O r F,O=aj->r=res->F=F0->mW T O ⟨ctF F,mtF F,ptF F,ntF F,otF F⟩ n [] [] c (acL O rvs r) (ed 0 ds)):HW P f ds res:=by
 subst hnt hts hrv;replace h:=h aj res F0 rfl rfl rfl;replace hn:=YR hn;intro X w vs hargs;refine calls_of_wp hf hb ?_;refine YF ?_ (dm (fz:=[]) (cx:=⟨fn.ntmps,w,fun _=>True,fun _=>undef,fun _=>none,fun _=>0,X⟩) (fun q=>absurd rfl q) hT (ct:=⟨ctF F0,mtF F0,ptF F0,ntF F0,otF F0⟩) ⟨hct,hmt,hpt,hnw,hot⟩ hm rfl (an:=[]) (fun r x e=>by cases e) c _ _ _ w h (Ib X fn.ntmps w ds vs hargs hn));rintro e a' w' ⟨ex,σ',rfl,hq',G,hS⟩;have hq:HQ aj fn.results.toList σ' res:=by
  cases ex with
  |normal=>exact hq'
  |ret=>exact hq'
  |exit i=>exact hq'.elim
 have hex:ex=.normal\/ex=.ret:=by
  cases ex with
  |normal=>exact .inl rfl
  |ret=>exact .inr rfl
  |exit i=>exact hq'.elim
 unfold HQ at hq;split at hq
 case h_2=>exact hq.elim
 rename_i t hrv;obtain⟨ls,u,tt,h1,_⟩:=Rd.wpU_runs hq;obtain⟨v,ls1,hv,hreg,h1⟩:=nE hS h1;split at h1
 case h_2=>exact h1.elim
 rename_i r;obtain⟨ls2,_,h1⟩:=h1;simp only at h1;split at h1
 case h_2=>exact h1.elim
 rename_i k hmeta;obtain⟨hs',ls3,h1,hk,hl⟩:=vu k 0 _ _ _ h1;obtain⟨h1,_⟩:=h1;have h1:hs'=res:=h1;cases h1;subst hk;obtain⟨b,off,cur,ty,f1,f2,f3,f4,f5⟩:=hS.boxes r _ hmeta;simp only[cV]at hv;obtain⟨b',off',f6,f7⟩:=hv;rw[f1]at f6;cases f6;have hrun:(results fn a'.tmps).run P w'=.ok (a'.tmps.getD t undef) w':=by
  rw[yu,Array.mapM_eq_mapM_toList (m:=Sem),hrv];simp[pS]
 have hcell:∀ j h,res[j]?=some h->Jf X w' h (G.val r j):=by
  intro j h0 e;obtain⟨h,g1,g2⟩:=hl j h0 e;rw[ZK]at g1;have hok:=hS.hok g1;rcases g2 with⟨x,q1,rfl⟩|⟨l,q1,rfl⟩
  ·simp only[d4,q1]at hok;obtain⟨q2,_,_⟩:=hok;simp only[bT]at q2;exact⟨q2.1,q2.2.1,rfl⟩
  ·simp only[d4,q1]at hok;obtain⟨S,q2,q3⟩:=hok;exact⟨S,q2,fun c hc=>hS.roX c (q3 c hc)⟩
 have fin:a'.defers=[]/\∃ v,(results fn a'.tmps).run P w'=.ok v w'/\∃ b off cur ty,∃ val:Nat->Value,XJ v=.returned (.pointer (some ⟨b,off,none⟩))/\w.heap.size<=b/\w'.heap[b]?=some (.cells cur ty (0,0))/\off+res.length<=cur.size/\
  (∀ j,j<res.length->cur[off+j]?=some (val j))/\(∀ j h,res[j]?=some h->Jf X w' h (val j))/\Same (fun _=>True) w w':=
  ⟨hS.defers,_,hrun,b,off,cur,ty,G.val r,by rw[f7];rfl,hS.newb r b off f1 rfl,f3,f4,f5,hcell,hS.frame⟩
 rcases hex with rfl|rfl;exact fin;exact fin
end
end Go.V
namespace Go.V
def SS:(∀ a b:Int,(du .eql a b=true)↔a=b)/\(∀ a b:Int,(du .eql a b=false)↔a≠b)/\(∀ a b:Int,(du .neq a b=true)↔a≠b)/\(∀ a b:Int,(du .neq a b=false)↔a=b)/\
 (∀ a b:Int,(du .lss a b=true)↔a<b)/\(∀ a b:Int,(du .lss a b=false)↔b<=a)/\(∀ a b:Int,(du .leq a b=true)↔a<=b)/\(∀ a b:Int,(du .leq a b=false)↔b<a)/\
 (∀ a b:Int,(du .gtr a b=true)↔b<a)/\(∀ a b:Int,(du .gtr a b=false)↔a<=b)/\(∀ a b:Int,(du .geq a b=true)↔b<=a)/\(∀ a b:Int,(du .geq a b=false)↔a<b)/\
 (∀ b,(Jr b=true)↔b=false)/\(∀ b,(Jr b=false)↔b=true)/\(∀ a b,BQ true a b=a)/\(∀ a b,BQ false a b=b)/\
 (∀ a b,(Cr .eql a b=true)↔a=b)/\(∀ a b,(Cr .eql a b=false)↔a≠b)/\(∀ a b,(Cr .neq a b=true)↔a≠b)/\(∀ a b,(Cr .neq a b=false)↔a=b)/\
 (∀ n,ziI n=(n:Int))/\(∀ es,lnI es=es.length)/\(∀ f,prI f=f ())/\(∀ n:Nat,WJ n=(n:Int))/\(∀ a b,aca a b=a++b)/\(∀ i,nnI i=i.toNat):=
 ⟨fun _ _=>MU,fun _ _=>MS,fun _ _=>M4,fun _ _=>M3,fun _ _=>M2,fun _ _=>M1,fun _ _=>M0,fun _ _=>MZ,fun _ _=>MY,fun _ _=>MX,fun _ _=>MW,fun _ _=>MV,
   fun _=>ahf,fun _=>ahe,fun _ _=>rfl,fun _ _=>rfl,fun _ _=>Jt,fun _ _=>Js,fun _ _=>Jv,fun _ _=>Ju,fun _=>rfl,fun _=>rfl,fun _=>rfl,fun _=>rfl,fun _ _=>rfl,fun _=>rfl⟩
end Go.V
namespace Go.V
def onc (n:Nat):WJ n=(n:Int):=rfl
structure TB (P:Program) where
 Φ:Type
 F0:Φ
 ct:Φ->CT:=noC
 mt:Φ->MT:=aeJ
 pt:Φ->PT:=aeM
 nt:Φ->NT:=aeK
 ot:Φ->OT:=aeL
 hc:zu P (ct F0):=by exact aaH
 hm:CB P (mt F0):=by exact Od
 hp:CF P (pt F0):=by exact Og
 hn:CC P (nt F0):=by exact Oe
 ho:CE P (ot F0):=by exact Of
abbrev tb {P:Program}{Φ:Type}{F0:Φ}{ct:Φ->CT}(hc:zu P (ct F0)):TB P:={Φ:=Φ,F0:=F0,ct:=ct,hc:=hc}
section
variable {P: Program} {T: vK} (B: TB P) (hT: bO P T) (hm: P.follows .mixedOrders = true) {f: FuncId} {fn: Func} {ds: List DV} (n: Nat) (c: Code) (ts: List TypeId) (rvs: List ResultVar)
include hT hm
def Ol (al:Bool){res:List DV}{outs:List (List H)}(hf:P.funcs[f]?=some fn)(hb:fn.body=some c)(hnt:fn.ntmps=n)(hts:fn.resultTypes.toList=ts)(hrv:fn.results.toList=rvs)(hn:Yr ds.length n=true)(hlo:(mpL 0 ds).length=outs.length)(hl0:(mpL 0 ds).all (fun q=>q.2.length.ble 999)=true) 
 (hl1:al=true->(mpL 0 ds).all (fun q=>q.1.ble 999)=true) (h:∀ O r os F,O=aj->r=res->os=(fun i=>outs.getD i [])->F=B.F0->mW T O ⟨B.ct F,B.mt F,B.pt F,B.nt F,B.ot F⟩ n ((mpL 0 ds).map (·.1)) [] c (Nk T O ts rvs (mpL 0 ds) r os) (fc al 0 ds)):zy P f ds outs res:=
 Dw al hT B.hc B.hm B.hp B.hn B.ho hm n c ts rvs hf hb hnt hts hrv hn hlo hl0 hl1 h
def aaR {res:List DV}{outs:List (List H)}(hf:P.funcs[f]?=some fn)(hb:fn.body=some c)(hnt:fn.ntmps=n)(hts:fn.resultTypes.toList=ts)(hrv:fn.results.toList=rvs)(hn:Yr ds.length n=true)(hlo:(mpL 0 ds).length=outs.length)(hl0:(mpL 0 ds).all (fun q=>q.2.length.ble 999)=true) 
 (h:∀ O r os F,O=aj->r=res->os=(fun i=>outs.getD i [])->F=B.F0->mW T O ⟨B.ct F,B.mt F,B.pt F,B.nt F,B.ot F⟩ n ((mpL 0 ds).map (·.1)) [] c (Nk T O ts rvs (mpL 0 ds) r os) (fc false 0 ds)):zy P f ds outs res:=
 Ol B hT hm n c ts rvs false hf hb hnt hts hrv hn hlo hl0 (fun h=>by cases h) h
def aaG {res:List H}(hf:P.funcs[f]?=some fn)(hb:fn.body=some c)(hnt:fn.ntmps=n)(hts:fn.resultTypes.toList=ts)(hrv:fn.results.toList=rvs)(hn:Yr ds.length n=true) 
 (h:∀ O r F,O=aj->r=res->F=B.F0->mW T O ⟨B.ct F,B.mt F,B.pt F,B.nt F,B.ot F⟩ n [] [] c (acL O rvs r) (ed 0 ds)):HW P f ds res:=
 Oc hT B.hc B.hm B.hp B.hn B.ho hm n c ts rvs hf hb hnt hts hrv hn h
end
end Go.V
namespace Go.V
mutual
def xH:L->Nat
 | .s _ es=>es.length+cZ es
 |_=>0
def gV:aT->Nat
 |[]=>0
 |l::ls=>xH l+gV ls
def cZ:af->Nat
 |[]=>0
 |e::es=>gV e+cZ es
end
def au (es:af):Nat:=es.length+cZ es
def Ab:List af->Nat
 |[]=>0
 |r::rs=>au r+Ab rs
def eV:∀ {a b:af},cZ (a++b)=cZ a+cZ b
 |[],b=>by simp[cZ]
 |e::a,b=>by simp[cZ,eV (a:=a),Nat.add_assoc]
def GI:∀ {ls:aT} {j:Nat} {l:L},ls[j]?=some l->xH l<=gV ls
 |[],j,l,h=>by simp at h
 |x::ls,0,l,h=>by simp at h;subst h;simp[gV]
 |x::ls,j+1,l,h=>by simp at h;have:=GI h;simp[gV];omega
def wid:Ty->Nat
 | .sl _=>0
 |_=>1
end Go.V
namespace Go.V
abbrev Rw (fs:List Ty)(es:af):Prop:=es.length<=maxLen/\∀ e∈es,bV fs e
abbrev tI:Ty:=.int .i64
abbrev tB:Ty:=.bool
mutual
def zL:Ty->L
 | .int k=>.v (.int k 0)
 | .bool=>.v (.bool false)
 | .str=>.v (.string .empty)
 | .sl fs=>.s fs.length []
def zR:List Ty->aT
 |[]=>[]
 |t::ts=>zL t::zR ts
end
def CU:∀ {fs:List Ty} {e:aT},bV fs e->mN (zR fs) e=true
 |[],[],_=>rfl
 |[],_::_,h=>h.elim
 |_::_,[],h=>h.elim
 | t::ts,l::ls,h=>by
   obtain⟨h1,h2⟩:=h;simp only[zR,mN,Zb];refine⟨?_,CU h2⟩;cases t with
   | int k=>cases l with
     | v x=>cases x with
       |int k' n=>simp only[dD]at h1;simp[zL,rB,h1.1]
       |_=>simp[dD]at h1
     |_=>simp[dD]at h1
   | bool=>cases l with
     | v x=>cases x with
       |bool b=>rfl
       |_=>simp[dD]at h1
     |_=>simp[dD]at h1
   | str=>cases l with
     | v x=>cases x with
       |string b=>rfl
       |_=>simp[dD]at h1
     |_=>simp[dD]at h1
   | sl fs=>cases l with
     |s sz es=>simp only[dD]at h1;simp[zL,rB,h1.1]
     |_=>simp[dD]at h1
def Rw.wf {fs:List Ty}{es:af}(h:Rw fs es):Wf (zR fs) es:=fun e he=>CU (h.2 e he)
def Rw.at {fs:List Ty}{es:af}(h:Rw fs es){n:Nat}(hn:n<es.length):bV fs (es.getD n []):=by
 refine h.2 _ ?_;rw[Zm,Zt hn];exact List.getElem_mem _
def Rw.eta {fs:List Ty}{es:af}(h:Rw fs es){i:Int}(h0:0<=i)(h1:i<es.length):es.getD i.toNat []=mb aj es i 0 (zR fs):=(EW h.wf h0 h1).symm
def Ae:∀ {fs:List Ty} {e:aT} {j:Nat} {gs:List Ty},bV fs e->fs[j]?=some (.sl gs)->∃ es',e[j]?=some (.s gs.length es')/\Rw gs es'
 |[],_,j,gs,_,h=>by simp at h
 |_::_,[],j,gs,h,_=>h.elim
 | t::ts,l::ls,0,gs,h,e=>by
   simp at e;subst e;have h1:=h.1;cases l with
   |s sz es=>simp only[dD]at h1;exact⟨es,by simp[h1.1],h1.2⟩
   |_=>simp[dD]at h1
 | t::ts,l::ls,j+1,gs,h,e=>by
   simp at e;obtain⟨es',h1,h2⟩:=Ae h.2 e;exact⟨es',by simpa using h1,h2⟩
def Rw.sub {fs:List Ty}{es:af}(h:Rw fs es){i:Int}(hn:i.toNat<es.length){j:Nat}{gs:List Ty}(hj:fs[j]?=some (.sl gs)):Rw gs (aU es i j):=by
 obtain⟨es',h1,h2⟩:=Ae (h.at hn) hj;unfold aU;rw[Zm (l:=es.getD i.toNat []),h1];exact h2
def Rw.nil {fs:List Ty}:Rw fs []:=⟨Nat.zero_le _,by simp⟩
def Rw.take {fs:List Ty}{es:af}(h:Rw fs es)(n:Nat):Rw fs (es.take n):=⟨by rw[List.length_take];exact ZH (Nat.min_le_right _ _) h.1,fun e he=>h.2 e (List.mem_of_mem_take he)⟩
def Rw.drop {fs:List Ty}{es:af}(h:Rw fs es)(n:Nat):Rw fs (es.drop n):=⟨by rw[List.length_drop];exact ZH (Nat.sub_le _ _) h.1,fun e he=>h.2 e (List.mem_of_mem_drop he)⟩
def Rw.append {fs:List Ty}{a b:af}(ha:Rw fs a)(hb:Rw fs b)(hl:a.length+b.length<=maxLen):Rw fs (a++b):=⟨by simpa using hl,fun e he=>by rcases List.mem_append.1 he with q|q;exact ha.2 e q;exact hb.2 e q⟩
def Rw.one {fs:List Ty}{e:aT}(h:bV fs e):Rw fs [e]:=⟨by simp[maxLen],by simpa using h⟩
def Rw.set {fs:List Ty}{es:af}(h:Rw fs es){e:aT}(he:bV fs e)(n:Nat):Rw fs (es.set n e):=⟨by simpa using h.1,fun x hx=>by rcases List.mem_or_eq_of_mem_set hx with q|q;exact h.2 x q;rw[q];exact he⟩
def Rw.replicate {fs:List Ty}{e:aT}(h:bV fs e){n:Nat}(hn:n<=maxLen):Rw fs (List.replicate n e):=⟨by simpa using hn,fun x hx=>by rw[List.eq_of_mem_replicate hx];exact h⟩
def uJ:Ty->Bool
 | .sl _=>false
 |_=>true
def xI {t:Ty}{l:L}(h:dD t l)(hs:uJ t=true):∃ x,l=.v x:=by
 cases t with
 |sl fs=>cases hs
 | int k=>cases l with
   |v x=>exact⟨x,rfl⟩
   |_=>simp[dD]at h
 | bool=>cases l with
   |v x=>exact⟨x,rfl⟩
   |_=>simp[dD]at h
 | str=>cases l with
   |v x=>exact⟨x,rfl⟩
   |_=>simp[dD]at h
def Ao:∀ {fs:List Ty} {e:aT},fs.all uJ=true->bV fs e->gV e=0
 |[],[],_,_=>rfl
 |[],_::_,_,h=>h.elim
 |_::_,[],_,h=>h.elim
 | t::ts,l::ls,hs,h=>by
   simp only[Xz,Zb]at hs;obtain⟨x,rfl⟩:=xI h.1 hs.1;simp only[gV,xH];rw[Ao hs.2 h.2]
def C5 {fs:List Ty}(hs:fs.all uJ=true):∀ {es:af},(∀ e∈es,bV fs e)->cZ es=0
 |[],_=>rfl
 |e::es,h=>by simp only[cZ];rw[Ao hs (h e (by simp)),C5 hs (fun x hx=>h x (by simp[hx]))]
def Rw.cnt {fs:List Ty}{es:af}(h:Rw fs es)(hs:fs.all uJ=true):au es=es.length:=by unfold au;rw[C5 hs h.2];rfl
def Rw.scal {fs:List Ty}{es:af}(h:Rw fs es)(hs:fs.all uJ=true):bM es:=by
 have key:∀ {fs:List Ty} {e:aT},fs.all uJ=true->bV fs e->eJ e:=by
  intro fs
  induction fs with
  | nil=>intro e _ h;cases e with
    |nil=>trivial
    |cons _ _=>exact h.elim
  | cons t ts ih=>
    intro e hs h;cases e with
    |nil=>exact h.elim
    | cons l ls=>
      simp only[Xz,Zb]at hs;obtain⟨x,rfl⟩:=xI h.1 hs.1;exact(ih hs.2 h.2:eJ ls)
 have:∀ {es:af},(∀ e∈es,bV fs e)->bM es:=by
  intro es
  induction es with
  |nil=>intro _;trivial
  |cons e es ih=>intro h;exact⟨key hs (h e (by simp)),ih (fun x hx=>h x (by simp[hx]))⟩
 exact this h.2
def Na {es:af}{n:Nat}(hn:n<es.length):cZ (es.take (n+1))=cZ (es.take n)+gV (es.getD n []):=by
 rw[lN (d:=[]) hn,eV];simp[cZ]
def zG {es:af}{n:Nat}:cZ (es.take n)<=cZ es:=by
 conv=>rhs;rw[<-List.take_append_drop n es,eV]
 omega
def Or {sz:Nat}{c:af}{n j:Nat}:nD (.s sz c) [(n,j)]=Qi ((c.getD n []).getD j .g):=by
 unfold nD gB;simp only[bZ];cases h:c[n]? with
 |none=>simp[ZD,h,Qi]
 | some rec=>
   simp only[Yk,ZD,h,Z0];cases h2:rec[j]? with
   |none=>simp[Qi]
   |some l=>cases l<;>simp[Qi]
def Nt {sz:Nat}{c:af}{n j:Nat}(h:n<c.length):bZ (.s sz c) [(n,j)]=some (c.getD n [],j):=by simp[bZ,ZD,h]
def Nu {sz:Nat}{c:af}{n j:Nat}(h:n<c.length):gB (.s sz c) [(n,j)]=match(c.getD n [])[j]? with
 |some (.s sz es)=>some (sz,es)
 |_=>none:=by unfold gB;rw[Nt h];rfl
end Go.V
namespace Go.V
abbrev Mu (a0 a1 a2:af)(a3:Int)(a4 a5 a6 a7 a8 a9 aA aB:af)(aC:Int)(aD:af)(aE aF aG aH:Int)(aI:Bool)(aJ aK:Int)(aL:af)(aM aN:Int):aT:=[.s 1 a0,.s 1 a1,.s 2 a2,.i a3,.s 1 a4,.s 2 a5,.s 3 a6,.s 3 a7,.s 4 a8,.s 1 a9,.s 1 aA,.s 1 aB,.i aC,.s 3 aD,.i aE,.i aF,.i aG,.i aH,.v (.bool aI),.i aJ,.i aK,.s 1 aL,.i aM,.i aN]
abbrev Ny (a0 a1 a2:af)(a3:Int)(a4 a5 a6 a7 a8 a9 aA aB:af)(aC:Int)(aD:af)(aE aF aG aH:Int)(aI:Bool)(aJ aK:Int)(aL:af)(aM aN:Int):List H:=[.own (.s 1 a0),.own (.s 1 a1),.own (.s 2 a2),.own (.i a3),.own (.s 1 a4),.own (.s 2 a5),.own (.s 3 a6),.own (.s 3 a7),.own (.s 4 a8),.own (.s 1 a9),.own (.s 1 aA),.own (.s 1 aB),.own (.i aC),.own (.s 3 aD),.own (.i aE),.own (.i aF),.own (.i aG),.own (.i aH),.own (.v (.bool aI)),.own (.i aJ),.own (.i aK),.own (.s 1 aL),.own (.i aM),.own (.i aN)]
def akF {es:af}{n:Nat}(h:au es<=n):es.length<=n:=ZH (Nat.le_add_right _ _) h
def zq0 {p:Prop}(h:p:=by
 intro O r F hO hr hF;cbv
 repeat' first|apply And.intro|(apply cN<;>intro hb<;>cbv)
 all_goals(subst hO hr hF;(try simp only[nc]at*);(try simp only[aj,SS,sa,az]at*))
 all_goals first|exact hs|trivial|(simp only[List.length_nil];omega)|done):p:=h
def zq1 {p:Prop}(h:p:=by
 intro O r F hO hr hF;cbv
 repeat' first|apply And.intro|(apply cN<;>intro hb<;>cbv)
 all_goals(subst hO hr hF;(try simp only[nc]at*);(try simp only[aj,SS,sa,az]at*))
 all_goals first|exact rfl|done):p:=h
def zq2 {p:Prop}(h:p:=by
 intro O r F hO hr hF;cbv
 repeat' first|apply And.intro|(apply cN<;>intro hb<;>cbv)
 all_goals(subst hO hr hF;(try simp only[nc]at*);(try simp only[aj,SS,sa,az]at*))
 all_goals first
  | (show(_:List DV)=_
     first
      |exact ax (o8 (by unfold eqB;simp only[SS,VN]))
      |done)
  |trace_state):p:=h
def zq3 {p:Prop}(h:p:=by
 intro O r F hO hr hF;cbv
 repeat' first|apply And.intro|(apply cN<;>intro hb<;>cbv)
 all_goals(subst hO hr hF;(try simp only[nc]at*);(try simp only[aj,SS,sa,az]at*))
 all_goals first
  | (show(_:List DV)=_
     first
      |exact ax (o8 (by unfold eqB;simp only[SS,VN]))
      |done)
  |done):p:=h
def zq4 {p:Prop}(h:p:=by
 intro O r F hO hr hF;cbv
 repeat' first|apply And.intro|(apply cN<;>intro hb<;>cbv)
 all_goals(subst hO hr hF;(try simp only[nc]at*);(try simp only[aj,SS,sa,az]at*))
 all_goals first|exact hp|exact rfl|trace_state):p:=h
def zq5 {p:Prop}(h:p:=by
 intro O r F hO hr hF;cbv
 repeat' first|apply And.intro|(apply cN<;>intro hb<;>cbv)
 all_goals(subst hO hr hF;(try simp only[nc]at*);(try simp only[aj,SS,sa,az]at*))
 all_goals first|exact hp|exact rfl|done):p:=h
def zq6 {p:Prop}(h:p:=by
 intro O r F hO hr hF;cbv
 repeat' first|apply And.intro|(apply cN<;>intro hb<;>cbv)
 all_goals(subst hO hr hF;(try simp only[nc]at*);(try simp only[aj,SS,sa,az]at*))
 all_goals first|trivial|done):p:=h
def j4 {p:Prop}(h:p:=by
 refine⟨Uc,Uc,(Rw.eta (by first|assumption|exact Rw.sub (by first|assumption|exact Rw.sub Ud Uc rfl) Uc rfl) Uc Uc).trans ?_⟩;rfl):p:=h
end Go.V