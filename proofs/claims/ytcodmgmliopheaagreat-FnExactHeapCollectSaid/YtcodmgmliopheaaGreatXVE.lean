/-
  A condition generator for functions on trees of data, part 5 of 5: values in memory, contracts, soundness.
-/
import Derived.Test.YtcodmgmliopheaaGreatXVD
set_option linter.all false
open Go
open Bool renaming and_eq_true->AI
open Code renaming wp_mono->aeO
open Ending renaming returned->afB
open Int renaming ofNat->ahg,le_refl->aev,natCast_nonneg->agw
open List renaming range'->afq,ext_getElem?->adq,getElem?_map->ada,getElem?_range'->af9,getD->ady,getElem?_eq_none->adu,mem_append->If,all_eq_true->aei,mem_of_getElem?->acY,getElem?_eq_some_iff->acW,range->adb,getElem?_eq_getElem->IT,getElem?_of_mem->aeq,getD_eq_getElem?_getD->BY,length_take->acX,getElem?_append_right->ac9,drop_eq_getElem_cons->aez,take_append_drop->adi,all_cons->agW
open Nat renaming ble->afR,le_of_ble_eq_true->aej,lt_or_ge->adZ,add_assoc->aeM,le_trans->aem,mul_le_mul_left->aeS,mul_add->ahb
open Option renaming map_some->adR,getD_some->adw
namespace Go.V
def Dn {α:Type}(pr:(Unit->Prop)->Prop)(r:Nat):Nat->List H->(List H->Rd α)->Rd α
 |_,[],k=>k []
 | j,h0::hs,k=>hP r j fun h=>match h.c with
   | .own l=>Dn pr r (j+1) hs fun cs=>k (.own l::cs)
   | .ro l=>match h0 with
     | .ro l0=>match h.org with
       |some i=>if Nat.beq i (r*1000+j)then .req (pr fun _=>l=l0) (Dn pr r (j+1) hs fun cs=>k (.ro l0::cs))else .fail
       |none=>.fail
     |_=>.fail
   | .gone=>.fail
def Nx {α:Type}(pr:(Unit->Prop)->Prop)(os:Nat->List H):List (Nat×List H)->Nat->Rd α->Rd α
 |[],_,k=>k
 |(r,hs)::m,i,k=>Dn pr r 0 hs fun cs=>.req (pr fun _=>cs=os i) (Nx pr os m (i+1) k)
def Ks (T:BV)(O:DZ)(ts:List TypeId)(rvs:List ResultVar)(m:List (Nat×List H))(σ:VS)(res:List DV)(os:Nat->List H):Prop:=
 (Bj T O ts rvs fun ds srcs=>if bz srcs&&srcs.all (fun s=>m.all fun q=> !(s.1.beq q.1))then .req (O.pr fun _=>ds=res) (Nx O.pr os m 0 (.ret ()))else .fail).wpU (get σ) [] fun _ _=>True
def XB (T:BV)(O:DZ)(ts:List TypeId)(rvs:List ResultVar)(m:List (Nat×List H))(res:List DV)(os:Nat->List H):Ex->VS->Prop
 | .normal,σ=>Ks T O ts rvs m σ res os
 | .ret,σ=>Ks T O ts rvs m σ res os
 | .exit _,_=>False
section
variable {P : Program} {T : BV} {cx : Cx} {G : Gh} {g : Gm} {a : Act} {w : World}
theorem I9 (fz:List (Nat×List Nat))(hT:bI P T){Φ:Type}{F0:Φ}{ctF:Φ->CT}{mtF:Φ->MT}{ptF:Φ->PT}{ntF:Φ->NT}{otF:Φ->OT}(hct:DI P (ctF F0))(hmt:Ht P (mtF F0))(hpt:Hz P (ptF F0))(hnw:Hu P (ntF F0))(hot:Hw P (otF F0))(hm:P.follows .mixedOrders=true){f:FuncId}{fn:Func}{ds res:List DV}(n:Nat)(c:Code)(ts:List TypeId)(rvs:List ResultVar) 
 (hf:P.funcs[f]?=some fn) (hb:fn.body=some c) (hnt:fn.ntmps=n) (hts:fn.resultTypes.toList=ts) (hrv:fn.results.toList=rvs) (hn:afR ds.length n=true)
 (h:∀ O r F,O=ah->r=res->F=F0->qi T O ⟨ctF F,mtF F,ptF F,ntF F,otF F⟩ n [] fz c (Mc T O ts rvs r) (ka 0 ds)):Ku P f ds res:=by
 subst hnt hts hrv;replace h:=h ah res F0 rfl rfl rfl;replace hn:=aej hn;intro w vs hargs;refine calls_of_wp hf hb ?_;refine aeO ?_ (dC (fz:=fz) (cx:=⟨fn.ntmps,w,fun _=>True,fun _=>undef,fun _=>none,fun _=>0,fun _=>True⟩) (fun _ _=>trivial) hT (ct:=⟨ctF F0,mtF F0,ptF F0,ntF F0,otF F0⟩) ⟨hct,hmt,hpt,hnw,hot⟩ hm rfl (an:=[]) (fun r x e=>by cases e) c _ _ _ w h (Gl fn.ntmps w ds vs hargs hn));rintro e a' w' ⟨ex,σ',rfl,hq',G,hS⟩;have hq:DF T ah fn.resultTypes.toList fn.results.toList σ' res:=by
  cases ex with
  |normal=>exact hq'
  |ret=>exact hq'
  |exit i=>exact hq'.elim
 have hex:ex=.normal\/ex=.ret:=by
  cases ex with
  |normal=>exact .inl rfl
  |ret=>exact .inr rfl
  |exit i=>exact hq'.elim
 unfold DF at hq;obtain⟨ls,u,t,h1,_⟩:=Rd.wpU_runs hq;obtain⟨ds',vs',srcs,S,ls',k1,k2,k3,k4,k5⟩:=ke hS _ _ _ _ _ (mO hT (fun _ _ _ h=>h) h1);split at k5
 case isFalse=>exact k5.elim
 rename_i hd;simp only[Rd.Runs]at k5;have hres0:ds'=res:=k5.1;subst hres0;obtain⟨v,hrun,hres⟩:=rG k1 k2;have hfresh:∀ b∈S,w.heap.size<=b/\fh w' b:=by
  intro b hb;obtain⟨u,r,j,m1,m2⟩:=k4 b hb;refine⟨?_,u⟩;rcases adZ b w.heap.size with hlt|hge
  ·rcases hS.frow b hlt trivial with e|e<;>rw[m2]at e<;>cases e
  ·exact hge
 have fin:a'.defers=[]/\∃ v,(results fn a'.tmps).run P w'=.ok v w'/\∃ v' S,afB v=.returned v'/\j7 w' ds' v' S/\S.Nodup/\(∀ b∈S,w.heap.size<=b/\fh w' b)/\Same (fun _=>True) w w':=
  ⟨hS.defers,_,hrun,_,S,rfl,hres,k3 hd,hfresh,hS.frame⟩
 rcases hex with rfl|rfl;exact fin;exact fin
theorem P1 (hT:bI P T){Φ:Type}{F0:Φ}{ctF:Φ->CT}{mtF:Φ->MT}{ptF:Φ->PT}{ntF:Φ->NT}{otF:Φ->OT}(hct:DI P (ctF F0))(hmt:Ht P (mtF F0))(hpt:Hz P (ptF F0))(hnw:Hu P (ntF F0))(hot:Hw P (otF F0))(hm:P.follows .mixedOrders=true){f:FuncId}{fn:Func}{ds res:List DV}{outs:ay}(n:Nat)(c:Code)(ts:List TypeId)(rvs:List ResultVar)(locs:List (Nat×Nat)) 
 (hf:P.funcs[f]?=some fn) (hb:fn.body=some c) (hnt:fn.ntmps=n) (hts:fn.resultTypes.toList=ts) (hrv:fn.results.toList=rvs) (hn:afR ds.length n=true) (hlo:(ds.flatMap fun d=>slL (aR d)).length=outs.length) (hlo2:locs.length=outs.length)
 (h:∀ O r os F,O=ah->r=res->os=(fun i=>outs.getD i .g)->F=F0->qi T O ⟨ctF F,mtF F,ptF F,ntF F,otF F⟩ n [] [] c (XA T O ts rvs locs r os) (Jr O ds)):FI P f ds outs res:=by
 subst hnt hts hrv;replace h:=h ah res _ F0 rfl rfl rfl rfl;replace hn:=aej hn;intro w vs S hr hnd hunf;refine calls_of_wp hf hb ?_;refine aeO ?_ (dC (fz:=[]) (cx:=⟨fn.ntmps,w,fun b=>b∉S,fun i=>(dE ds vs).getD i undef,fun _=>none,fun _=>0,fun _=>True⟩) (fun q=>absurd rfl q) hT (ct:=⟨ctF F0,mtF F0,ptF F0,ntF F0,otF F0⟩) ⟨hct,hmt,hpt,hnw,hot⟩ hm rfl (an:=[]) (fun r x e=>by cases e) c _ _ _ w h (KI fn.ntmps w ds vs S hr hnd hunf hn));rintro e a' w' ⟨ex,σ',rfl,hq',G,hS⟩;have hq:Kr T ah fn.resultTypes.toList fn.results.toList locs σ' res (fun i=>outs.getD i .g):=by
  cases ex with
  |normal=>exact hq'
  |ret=>exact hq'
  |exit i=>exact hq'.elim
 have hex:ex=.normal\/ex=.ret:=by
  cases ex with
  |normal=>exact .inl rfl
  |ret=>exact .inr rfl
  |exit i=>exact hq'.elim
 unfold Kr at hq;obtain⟨ls,u,t,h1,_⟩:=Rd.wpU_runs hq;obtain⟨ds',vs',srcs,Sr,ls',k1,k2,k3,k4,k5⟩:=ke hS _ _ _ _ _ (mO hT (fun _ _ _ h=>h) h1);split at k5
 case isFalse=>exact k5.elim
 rename_i hd;obtain⟨hres0,k5⟩:=k5;have hres0:ds'=res:=hres0;subst hres0;obtain⟨d1,d2,d3⟩:=cU hd;obtain⟨o1,o2⟩:=wS hS locs 0 _ _ k5;rw[hlo2]at o2;have houts:(afq 0 outs.length).map (fun i=>outs.getD i .g)=outs:=by
  apply adq;intro i;rw[ada];by_cases c:i<outs.length
  ·rw[af9 c];simp[ady,c]
  ·rw[adu (by simp;omega),adu (by omega)];rfl
 rw[houts]at o2;obtain⟨f1,f2⟩:=wK hS d2 o1;have hanc:(afq 0 outs.length).map (fun i=>(dE ds vs).getD i undef)=dE ds vs:=by
  have hl:=qu hr;rw[hlo]at hl;rw[<-hl];apply adq;intro i;rw[ada];by_cases c:i<(dE ds vs).length
  ·rw[af9 c];simp[ady,c]
  ·rw[adu (by simp;omega),adu (by omega)];rfl
 have o2:am w' outs (dE ds vs) (oR G locs):=by rw[<-hanc];exact o2
 obtain⟨v,hrun,hres⟩:=rG k1 k2;have tokL:∀ b∈oR G locs,fh w' b/\∃ r j,(r,j)∈locs/\G.ow b=some (.leaf r j):=by
  intro b hb;obtain⟨p,hp,hbp⟩:=C8 hb;obtain⟨h,sz,es,e1,e2⟩:=o1 p hp;have:=hS.hok (au.2 e1);simp only[eC,e2]at this;exact⟨(this.2.2 b hbp).2,p.1,p.2,hp,(this.2.2 b hbp).1⟩
 have own:∀ b r j,fh w' b->G.ow b=some (.leaf r j)->fh w' b/\(w.heap.size<=b\/b∈S):=by
  intro b r j hu ht;refine⟨hu,?_⟩;rcases adZ b w.heap.size with hlt|hge
  ·by_cases c:b∈S;exact .inr c
   ·rcases hS.frow b hlt c with e|e<;>rw[ht]at e<;>cases e
  ·exact .inl hge
 have fin:a'.defers=[]/\∃ v,(results fn a'.tmps).run P w'=.ok v w'/\∃ v' Sr S',afB v=.returned v'/\j7 w' ds' v' Sr/\am w' outs (dE ds vs) S'/\(Sr++S').Nodup/\(∀ b∈Sr++S',fh w' b/\(w.heap.size<=b\/b∈S))/\Same (fun b=>b∉S) w w':=by
  refine⟨hS.defers,_,hrun,_,Sr,oR G locs,rfl,hres,o2,?_,?_,hS.frame⟩
  ·refine List.nodup_append.2 ⟨k3 d1,f1,fun x hx y hy e=>?_⟩;subst e;obtain⟨_,r,j,m1,m2⟩:=k4 x hx;obtain⟨_,r',j',m3,m4⟩:=tokL x hy;rw[m2]at m4;cases m4;exact d3 _ m1 m3
  ·intro b hb;rcases If.1 hb with q|q
   ·obtain⟨hu,r,j,_,m2⟩:=k4 b q;exact own b r j hu m2
   ·obtain⟨hu,r,j,_,m2⟩:=tokL b q;exact own b r j hu m2
 rcases hex with rfl|rfl;exact fin;exact fin
theorem qW {α:Type}{r:Nat}:∀ (hs:List H) (j:Nat) (k:List H->Rd α) (ls:List Loc) (out:α),(Dn oE r j hs k).Runs g ls out->
 ∃ cs ls',(k cs).Runs g ls' out/\cs.length=hs.length/\∀ (i:Nat) c,cs[i]?=some c->∃ hv,g (.leaf r (j+i))=some (.h hv)/\hv.c=c/\(match c with
  | .own _=>True
  | .ro l=>hs[i]?=some (.ro l)/\hv.org=some (r*1000+(j+i))
  | .gone=>False)
 |[],j,k,ls,out,h=>⟨[],ls,h,rfl,fun i c e=>by simp at e⟩
 | h0::hs,j,k,ls,out,h=>by
   obtain⟨hv,ls2,_,q2,hk⟩:=bB (k:=fun hh=>match hh.c with
    | .own l=>Dn oE r (j+1) hs fun cs=>k (.own l::cs)
    | .ro l=>match(generalizing:=false) h0 with
      | .ro l0=>match hh.org with
        |some i=>if Nat.beq i (r*1000+j)then .req (oE fun _=>l=l0) (Dn oE r (j+1) hs fun cs=>k (.ro l0::cs))else .fail
        |none=>.fail
      |_=>.fail
    | .gone=>.fail) h
   cases hc:hv.c with
   |gone=>simp[hc,Rd.Runs]at hk
   | own l=>
     simp only[hc]at hk;obtain⟨cs,ls3,e1,e2,e3⟩:=qW hs (j+1) _ _ _ hk;refine⟨_,ls3,e1,by simp[e2],fun i c e=>?_⟩;cases i with
     |zero=>simp at e;subst e;exact⟨hv,q2,hc,trivial⟩
     | succ i=>
       simp at e;obtain⟨hv',k1,k2,k3⟩:=e3 i c e;refine⟨hv',by rw[show j+(i+1)=j+1+i from by omega];exact k1,k2,?_⟩;cases c with
       |own l=>trivial
       |ro l=>exact⟨by simpa using k3.1,by rw[show j+(i+1)=j+1+i from by omega];exact k3.2⟩
       |gone=>exact k3
   | ro l=>
     simp only[hc]at hk;cases h0 with
     |own l0=>exact hk.elim
     |gone=>exact hk.elim
     | ro l0=>
       simp only at hk;cases ho:hv.org with
       |none=>simp[ho,Rd.Runs]at hk
       | some i0=>
         simp only[ho]at hk;split at hk
         ·rename_i hb;have hi:=Nat.eq_of_beq_eq_true hb;obtain⟨hl,hk⟩:=hk;have hl:l=l0:=hl;subst hl hi;obtain⟨cs,ls3,e1,e2,e3⟩:=qW hs (j+1) _ _ _ hk;refine⟨_,ls3,e1,by simp[e2],fun i c e=>?_⟩;cases i with
          |zero=>simp at e;subst e;exact⟨hv,q2,hc,by simp,ho⟩
          | succ i=>
            simp at e;obtain⟨hv',k1,k2,k3⟩:=e3 i c e;refine⟨hv',by rw[show j+(i+1)=j+1+i from by omega];exact k1,k2,?_⟩;cases c with
            |own l=>trivial
            |ro l=>exact⟨by simpa using k3.1,by rw[show j+(i+1)=j+1+i from by omega];exact k3.2⟩
            |gone=>exact k3
         ·exact hk.elim
theorem wR {α:Type}{os:Nat->List H}:∀ (m:List (Nat×List H)) (i:Nat) (k:Rd α) (ls:List Loc) (out:α),(Nx oE os m i k).Runs g ls out->
 ∀ (n r:Nat) hs,m[n]?=some (r,hs)->(os (i+n)).length=hs.length/\∀ (j:Nat) c,(os (i+n))[j]?=some c->∃ hv,g (.leaf r j)=some (.h hv)/\hv.c=c/\(match c with
  | .own _=>True
  | .ro l=>hs[j]?=some (.ro l)/\hv.org=some (r*1000+j)
  | .gone=>False)
 |[],i,k,ls,out,h=>fun n r hs e=>by simp at e
 | (r0,hs0)::m,i,k,ls,out,h=>by
  obtain⟨cs,ls2,h1,h2,h3⟩:=qW _ _ _ _ _ h;obtain⟨he,h1⟩:=h1;have he:cs=os i:=he;intro n r hs e;cases n with
  | zero=>
    simp at e;obtain⟨rfl,rfl⟩:=e;rw[Nat.add_zero, <-he];refine⟨h2,fun j c hc=>?_⟩;have:=h3 j c hc
    simpa using this
  | succ n=>
    simp at e;have:=wR m (i+1) k _ _ h1 n r hs e;rw[show i+(n+1)=i+1+n from by omega];exact this
theorem qV {w:World}{ok:Nat->Prop}:∀ {ds:List DV} {vs:List Value} {ps:List gL} {p k:Nat} {q:gL},gU w ok ds vs ps->ps[k]?=some q->∃ r,(mpL p ds)[k]?=some (r,q.hs)
 |[],vs,ps,p,k,q,h,e=>by simp only[gU]at h;rw[h.2]at e;simp at e
 | d::ds,vs,ps,p,k,q,h,e=>by
   cases d with
   | mp hs=>
     obtain⟨p0,ps',vs',rfl,rfl,e0,h⟩:=h;cases k with
     |zero=>simp at e;subst e;exact⟨p,by simp[mpL,e0]⟩
     |succ k=>simp at e;obtain⟨r,hr⟩:=qV (p:=p+1) h e;exact⟨r,by simpa[mpL]using hr⟩
   |one l=>obtain⟨v,vs',S,rfl,_,_,h⟩:=h;exact qV (p:=p+1) h e
   |agg l=>obtain⟨v,vs',S,rfl,_,_,h⟩:=h;exact qV (p:=p+1) h e
   |ptr l=>obtain⟨v,vs',S,rfl,_,_,h⟩:=h;exact qV (p:=p+1) h e
   |fn f l=>obtain⟨v,vs',S,rfl,_,_,h⟩:=h;exact qV (p:=p+1) h e
open Classical in
theorem NE (al:Bool)(hT:bI P T){Φ:Type}{F0:Φ}{ctF:Φ->CT}{mtF:Φ->MT}{ptF:Φ->PT}{ntF:Φ->NT}{otF:Φ->OT}(hct:DI P (ctF F0))(hmt:Ht P (mtF F0))(hpt:Hz P (ptF F0))(hnw:Hu P (ntF F0))(hot:Hw P (otF F0))(hm:P.follows .mixedOrders=true){f:FuncId}{fn:Func}{ds res:List DV}{outs:List (List H)}(n:Nat)(c:Code)(ts:List TypeId)(rvs:List ResultVar) 
 (hf:P.funcs[f]?=some fn) (hb:fn.body=some c) (hnt:fn.ntmps=n) (hts:fn.resultTypes.toList=ts) (hrv:fn.results.toList=rvs) (hn:afR ds.length n=true) (hlo:(mpL 0 ds).length=outs.length) (hl0:(mpL 0 ds).all (fun q=>q.2.length.ble 999)=true) (hl1:al=true->(mpL 0 ds).all (fun q=>q.1.ble 999)=true)
 (h:∀ O r os F,O=ah->r=res->os=(fun i=>outs.getD i [])->F=F0->qi T O ⟨ctF F,mtF F,ptF F,ntF F,otF F⟩ n ((mpL 0 ds).map (·.1)) [] c (XB T O ts rvs (mpL 0 ds) r os) (gD al 0 ds)):FK P f ds outs res:=by
 subst hnt hts hrv;replace h:=h ah res _ F0 rfl rfl rfl rfl;replace hn:=aej hn;intro w vs ps hpre;have ix:=fun {r q}=>sQ (p:=0) (r:=r) (q:=q) hpre.args
 have hlt:∀ {r q},iE 0 ds ps r=some q->q.hs.length<=999:=by
  intro r q e;obtain⟨k,e1,_⟩:=ix.1 e;have:=aei.1 hl0 _ (acY e1);exact aej this
 let anc:Nat->Value:=fun i=>((iE 0 ds ps ((match al with|true=>i%1000000000|false=>i)/1000)).map fun q=>q.val (i%1000)).getD undef
 have hlr:∀ {r q},al=true->iE 0 ds ps r=some q->r<=999:=by
  intro r q ha e;obtain⟨k,e1,_⟩:=ix.1 e;have:=aei.1 (hl1 ha) _ (acY e1);exact aej this
 have hanc:∀ r q j l,iE 0 ds ps r=some q->q.hs[j]?=some (.ro l)->anc (r*1000+j)=q.val j:=by
  intro r q j l e e1;have h1:=(acW.1 e1).1;have h2:=hlt e;have h3:(r*1000+j)/1000=r:=by omega
  have h4:(r*1000+j)%1000=j:=by omega
  cases al with
  |false=>simp only[anc,h3,h4,e,adR,adw]
  | true=>
    have h5:=hlr rfl e;have h6:(r*1000+j)%1000000000=r*1000+j:=by omega
    simp only[anc,h6,h3,h4,e,adR,adw]
 have hanc2:∀ r q j l,al=true->iE 0 ds ps r=some q->q.hs[j]?=some (.own l)->anc (1000000000+(r*1000+j))=q.val j:=by
  intro r q j l ha e e1;have h1:=(acW.1 e1).1;have h2:=hlt e;have h5:=hlr ha e;subst ha;have h3:(1000000000+(r*1000+j))%1000000000/1000=r:=by omega
  have h4:(1000000000+(r*1000+j))%1000=j:=by omega
  simp only[anc,h3,h4,e,adR,adw]
 refine calls_of_wp hf hb ?_;have hini:=KJ (al:=al) fn.ntmps w ds vs ps hpre hn anc hanc hanc2;refine aeO ?_ (dC (fz:=[]) (cx:=⟨fn.ntmps,w,fun b=>¬ nL ps b/\¬ rU ps b,anc,fun r=>(iE 0 ds ps r).map fun(q:gL)=>(q.b,q.off),fun r=>((iE 0 ds ps r).map fun(q:gL)=>q.hs.length).getD 0,fun _=>True⟩) (fun q=>absurd rfl q) hT (ct:=⟨ctF F0,mtF F0,ptF F0,ntF F0,otF F0⟩) ⟨hct,hmt,hpt,hnw,hot⟩ hm rfl (an:=(mpL 0 ds).map (·.1)) (fun r x e=>by
  cases e0:iE 0 ds ps r with
  |none=>simp[e0]at e
  |some q=>obtain⟨k,e1,_⟩:=ix.1 e0;exact List.mem_map.2 ⟨_,acY e1,rfl⟩) c _ _ _ w h hini)
 rintro e a' w' ⟨ex,σ',rfl,hq',G,hS⟩;have hq:Ks T ah fn.resultTypes.toList fn.results.toList (mpL 0 ds) σ' res (fun i=>outs.getD i []):=by
  cases ex with
  |normal=>exact hq'
  |ret=>exact hq'
  |exit i=>exact hq'.elim
 have hex:ex=.normal\/ex=.ret:=by
  cases ex with
  |normal=>exact .inl rfl
  |ret=>exact .inr rfl
  |exit i=>exact hq'.elim
 unfold Ks at hq;obtain⟨ls,u,t,h1,_⟩:=Rd.wpU_runs hq;obtain⟨ds',vs',srcs,Sr,ls',k1,k2,k3,k4,k5⟩:=ke hS _ _ _ _ _ (mO hT (fun _ _ _ h=>h) h1);split at k5
 case isFalse=>exact k5.elim
 rename_i hd;simp only[AI]at hd;obtain⟨PI,hd2⟩:=hd;obtain⟨hres0,k5⟩:=k5;have hres0:ds'=res:=hres0;subst hres0;have o1:=wR _ _ _ _ _ k5;obtain⟨v,hrun,hres⟩:=rG k1 k2;have plen:ps.length=outs.length:=by
  rw[<-hlo];have key:∀ {ds:List DV} {vs:List Value} {ps:List gL} {p:Nat} {ok:Nat->Prop},gU w ok ds vs ps->ps.length=(mpL p ds).length:=by
   intro ds
   induction ds with
   |nil=>intro vs ps p ok h;simp only[gU]at h;simp[h.2,mpL]
   | cons d ds ih=>
     intro vs ps p ok h;cases d with
     |mp hs=>obtain⟨p0,ps',vs',rfl,rfl,_,h⟩:=h;simp[mpL,ih (p:=p+1) h]
     |one l=>obtain⟨v,vs',S,rfl,_,_,h⟩:=h;exact ih (p:=p+1) h
     |agg l=>obtain⟨v,vs',S,rfl,_,_,h⟩:=h;exact ih (p:=p+1) h
     |ptr l=>obtain⟨v,vs',S,rfl,_,_,h⟩:=h;exact ih (p:=p+1) h
     |fn f l=>obtain⟨v,vs',S,rfl,_,_,h⟩:=h;exact ih (p:=p+1) h
  exact key hpre.args
 let pst:Nat->gL:=fun k=>
  { b:=(ps.getD k ⟨0,0,[],fun _=>undef,fun _=>[]⟩).b,off:=(ps.getD k ⟨0,0,[],fun _=>undef,fun _=>[]⟩).off,hs:=outs.getD k [],
    val:=fun j=>G.val ((mpL 0 ds).getD k (0,[])).1 j,
    fp:=fun j=>match(outs.getD k [])[j]? with
     |some (.own _)=>G.fp ((mpL 0 ds).getD k (0,[])).1 j
     |_=>(ps.getD k ⟨0,0,[],fun _=>undef,fun _=>[]⟩).fp j}
 have info:∀ (k:Nat) q',((adb ps.length).map pst)[k]?=some q'->∃ q r,ps[k]?=some q/\(mpL 0 ds)[k]?=some (r,q.hs)/\iE 0 ds ps r=some q/\q'=pst k/\q'.b=q.b/\q'.off=q.off/\outs[k]?=some q'.hs/\q'.hs.length=q.hs.length/\(∀ j,q'.val j=G.val r j)/\(∀ j l,q'.hs[j]?=some (.own l)->q'.fp j=G.fp r j)/\
  ∀ (j:Nat) c,q'.hs[j]?=some c->∃ hv,get σ' (.leaf r j)=some (.h hv)/\hv.c=c/\(match c with
   | .own _=>True
   | .ro l=>q.hs[j]?=some (.ro l)/\hv.org=some (r*1000+j)
   | .gone=>False):=by
  intro k q' e;rw[ada,Option.map_eq_some_iff]at e;obtain⟨k',e1,rfl⟩:=e;obtain⟨hk,rfl⟩:=acW.1 e1;simp only[List.length_range]at hk;simp only[List.getElem_range];have hq:ps[k]?=some ps[k]:=IT hk;obtain⟨r,hr⟩:=qV (p:=0) hpre.args hq;have hpa:iE 0 ds ps r=some ps[k]:=ix.2 ⟨k,hr,hq⟩;have hout:outs[k]?=some outs[k]:=IT (by omega);have g1:ps.getD k ⟨0,0,[],fun _=>undef,fun _=>[]⟩=ps[k]:=by simp[ady,hq]
  have g2:outs.getD k []=outs[k]:=by simp[ady,hout]
  have g3:(mpL 0 ds).getD k (0,[])=(r,ps[k].hs):=by simp[ady,hr]
  obtain⟨m1,m2⟩:=o1 k r _ hr;rw[Nat.zero_add]at m1 m2;refine⟨ps[k],r,hq,hr,hpa,trivial,by simp only[pst,g1],by simp only[pst,g1],by simp only[pst,g2];exact hout,by simp only[pst];exact m1,fun j=>by simp only[pst,g3],fun j l e=>?_,fun j c e=>?_⟩
  ·simp only[pst]at e ⊢;rw[e];simp only[g3]
  ·exact m2 j c e
 have meta_:∀ {r q},iE 0 ds ps r=some q->G.loc r=some (q.b,q.off)/\get σ' (.meta_ r)=some (.m q.hs.length true):=by
  intro r q e;have:=hS.aloc r (q.b,q.off) (by simp[e])
  simpa[e]using this
 have mem:∀ q'∈(adb ps.length).map pst,∃ k:Nat,((adb ps.length).map pst)[k]?=some q':=fun q' hq=>by
  obtain⟨k,hk⟩:=aeq hq;exact⟨k,hk⟩
 have ownTok:∀ b,nL ((adb ps.length).map pst) b->∃ r j q,iE 0 ds ps r=some q/\G.ow b=some (.leaf r j)/\fh w' b:=by
  rintro b ⟨q',hq,j,l,e1,e2⟩;obtain⟨k,hk⟩:=mem q' hq;obtain⟨q,r,i1,i2,i3,i4,i5,i6,i7,i8,i9,i10,i11⟩:=info k q' hk;obtain⟨hv,m1,m2,_⟩:=i11 j _ e1;rw[i10 j l e1]at e2;have:=hS.hok (au.2 m1);simp only[eC,m2]at this;exact⟨r,j,q,i3,this.2.2 b e2⟩
 have ptrTok:∀ b,rU ps b->∃ k,G.ow b=some (.box k):=by
  rintro b ⟨q,hq,rfl⟩;obtain⟨k,hk⟩:=aeq hq;obtain⟨r,hr⟩:=qV (p:=0) hpre.args hk;obtain⟨f1,f2⟩:=meta_ (ix.2 ⟨k,hr,hk⟩);obtain⟨b',off',cur,ty,z1,z2,_⟩:=hS.boxes r _ f2;rw[f1]at z1;cases z1;exact⟨_,z2⟩
 have own:∀ b r j,fh w' b->G.ow b=some (.leaf r j)->fh w' b/\(w.heap.size<=b\/nL ps b):=by
  intro b r j hu ht;refine⟨hu,?_⟩;rcases adZ b w.heap.size with hlt|hge
  ·by_cases c1:nL ps b;exact .inr c1
   ·by_cases c2:rU ps b
    ·obtain⟨k,hk⟩:=ptrTok b c2;rw[hk]at ht;cases ht
    ·rcases hS.frow b hlt ⟨c1,c2⟩with e|e<;>rw[ht]at e<;>cases e
  ·exact .inl hge
 have post:Lp w ps outs w' ((adb ps.length).map pst) Sr:=by
  refine⟨by simp,?_,?_,?_,?_,?_,?_,⟨k3 PI,?_⟩,?_,hS.frame,?_⟩
  ·intro k p p' hp hp';obtain⟨q,r,i1,i2,i3,i4,i5,i6,i7,i8,_⟩:=info k p' hp';rw[hp]at i1;cases i1;exact⟨i5,i6,i7,i8⟩
  ·intro q' hq;obtain⟨k,hk⟩:=mem q' hq;obtain⟨q,r,i1,i2,i3,i4,i5,i6,i7,i8,i9,_⟩:=info k q' hk;obtain⟨f1,f2⟩:=meta_ i3;obtain⟨b',off',cur,ty,z1,z2,z3,z4,z5⟩:=hS.boxes r _ f2;rw[f1]at z1;cases z1;exact⟨cur,ty,by rw[i5];exact z3,fun j hj=>by rw[i6,i9];exact z5 j (by omega)⟩
  ·intro q' hq j l e;obtain⟨k,hk⟩:=mem q' hq;obtain⟨q,r,i1,i2,i3,i4,i5,i6,i7,i8,i9,i10,i11⟩:=info k q' hk;obtain⟨hv,m1,m2,_⟩:=i11 j _ e;have:=hS.hok (au.2 m1);simp only[eC,m2]at this;rw[i9,i10 j l e];exact⟨this.1,this.2.1⟩
  ·intro k p p' j l hp hp' e;obtain⟨q,r,i1,i2,i3,i4,i5,i6,i7,i8,i9,i10,i11⟩:=info k p' hp';rw[hp]at i1;cases i1;obtain⟨hv,m1,m2,m3,m4⟩:=i11 j _ e;refine⟨m3,?_⟩;rw[i9,hS.anc r j hv (au.2 m1) _ m4];exact hanc r p j l i3 m3
  ·intro q' hq j e;obtain⟨k,hk⟩:=mem q' hq;obtain⟨q,r,i1,i2,i3,i4,i5,i6,i7,i8,i9,i10,i11⟩:=info k q' hk;obtain⟨hv,m1,m2,m3⟩:=i11 j _ e;exact m3
  ·intro k j k' j' p p' l l' hp hp' e e' hne b hb hb';obtain⟨q,r,i1,i2,i3,i4,i5,i6,i7,i8,i9,i10,i11⟩:=info k p hp;obtain⟨q2,r2,i1',i2',i3',i4',i5',i6',i7',i8',i9',i10',i11'⟩:=info k' p' hp';obtain⟨hv,m1,m2,_⟩:=i11 j _ e;obtain⟨hv',m1',m2',_⟩:=i11' j' _ e';rw[i10 j l e]at hb;rw[i10' j' l' e']at hb';have t1:=hS.hok (au.2 m1);simp only[eC,m2]at t1;have t2:=hS.hok (au.2 m1');simp only[eC,m2']at t2;have u1:=(t1.2.2 b hb).1;have u2:=(t2.2.2 b hb').1;rw[u1]at u2;cases u2;have hkk:k=k':=by
    rw[i3]at i3';cases i3';by_cases c:k=k';exact c
    ·have:=hpre.sep k k' q q c i1 i1' rfl;have:=(acW.1 e).1;omega
   subst hkk;exact hne rfl
  ·intro b hb ho;obtain⟨r,j,q,e1,e2,_⟩:=ownTok b ho;obtain⟨_,r',j',m1,m2⟩:=k4 b hb;rw[m2]at e2;cases e2;obtain⟨k,e3,_⟩:=ix.1 e1;have:=aei.1 (aei.1 hd2 _ m1) _ (acY e3);simp at this
  ·intro b hb;rcases hb with hb|hb
   ·obtain⟨hu,r,j,_,m2⟩:=k4 b hb;exact own b r j hu m2
   ·obtain⟨r,j,q,_,m2,hu⟩:=ownTok b hb;exact own b r j hu m2
  ·rintro b ⟨q,hq,rfl⟩;obtain⟨k,hk⟩:=aeq hq;obtain⟨r,hr⟩:=qV (p:=0) hpre.args hk;have hpa:=ix.2 ⟨k,hr,hk⟩;obtain⟨c0,c1,ty,z1,z2,z3,z4⟩:=hS.afr r q.b q.off (by simp[hpa]);refine⟨c0,c1,ty,z1,z2,z3,fun i hi=>z4 i (fun r' off' e=>?_)⟩;cases e0:iE 0 ds ps r' with
   |none=>simp[e0]at e
   | some q2=>
     simp[e0]at e ⊢;obtain⟨e1,rfl⟩:=e;obtain⟨k2,_,hk2⟩:=ix.1 e0;exact hi q2 (acY hk2) e1
 have fin:a'.defers=[]/\∃ v,(results fn a'.tmps).run P w'=.ok v w'/\∃ v' Sr ps',afB v=.returned v'/\j7 w' ds' v' Sr/\Lp w ps outs w' ps' Sr:=
  ⟨hS.defers,_,hrun,_,Sr,_,rfl,hres,post⟩
 rcases hex with rfl|rfl;exact fin;exact fin
end
end Go.V
namespace Go.V
theorem SS :(∀ a b:Int,(dx .eql a b=true)↔a=b)/\(∀ a b:Int,(dx .eql a b=false)↔a≠b)/\(∀ a b:Int,(dx .neq a b=true)↔a≠b)/\(∀ a b:Int,(dx .neq a b=false)↔a=b)/\
 (∀ a b:Int,(dx .lss a b=true)↔a<b)/\(∀ a b:Int,(dx .lss a b=false)↔b<=a)/\(∀ a b:Int,(dx .leq a b=true)↔a<=b)/\(∀ a b:Int,(dx .leq a b=false)↔b<a)/\
 (∀ a b:Int,(dx .gtr a b=true)↔b<a)/\(∀ a b:Int,(dx .gtr a b=false)↔a<=b)/\(∀ a b:Int,(dx .geq a b=true)↔b<=a)/\(∀ a b:Int,(dx .geq a b=false)↔a<b)/\
 (∀ b,(TV b=true)↔b=false)/\(∀ b,(TV b=false)↔b=true)/\(∀ a b,VX true a b=a)/\(∀ a b,VX false a b=b)/\
 (∀ a b,(KA .eql a b=true)↔a=b)/\(∀ a b,(KA .eql a b=false)↔a≠b)/\(∀ a b,(KA .neq a b=true)↔a≠b)/\(∀ a b,(KA .neq a b=false)↔a=b)/\
 (∀ n,Ti n=(n:Int))/\(∀ es,lnI es=es.length)/\(∀ f,prI f=f ())/\(∀ n:Nat,ahg n=(n:Int))/\(∀ a b,W0 a b=a++b)/\(∀ i,nnI i=i.toNat):=
 ⟨fun _ _=>O6,fun _ _=>O5,fun _ _=>Pi,fun _ _=>Ph,fun _ _=>Pg,fun _ _=>Pf,fun _ _=>Pe,fun _ _=>Pd,fun _ _=>Pb,fun _ _=>O9,fun _ _=>O8,fun _ _=>O7,
   fun _=>abg,fun _=>abf,fun _ _=>rfl,fun _ _=>rfl,fun _ _=>LE,fun _ _=>LD,fun _ _=>LG,fun _ _=>LF,fun _=>rfl,fun _=>rfl,fun _=>rfl,fun _=>rfl,fun _ _=>rfl,fun _=>rfl⟩
end Go.V
namespace Go.V
theorem onc (n:Nat):ahg n=(n:Int):=rfl
structure TB (P:Program) where
 Φ:Type
 F0:Φ
 ct:Φ->CT:=noC
 mt:Φ->MT:=Y8
 pt:Φ->PT:=Zb
 nt:Φ->NT:=Y9
 ot:Φ->OT:=Za
 hc:DI P (ct F0):=by exact Vs
 hm:Ht P (mt F0):=by exact P5
 hp:Hz P (pt F0):=by exact P8
 hn:Hu P (nt F0):=by exact P6
 ho:Hw P (ot F0):=by exact P7
abbrev tb {P:Program}{Φ:Type}{F0:Φ}{ct:Φ->CT}(hc:DI P (ct F0)):TB P:={Φ:=Φ,F0:=F0,ct:=ct,hc:=hc}
section
variable {P : Program} {T : BV} (B : TB P) (hT : bI P T) (hm : P.follows .mixedOrders = true) {f : FuncId} {fn : Func} {ds : List DV} (n : Nat) (c : Code) (ts : List TypeId) (rvs : List ResultVar)
include hT hm
theorem T9 (fz:List (Nat×List Nat)){res:List DV}(hf:P.funcs[f]?=some fn)(hb:fn.body=some c)(hnt:fn.ntmps=n)(hts:fn.resultTypes.toList=ts)(hrv:fn.results.toList=rvs)(hn:afR ds.length n=true) 
 (h:∀ O r F,O=ah->r=res->F=B.F0->qi T O ⟨B.ct F,B.mt F,B.pt F,B.nt F,B.ot F⟩ n [] fz c (Mc T O ts rvs r) (ka 0 ds)):Ku P f ds res:=
 I9 fz hT B.hc B.hm B.hp B.hn B.ho hm n c ts rvs hf hb hnt hts hrv hn h
end
end Go.V
namespace Go.V
mutual
def fQ :L->Nat
 | .s _ es=>es.length+bK es
 |_=>0
def cS :ay->Nat
 |[]=>0
 |l::ls=>fQ l+cS ls
def bK :aa->Nat
 |[]=>0
 |e::es=>cS e+bK es
end
def ak (es:aa):Nat:=es.length+bK es
def aQ :List aa->Nat
 |[]=>0
 |r::rs=>ak r+aQ rs
def dO (rs:List aa)(left:Int):Int:=if left<aQ rs then-1 else left-aQ rs
mutual
def iD :L->Int->L×Int
 | .v (.int kd _),k=>(.v (.int kd k),k+1)
 | .v (.bool _),k=>(.v (.bool (k.tmod 3==0)),k+1)
 | .s sz es,k=>(.s sz (dN es k).1,(dN es k).2)
 |l,k=>(l,k)
def gX :ay->Int->ay×Int
 |[],k=>([],k)
 |l::ls,k=>((iD l k).1::(gX ls (iD l k).2).1,(gX ls (iD l k).2).2)
def dN :aa->Int->aa×Int
 |[],k=>([],k)
 |e::es,k=>((gX e k).1::(dN es (gX e k).2).1,(dN es (gX e k).2).2)
end
def aT (es:aa)(k:Int):aa:=(dN es k).1
def aw :List aa->Int->Int
 |[],k=>k
 |r::rs,k=>aw rs (dN r k).2
theorem fI :∀ {a b:aa},bK (a++b)=bK a+bK b
 |[],b=>by simp[bK]
 |e::a,b=>by simp[bK,fI (a:=a),aeM]
theorem pd :∀ {a b:List aa},aQ (a++b)=aQ a+aQ b
 |[],b=>by simp[aQ]
 |e::a,b=>by simp[aQ,pd (a:=a),aeM]
theorem eG {r:aa}:aQ [r]=ak r:=by simp[aQ]
theorem I8 :∀ {ls:ay} {j:Nat} {l:L},ls[j]?=some l->fQ l<=cS ls
 |[],j,l,h=>by simp at h
 |x::ls,0,l,h=>by simp at h;subst h;simp[cS]
 |x::ls,j+1,l,h=>by simp at h;have:=I8 h;simp[cS];omega
theorem nJ {a:List aa}{left:Int}:dO a left<0↔left<aQ a:=by
 unfold dO;split<;>omega
theorem uI {a:List aa}{left:Int}(h:0<=dO a left):dO a left=left-aQ a:=by
 unfold dO at*;split at h
 ·omega
 ·rename_i c;rw[if_neg c]
theorem nI {a b:List aa}{left:Int}(h:0<=dO a left):dO b (dO a left)=dO (a++b) left:=by
 rw[uI h];unfold dO;rw[pd];split<;>split<;>omega
theorem gJ {a b:List aa}{left:Int}(h:dO a left<0):dO (a++b) left= -1:=by
 rw[nJ]at h;unfold dO;rw[pd,if_pos (by omega)]
theorem mS {a:List aa}{left:Int}(h:dO a left<0):dO a left= -1:=by
 rw[nJ]at h;unfold dO;rw[if_pos (by omega)]
theorem Bv {a:List aa}{left:Int}(h:0<=dO a left):dO a left<=left:=by rw[uI h];omega
theorem nE :∀ {a b:aa} {k:Int},dN (a++b) k=((dN a k).1++(dN b (dN a k).2).1,(dN b (dN a k).2).2)
 |[],b,k=>by simp[dN]
 |e::a,b,k=>by simp[dN,nE (a:=a)]
theorem jL :∀ {a b:List aa} {k:Int},aw b (aw a k)=aw (a++b) k
 |[],b,k=>rfl
 |r::a,b,k=>by simp only[aw,List.cons_append];exact jL
theorem iy :∀ {es:aa} {k:Int},(dN es k).1.length=es.length
 |[],k=>rfl
 |e::es,k=>by simp[dN,iy (es:=es)]
theorem cr {es:aa}{k:Int}:(aT es k).length=es.length:=iy
def gF (es:aa)(k:Int)(n:Nat):aa:=(dN (es.take n) k).1++es.drop n
def fT (es:aa)(k:Int)(n:Nat):Int:=(dN (es.take n) k).2
theorem eS {es:aa}{k:Int}:gF es k 0=es:=by simp[gF,dN]
theorem bT {es:aa}{k:Int}:fT es k 0=k:=by simp[fT,dN]
theorem A6 {es:aa}{k:Int}:gF es k es.length=aT es k:=by simp[gF,aT]
theorem rz {es:aa}{k:Int}:fT es k es.length=aw [es] k:=by simp[fT,aw]
theorem qU {es:aa}{k:Int}{n:Nat}(hn:n<=es.length):(gF es k n).length=es.length:=by simp[gF,iy];omega
theorem eR {es:aa}{k:Int}{n:Nat}(hn:n<=es.length):(gF es k n).getD n []=es.getD n []:=by
 unfold gF;simp only[BY];have hl:(dN (es.take n) k).1.length=n:=by rw[iy,acX];omega
 rw[ac9 (by omega),hl];simp
theorem A7 {es:aa}{k:Int}{n:Nat}(hn:n<es.length):(gF es k n).set n (gX (es.getD n []) (fT es k n)).1=gF es k (n+1):=by
 unfold gF fT;have hl:(dN (es.take n) k).1.length=n:=by rw[iy,acX];omega
 rw[List.set_append_right _ _ (by omega),hl,fG (d:=[]) hn,nE];simp only[Nat.sub_self];rw[aez hn,List.set_cons_zero];simp[dN]
theorem dV {es:aa}{k:Int}{n:Nat}(hn:n<es.length):fT es k (n+1)=(gX (es.getD n []) (fT es k n)).2:=by
 unfold fT;rw[fG (d:=[]) hn,nE];simp[dN]
theorem li {es:aa}{k:Int}{n:Nat}(hn:n<es.length):(aT es k).getD n []=(gX (es.getD n []) (fT es k n)).1:=by
 have h1:es=es.take n++(es.getD n []::es.drop (n+1)):=by
  conv=>lhs;rw[<-adi n es,aez hn]
  simp[ady,hn]
 unfold aT fT
 conv=>lhs;rw[h1]
 rw[nE];simp only[BY];have hl:(dN (es.take n) k).1.length=n:=by rw[iy,acX];omega
 rw[ac9 (by omega),hl];simp[dN]
mutual
theorem Y2 :∀ (l:L) (k:Int),(iD l k).2=k+(iD l 0).2
 | .v x,k=>by cases x<;>simp[iD]
 | .s sz es,k=>by simp only[iD];exact py es k
 | .g,k=>by simp[iD]
 | .m _ _,k=>by simp[iD]
theorem Dj :∀ (ls:ay) (k:Int),(gX ls k).2=k+(gX ls 0).2
 |[],k=>by simp[gX]
 | l::ls,k=>by
   simp only[gX];rw[Dj ls (iD l k).2,Y2 l k,Dj ls (iD l 0).2];omega
theorem py :∀ (es:aa) (k:Int),(dN es k).2=k+(dN es 0).2
 |[],k=>by simp[dN]
 | e::es,k=>by
   simp only[dN];rw[py es (gX e k).2,Dj e k,py es (gX e 0).2];omega
end
mutual
theorem Vp :∀ (l:L) (k k':Int),(iD (iD l k).1 k').2=(iD l k').2
 | .v x,k,k'=>by cases x<;>simp[iD]
 | .s sz es,k,k'=>by simp only[iD];exact fj es k k'
 | .g,k,k'=>by simp[iD]
 | .m _ _,k,k'=>by simp[iD]
theorem Nn :∀ (ls:ay) (k k':Int),(gX (gX ls k).1 k').2=(gX ls k').2
 |[],k,k'=>rfl
 |l::ls,k,k'=>by simp only[gX];rw[Nn ls _ _,Vp l k k']
theorem fj :∀ (es:aa) (k k':Int),(dN (dN es k).1 k').2=(dN es k').2
 |[],k,k'=>rfl
 |e::es,k,k'=>by simp only[dN];rw[fj es _ _,Nn e k k']
end
theorem pZ {es:aa}{k k':Int}:aw [aT es k] k'=aw [es] k':=fj es k k'
theorem jm {es:aa}{k:Int}{n:Nat}:fT es k n=k+fT es 0 n:=py _ _
theorem KL :∀ {rs:List aa} {k:Int},aw rs k=k+aw rs 0
 |[],k=>by simp[aw]
 |r::rs,k=>by simp only[aw];rw[KL (k:=(dN r k).2),py r k,KL (k:=(dN r 0).2)];omega
mutual
theorem Y1 :∀ (l:L),0<=(iD l 0).2
 | .v x=>by cases x<;>simp[iD]
 | .s sz es=>by simp only[iD];exact H6 es
 | .g=>by simp[iD]
 | .m _ _=>by simp[iD]
theorem Nm :∀ (ls:ay),0<=(gX ls 0).2
 |[]=>by simp[gX]
 |l::ls=>by simp only[gX];rw[Dj];have:=Y1 l;have:=Nm ls;omega
theorem H6 :∀ (es:aa),0<=(dN es 0).2
 |[]=>by simp[dN]
 |e::es=>by simp only[dN];rw[py];have:=Nm e;have:=H6 es;omega
end
theorem PR :∀ {rs:List aa},0<=aw rs 0
 |[]=>by simp[aw]
 |r::rs=>by simp only[aw];rw[KL];have:=H6 r;have:=PR (rs:=rs);omega
theorem mK {es:aa}{n:Nat}(hn:n<es.length):fT es 0 n<=fT es 0 (n+1):=by
 rw[dV hn,Dj];have:=Nm (es.getD n []);omega
theorem fL {es:aa}:∀ {m n:Nat},n<=es.length->m<=n->fT es 0 m<=fT es 0 n
 |m,0,_,h=>by rw[show m=0 from by omega];exact aev _
 | m,n+1,hn,h=>by
   rcases adZ m (n+1)with c|c
   ·have:=fL (es:=es) (m:=m) (n:=n) (by omega) (by omega);have:=mK (es:=es) (n:=n) (by omega);omega
   ·rw[show m=n+1 from by omega];exact aev _
end Go.V
namespace Go.V
abbrev Rw (fs:List Ty)(es:aa):Prop:=es.length<=maxLen/\∀ e∈es,cG fs e
abbrev tI :Ty:=.int .i64
abbrev tB :Ty:=.bool
mutual
def zL :Ty->L
 | .int k=>.v (.int k 0)
 | .bool=>.v (.bool false)
 | .str=>.v (.string .empty)
 | .sl fs=>.s fs.length []
def zR :List Ty->ay
 |[]=>[]
 |t::ts=>zL t::zR ts
end
theorem FY :∀ {fs:List Ty} {e:ay},cG fs e->j8 (zR fs) e=true
 |[],[],_=>rfl
 |[],_::_,h=>h.elim
 |_::_,[],h=>h.elim
 | t::ts,l::ls,h=>by
   obtain⟨h1,h2⟩:=h;simp only[zR,j8,AI];refine⟨?_,FY h2⟩;cases t with
   | int k=>cases l with
     | v x=>cases x with
       |int k' n=>simp only[dr]at h1;simp[zL,oQ,h1.1]
       |_=>simp[dr]at h1
     |_=>simp[dr]at h1
   | bool=>cases l with
     | v x=>cases x with
       |bool b=>rfl
       |_=>simp[dr]at h1
     |_=>simp[dr]at h1
   | str=>cases l with
     | v x=>cases x with
       |string b=>rfl
       |_=>simp[dr]at h1
     |_=>simp[dr]at h1
   | sl fs=>cases l with
     |s sz es=>simp only[dr]at h1;simp[zL,oQ,h1.1]
     |_=>simp[dr]at h1
theorem Rw.wf {fs:List Ty}{es:aa}(h:Rw fs es):Wf (zR fs) es:=fun e he=>FY (h.2 e he)
theorem Rw.at {fs:List Ty}{es:aa}(h:Rw fs es){n:Nat}(hn:n<es.length):cG fs (es.getD n []):=by
 refine h.2 _ ?_;rw[BY,IT hn];exact List.getElem_mem _
theorem Rw.eta {fs:List Ty}{es:aa}(h:Rw fs es){i:Int}(h0:0<=i)(h1:i<es.length):es.getD i.toNat []=mZ ah es i 0 (zR fs):=(ao h.wf h0 h1).symm
theorem CS :∀ {fs:List Ty} {e:ay} {j:Nat} {gs:List Ty},cG fs e->fs[j]?=some (.sl gs)->∃ es',e[j]?=some (.s gs.length es')/\Rw gs es'
 |[],_,j,gs,_,h=>by simp at h
 |_::_,[],j,gs,h,_=>h.elim
 | t::ts,l::ls,0,gs,h,e=>by
   simp at e;subst e;have h1:=h.1;cases l with
   |s sz es=>simp only[dr]at h1;exact⟨es,by simp[h1.1],h1.2⟩
   |_=>simp[dr]at h1
 | t::ts,l::ls,j+1,gs,h,e=>by
   simp at e;obtain⟨es',h1,h2⟩:=CS h.2 e;exact⟨es',by simpa using h1,h2⟩
theorem Rw.sub {fs:List Ty}{es:aa}(h:Rw fs es){i:Int}(hn:i.toNat<es.length){j:Nat}{gs:List Ty}(hj:fs[j]?=some (.sl gs)):Rw gs (ap es i j):=by
 obtain⟨es',h1,h2⟩:=CS (h.at hn) hj;unfold ap;rw[BY (l:=es.getD i.toNat []),h1];exact h2
theorem Rw.nil {fs:List Ty}:Rw fs []:=⟨Nat.zero_le _,by simp⟩
theorem Rw.take {fs:List Ty}{es:aa}(h:Rw fs es)(n:Nat):Rw fs (es.take n):=⟨by rw[acX];exact aem (Nat.min_le_right _ _) h.1,fun e he=>h.2 e (List.mem_of_mem_take he)⟩
theorem Rw.drop {fs:List Ty}{es:aa}(h:Rw fs es)(n:Nat):Rw fs (es.drop n):=⟨by rw[List.length_drop];exact aem (Nat.sub_le _ _) h.1,fun e he=>h.2 e (List.mem_of_mem_drop he)⟩
theorem Rw.append {fs:List Ty}{a b:aa}(ha:Rw fs a)(hb:Rw fs b)(hl:a.length+b.length<=maxLen):Rw fs (a++b):=⟨by simpa using hl,fun e he=>by rcases If.1 he with q|q;exact ha.2 e q;exact hb.2 e q⟩
theorem Rw.one {fs:List Ty}{e:ay}(h:cG fs e):Rw fs [e]:=⟨by simp[maxLen],by simpa using h⟩
theorem Rw.set {fs:List Ty}{es:aa}(h:Rw fs es){e:ay}(he:cG fs e)(n:Nat):Rw fs (es.set n e):=⟨by simpa using h.1,fun x hx=>by rcases List.mem_or_eq_of_mem_set hx with q|q;exact h.2 x q;rw[q];exact he⟩
theorem Rw.replicate {fs:List Ty}{e:ay}(h:cG fs e){n:Nat}(hn:n<=maxLen):Rw fs (List.replicate n e):=⟨by simpa using hn,fun x hx=>by rw[List.eq_of_mem_replicate hx];exact h⟩
def wi :Ty->Bool
 | .sl _=>false
 |_=>true
theorem Ar {t:Ty}{l:L}(h:dr t l)(hs:wi t=true):∃ x,l=.v x:=by
 cases t with
 |sl fs=>cases hs
 | int k=>cases l with
   |v x=>exact⟨x,rfl⟩
   |_=>simp[dr]at h
 | bool=>cases l with
   |v x=>exact⟨x,rfl⟩
   |_=>simp[dr]at h
 | str=>cases l with
   |v x=>exact⟨x,rfl⟩
   |_=>simp[dr]at h
theorem C7 :∀ {fs:List Ty} {e:ay},fs.all wi=true->cG fs e->cS e=0
 |[],[],_,_=>rfl
 |[],_::_,_,h=>h.elim
 |_::_,[],_,h=>h.elim
 | t::ts,l::ls,hs,h=>by
   simp only[agW,AI]at hs;obtain⟨x,rfl⟩:=Ar h.1 hs.1;simp only[cS,fQ];rw[C7 hs.2 h.2]
theorem F8 {fs:List Ty}(hs:fs.all wi=true):∀ {es:aa},(∀ e∈es,cG fs e)->bK es=0
 |[],_=>rfl
 |e::es,h=>by simp only[bK];rw[C7 hs (h e (by simp)),F8 hs (fun x hx=>h x (by simp[hx]))]
theorem Rw.cnt {fs:List Ty}{es:aa}(h:Rw fs es)(hs:fs.all wi=true):ak es=es.length:=by unfold ak;rw[F8 hs h.2];rfl
theorem Rw.scal {fs:List Ty}{es:aa}(h:Rw fs es)(hs:fs.all wi=true):bV es:=by
 have key:∀ {fs:List Ty} {e:ay},fs.all wi=true->cG fs e->j5 e:=by
  intro fs
  induction fs with
  | nil=>intro e _ h;cases e with
    |nil=>trivial
    |cons _ _=>exact h.elim
  | cons t ts ih=>
    intro e hs h;cases e with
    |nil=>exact h.elim
    | cons l ls=>
      simp only[agW,AI]at hs;obtain⟨x,rfl⟩:=Ar h.1 hs.1;exact(ih hs.2 h.2:j5 ls)
 have:∀ {es:aa},(∀ e∈es,cG fs e)->bV es:=by
  intro es
  induction es with
  |nil=>intro _;trivial
  |cons e es ih=>intro h;exact⟨key hs (h e (by simp)),ih (fun x hx=>h x (by simp[hx]))⟩
 exact this h.2
theorem dq {es:aa}{n:Nat}(hn:n<es.length):bK (es.take (n+1))=bK (es.take n)+cS (es.getD n []):=by
 rw[fG (d:=[]) hn,fI];simp[bK]
theorem bS {es:aa}{n:Nat}:bK (es.take n)<=bK es:=by
 conv=>rhs;rw[<-adi n es,fI]
 omega
theorem BE {sz:Nat}{es:aa}{n o:Nat}{new:ay}:sW (.s sz es) [(n,o)] new=es.set n ((es.getD n []).take o++new++(es.getD n []).drop (o+new.length)):=rfl
theorem uC {sz:Nat}{c:aa}{n j:Nat}:mW (.s sz c) [(n,j)]=Lb ((c.getD n []).getD j .g):=by
 unfold mW gQ;simp only[bX];cases h:c[n]? with
 |none=>simp[ady,h,Lb]
 | some rec=>
   simp only[adR,ady,h,adw];cases h2:rec[j]? with
   |none=>simp[Lb]
   |some l=>cases l<;>simp[Lb]
theorem d7 {c:aa}{n:Nat}{r:ay}(h:n<c.length):(c.set n r).getD n []=r:=by simp[ady,h]
theorem ui {sz:Nat}{c:aa}{n j:Nat}{r:ay}(h:n<c.length):bX (.s sz (c.set n r)) [(n,j)]=some (r,j):=by simp[bX,h]
theorem yA {sz:Nat}{c:aa}{n j:Nat}(h:n<c.length):bX (.s sz c) [(n,j)]=some (c.getD n [],j):=by simp[bX,ady,h]
theorem AH {sz:Nat}{c:aa}{n j:Nat}{r:ay}(h:n<c.length):gQ (.s sz (c.set n r)) [(n,j)]=match r[j]? with
 |some (.s sz es)=>some (sz,es)
 |_=>none:=by unfold gQ;rw[ui h];rfl
theorem yB {sz:Nat}{c:aa}{n j:Nat}(h:n<c.length):gQ (.s sz c) [(n,j)]=match(c.getD n [])[j]? with
 |some (.s sz es)=>some (sz,es)
 |_=>none:=by unfold gQ;rw[yA h];rfl
theorem bJ {a b:List aa}{k:Int}(hk:0<=k):aw a k<=aw (a++b) k/\0<=aw a k:=by
 rw[<-jL,KL (rs:=b),KL (rs:=a)];have:=PR (rs:=a);have:=PR (rs:=b);omega
theorem Pz {l:L}{k:Int}{z:L}(h:oQ z l=true):oQ z (iD l k).1=true:=by
 cases l with
 |v x=>cases x<;>cases z<;>simp_all [iD,oQ]<;>(rename_i y;cases y<;>simp_all [oQ])
 |s sz es=>cases z<;>simp_all [iD,oQ]
 |g=>exact h
 |m _ _=>exact h
theorem Jh :∀ {z e:ay} {k:Int},j8 z e=true->j8 z (gX e k).1=true
 |[],[],_,_=>rfl
 |[],_::_,_,h=>by simp[j8]at h
 |_::_,[],_,h=>by simp[j8]at h
 | z::zs,l::ls,k,h=>by
   simp only[j8,AI,gX]at h ⊢;exact⟨Pz h.1,Jh h.2⟩
theorem F7 :∀ {z:ay} {es:aa} {k:Int},Wf z es->Wf z (dN es k).1
 |z,[],_,_=>fun e he=>by cases he
 | z,e::es,k,h=>by
   intro x hx;simp only[dN,List.mem_cons]at hx;rcases hx with rfl|hx;exact Jh (h e (by simp));exact F7 (fun y hy=>h y (by simp[hy])) x hx
theorem dS {fs:List Ty}{es:aa}{k:Int}(h:Rw fs es):Wf (zR fs) (aT es k):=F7 h.wf
end Go.V
namespace Go.V
mutual
def QF :Ty->Nat
 | .sl fs=>Hk fs
 |_=>1
def Hk :List Ty->Nat
 |[]=>0
 |t::ts=>QF t+Hk ts
end
mutual
theorem Vh :∀ (t:Ty) (l:L),dr t l->(iD l 0).2<=(QF t*(fQ l+1):Nat)
 | .int k,.v x,h=>by cases x<;>simp[iD,fQ,QF]
 | .int k,.s _ _,h=>by simp[dr]at h
 | .int k,.g,h=>by simp[dr]at h
 | .bool,.v x,h=>by cases x<;>simp[iD,fQ,QF]
 | .bool,.s _ _,h=>by simp[dr]at h
 | .bool,.g,h=>by simp[dr]at h
 | .str,.v x,h=>by cases x<;>simp[iD,fQ,QF]
 | .str,.s _ _,h=>by simp[dr]at h
 | .str,.g,h=>by simp[dr]at h
 | .sl fs,.v x,h=>by simp[dr]at h
 | .sl fs,.g,h=>by simp[dr]at h
 | .sl fs,.s sz es,h=>by
   have h1:=ET fs es (by simp only[dr]at h;exact h.2.2);simp only[iD,fQ,QF];have:Hk fs*(es.length+bK es)<=Hk fs*(es.length+bK es+1):=aeS _ (by omega);omega
theorem Nb :∀ (ts:List Ty) (ls:ay),cG ts ls->(gX ls 0).2<=(Hk ts*(cS ls+1):Nat)
 |[],[],_=>by simp only[gX];exact agw _
 |[],_::_,h=>h.elim
 |_::_,[],h=>h.elim
 | t::ts,l::ls,h=>by
   have h1:=Vh t l h.1;have h2:=Nb ts ls h.2;simp only[gX];rw[Dj];have e1:QF t*(fQ l+1)<=QF t*(cS (l::ls)+1):=aeS _ (by simp[cS]);have e2:Hk ts*(cS ls+1)<=Hk ts*(cS (l::ls)+1):=aeS _ (by simp[cS]);have e3:Hk (t::ts)*(cS (l::ls)+1)=QF t*(cS (l::ls)+1)+Hk ts*(cS (l::ls)+1):=by simp only[Hk];rw[Nat.add_mul]
   omega
theorem ET :∀ (ts:List Ty) (es:aa),(∀ e∈es,cG ts e)->(dN es 0).2<=(Hk ts*(es.length+bK es):Nat)
 |ts,[],_=>by simp only[dN];exact agw _
 | ts,e::es,h=>by
   have h1:=Nb ts e (h e (by simp));have h2:=ET ts es (fun x hx=>h x (by simp[hx]));simp only[dN];rw[py];have e3:Hk ts*((e::es).length+bK (e::es))=Hk ts*(cS e+1)+Hk ts*(es.length+bK es):=by
    rw[<-ahb];congr 1;simp[bK];omega
   omega
end
theorem Rw.marks {fs:List Ty}{es:aa}(h:Rw fs es)(hw:Hk fs<=64):(dN es 0).2<=(64*ak es:Nat):=by
 have:=ET fs es h.2;have h2:Hk fs*(es.length+bK es)<=64*(es.length+bK es):=Nat.mul_le_mul_right _ hw;unfold ak;omega
theorem Gq :∀ {rs:List aa} {k:Int},(∀ r∈rs,(dN r 0).2<=(64*ak r:Nat))->aw rs k<=k+(64*aQ rs:Nat)
 |[],k,_=>by simp[aw,aQ]
 | r::rs,k,h=>by
   simp only[aw,aQ];have h1:=h r (by simp);have h2:=Gq (rs:=rs) (k:=(dN r k).2) (fun x hx=>h x (by simp[hx]));rw[py]at h2;rw[py r k];have:64*(ak r+aQ rs)=64*ak r+64*aQ rs:=ahb _ _ _;omega
theorem MS {rs:List aa}{k:Int}(h:∀ r∈rs,(dN r 0).2<=(64*ak r:Nat))(hk:0<=k/\k<=1000)(hc:aQ rs<=1099511627776):aw rs k<=1152921504606846976:=by
 have:=Gq (k:=k) h;have:64*aQ rs<=64*1099511627776:=aeS _ hc;omega
theorem EI {rs:List aa}{k:Int}(hk:0<=k):¬ aw rs k<0:=by
 rw[KL];have:=PR (rs:=rs);omega
theorem On {rs:List aa}(h:aQ rs<=1048576):¬ dO rs 1048576<0:=by rw[nJ];omega
theorem Kp {es:aa}{k:Int}:oW (aT es k) 0 es.length=aT es k:=by
 rw[<-cr (es:=es) (k:=k),sa]
abbrev UF (a0 a1 a2:aa)(a3:Int)(a4 a5 a6 a7 a8 a9 aA aB:aa)(aC:Int)(aD:aa)(aE aF aG aH:Int)(aI:Bool)(aJ aK:Int)(aL:aa)(aM aN:Int):ay:=[.s 1 a0,.s 1 a1,.s 2 a2,.i a3,.s 1 a4,.s 2 a5,.s 3 a6,.s 3 a7,.s 4 a8,.s 1 a9,.s 1 aA,.s 1 aB,.i aC,.s 3 aD,.i aE,.i aF,.i aG,.i aH,.v (.bool aI),.i aJ,.i aK,.s 1 aL,.i aM,.i aN]
abbrev Wu (a0 a1 a2:aa)(a3:Int)(a4 a5 a6 a7 a8 a9 aA aB:aa)(aC:Int)(aD:aa)(aE aF aG aH:Int)(aI:Bool)(aJ aK:Int)(aL:aa)(aM aN:Int):List H:=[.own (.s 1 a0),.own (.s 1 a1),.own (.s 2 a2),.own (.i a3),.own (.s 1 a4),.own (.s 2 a5),.own (.s 3 a6),.own (.s 3 a7),.own (.s 4 a8),.own (.s 1 a9),.own (.s 1 aA),.own (.s 1 aB),.own (.i aC),.own (.s 3 aD),.own (.i aE),.own (.i aF),.own (.i aG),.own (.i aH),.own (.v (.bool aI)),.own (.i aJ),.own (.i aK),.own (.s 1 aL),.own (.i aM),.own (.i aN)]
theorem eA {es:aa}{n:Nat}(h:ak es<=n):es.length<=n:=aem (Nat.le_add_right _ _) h
theorem Tj {p:Prop}(h:p:=by
 try rw[eY (n:=es.length) g0 hlt (by omega)]
 try have hlt':i.toNat<es.length:=by omega
 try have hct:=dq (es:=es) (n:=i.toNat) (by omega);rw[he]at hct;simp only[cS,fQ,Nat.add_zero,Nat.zero_add]at hct
 try have hks:=dV (es:=es) (k:=k) hlt';rw[he]at hks;simp only[gX,iD]at hks
 try have hms:=A7 (es:=es) (k:=k) hlt';rw[he]at hms;simp only[gX,iD]at hms
 try have hcl:i.toNat<cur.length:=by rw[hc,qU g1];exact hlt'
 have hk1:=jm (es:=es) (k:=k) (n:=i.toNat)
 have hk2:=jm (es:=es) (k:=k) (n:=i.toNat+1)
 have hk3:=rz (es:=es) (k:=k)
 have hk4:=jm (es:=es) (k:=k) (n:=es.length)
 have hk5:=fL (es:=es) (m:=0) (n:=i.toNat) g1 (Nat.zero_le _)
 have hk6:=fL (es:=es) (m:=i.toNat) (n:=es.length) (Nat.le_refl _) g1
 try have hk7:=fL (es:=es) (m:=i.toNat+1) (n:=es.length) (Nat.le_refl _) hlt'
 have hle1:=bS (es:=es) (n:=i.toNat+1)
 have hcE:ak es=es.length+bK es:=rfl
 rw[bT]at hk5
 try have hk8:=mK (es:=es) (n:=i.toNat) hlt'
 have ha1:bR .add .i64 k' 1=k'+1:=bE (by omega)
 have ha2:bR .add .i64 (k'+1) 1=k'+1+1:=bE (by omega)
 have ha3:bR .add .i64 (k'+1+1) 1=k'+1+1+1:=bE (by omega)
 have ha4:bR .add .i64 (k'+1+1+1) 1=k'+1+1+1+1:=bE (by omega)
 try simp only[ha1,ha2,ha3,ha4]
 try simp only[az]
 try simp only[BE,hcg,List.take,List.drop,List.length_cons,List.length_nil,List.nil_append,List.cons_append,List.append_nil,Nat.zero_add,Nat.reduceAdd,d7 hcl,List.set_set,List.append_assoc]
 try simp only[uC,hcg,d7 hcl,List.getD_cons_zero,List.getD_cons_succ,Lb]
 try simp only[yA hcl,ui hcl,yB hcl,AH hcl,hcg,List.getElem?_cons_zero,List.getElem?_cons_succ]
 first|exact⟨g0,hlt⟩|(refine⟨_,_,rfl,?_⟩;simp;done)|omega|(rw[hk',show i.toNat=es.length from by omega,hk3];done)|(rw[hc,show i.toNat=es.length from by omega,A6];rfl)|(rw[show(i+1).toNat=i.toNat+1 from by omega,hks,hk'];done)|(rw[show(i+1).toNat=i.toNat+1 from by omega, <-hms,hc,hk'];done)|trace_state):p:=h
theorem Tl {p:Prop}(h:p:=by
 have hk1:=jm (es:=es) (k:=k) (n:=i.toNat)
 have hk2:=jm (es:=es) (k:=k) (n:=i.toNat+1)
 have hk3:=rz (es:=es) (k:=k)
 have hk4:=jm (es:=es) (k:=k) (n:=es.length)
 have hk5:=fL (es:=es) (m:=0) (n:=i.toNat) g1 (Nat.zero_le _)
 have hk6:=fL (es:=es) (m:=i.toNat) (n:=es.length) (Nat.le_refl _) g1
 try have hk7:=fL (es:=es) (m:=i.toNat+1) (n:=es.length) (Nat.le_refl _) hlt'
 have hle1:=bS (es:=es) (n:=i.toNat+1)
 have hcE:ak es=es.length+bK es:=rfl
 rw[bT]at hk5
 try have hk8:=mK (es:=es) (n:=i.toNat) hlt'
 try rw[<-hk']at hem hks
 have ha1:bR .add .i64 k' 1=k'+1:=bE (by omega)
 have ha2:bR .add .i64 (k'+1) 1=k'+1+1:=bE (by omega)
 have ha3:bR .add .i64 (k'+1+1) 1=k'+1+1+1:=bE (by omega)
 have ha4:bR .add .i64 (k'+1+1+1) 1=k'+1+1+1+1:=bE (by omega)
 try simp only[ha1,ha2,ha3,ha4]at*
 first|exact oG hwm g0 hltm|omega|(exfalso;revert hb;simp only[hem,dx,bR];simp;done)|(rw[hk',show i.toNat=es.length from by omega,hk3,hkk];done)|(rw[show(i+1).toNat=i.toNat+1 from by omega,hks];done)|(rw[show(i+1).toNat=i.toNat+1 from by omega,hks,hem];simp only[aw,fj];done)|(rw[show(i+1).toNat=i.toNat+1 from by omega,hks,hem.2];simp only[aw,fj];done)|(refine⟨_,by first|exact hem|exact hem.2|exact hem.1|rfl,?_,?_,?_⟩<;>(try simp only[aw,fj,ak])<;>omega)|(refine⟨_,by first|exact hem|exact hem.2|exact hem.1|rfl,?_,?_,?_⟩<;>(try rw[hem])<;>(try rw[hem.2])<;>(try simp only[aw,fj,ak])<;>omega)|(exfalso;simp only[aw,fj]at hb;omega)|(exfalso;(first|rw[hem]at hb|rw[hem.2]at hb);simp only[aw,fj]at hb;omega)|trivial|trace_state):p:=h
theorem QK {p:Prop}(h:p:=by
 try rw[eY (n:=es.length) g0 hlt (by omega)]
 try have hct:=dq (es:=es) (n:=i.toNat) (by omega);rw[he]at hct;simp only[cS,fQ,Nat.add_zero,Nat.zero_add]at hct
 have hle1:=bS (es:=es) (n:=i.toNat+1)
 have hcE:ak es=es.length+bK es:=rfl
 first|exact oG hwf g0 hlt|exact⟨g0,hlt⟩|(rw[hm];exact iu (by rw[lB g1];omega) (by rw[pp (by omega)];exact Nat.le_refl _))|omega|(rw[show(i+1).toNat=i.toNat+1 from by omega, <-C0 (by omega), <-hm,lE (by rw[hm,pp (by omega)];rfl),he])|(rw[hm,lB g1];exact⟨trivial,rfl⟩)|(rw[hm,show i.toNat=es.length from by omega,CZ])|trace_state):p:=h
theorem zq3 {p:Prop}(h:p:=by
 try have hct:=dq (es:=es) (n:=i.toNat) (by omega);rw[he]at hct;simp only[cS,fQ,Nat.add_zero,Nat.zero_add]at hct
 try have hks:=dV (es:=es) (k:=k) hlt';rw[he]at hks;simp only[gX,iD]at hks
 try have hms:=A7 (es:=es) (k:=k) hlt';rw[he]at hms;simp only[gX,iD]at hms
 try have hcl:i.toNat<cur.length:=by rw[hc,qU g1];exact hlt'
 have hk1:=jm (es:=es) (k:=k) (n:=i.toNat)
 have hk2:=jm (es:=es) (k:=k) (n:=i.toNat+1)
 have hk3:=rz (es:=es) (k:=k)
 have hk4:=jm (es:=es) (k:=k) (n:=es.length)
 have hk5:=fL (es:=es) (m:=0) (n:=i.toNat) g1 (Nat.zero_le _)
 have hk6:=fL (es:=es) (m:=i.toNat) (n:=es.length) (Nat.le_refl _) g1
 try have hk7:=fL (es:=es) (m:=i.toNat+1) (n:=es.length) (Nat.le_refl _) hlt'
 have hle1:=bS (es:=es) (n:=i.toNat+1)
 have hcE:ak es=es.length+bK es:=rfl
 rw[bT]at hk5
 try have hk8:=mK (es:=es) (n:=i.toNat) hlt'
 have ha1:bR .add .i64 k' 1=k'+1:=bE (by omega)
 have ha2:bR .add .i64 (k'+1) 1=k'+1+1:=bE (by omega)
 have ha3:bR .add .i64 (k'+1+1) 1=k'+1+1+1:=bE (by omega)
 have ha4:bR .add .i64 (k'+1+1+1) 1=k'+1+1+1+1:=bE (by omega)
 try simp only[ha1,ha2,ha3,ha4]
 try simp only[az]
 try simp only[BE,hcg,List.take,List.drop,List.length_cons,List.length_nil,List.nil_append,List.cons_append,List.append_nil,Nat.zero_add,Nat.reduceAdd,d7 hcl,List.set_set,List.append_assoc]
 try simp only[uC,hcg,d7 hcl,List.getD_cons_zero,List.getD_cons_succ,Lb]
 try simp only[yA hcl,ui hcl,yB hcl,AH hcl,hcg,List.getElem?_cons_zero,List.getElem?_cons_succ]
 first|exact⟨g0,hlt⟩|(refine⟨_,_,rfl,by simp,?_⟩;show List.take _ (List.drop _ _)=[L.s _ (mW _ _)];simp only[yW,uC,hcg,d7 hcl,List.getD_cons_zero,List.getD_cons_succ,Nat.add_zero,Lb];rfl)|exact⟨trivial,_,rfl,rfl⟩|exact⟨_,rfl⟩|omega|(rw[hk',show i.toNat=es.length from by omega,hk3];done)|(rw[hc,show i.toNat=es.length from by omega,A6];rfl)|(rw[show(i+1).toNat=i.toNat+1 from by omega,hks,hk'];rfl)|(rw[show(i+1).toNat=i.toNat+1 from by omega, <-hms,hc,hk'];rfl)|(refine⟨hr0,?_,?_,?_⟩<;>(try simp only[ak,aw])<;>first|omega|(rw[hk'];omega))|trace_state):p:=h
theorem yw {p:Prop}(h:p:=by
 intro O r F hO hr hF;cbv
 repeat' first|apply And.intro|(apply bD<;>intro hb<;>cbv)
 all_goals(subst hO hr hF;(try simp only[nc]at*);(try simp only[ah,SS,sa,az]at*))
 all_goals first|trivial|trace_state):p:=h
theorem zq5 {p:Prop}(h:p:=by
 have hk1:=jm (es:=es) (k:=k) (n:=i.toNat)
 have hk2:=jm (es:=es) (k:=k) (n:=i.toNat+1)
 have hk3:=rz (es:=es) (k:=k)
 have hk4:=jm (es:=es) (k:=k) (n:=es.length)
 have hk5:=fL (es:=es) (m:=0) (n:=i.toNat) g1 (Nat.zero_le _)
 have hk6:=fL (es:=es) (m:=i.toNat) (n:=es.length) (Nat.le_refl _) g1
 try have hk7:=fL (es:=es) (m:=i.toNat+1) (n:=es.length) (Nat.le_refl _) hlt'
 have hle1:=bS (es:=es) (n:=i.toNat+1)
 have hcE:ak es=es.length+bK es:=rfl
 rw[bT]at hk5
 try have hk8:=mK (es:=es) (n:=i.toNat) hlt'
 try rw[<-hk']at hem hks
 have ha1:bR .add .i64 k' 1=k'+1:=bE (by omega)
 have ha2:bR .add .i64 (k'+1) 1=k'+1+1:=bE (by omega)
 have ha3:bR .add .i64 (k'+1+1) 1=k'+1+1+1:=bE (by omega)
 have ha4:bR .add .i64 (k'+1+1+1) 1=k'+1+1+1+1:=bE (by omega)
 try simp only[ha1,ha2,ha3,ha4]at*
 first|exact oG hwm g0 hltm|omega|(exfalso;revert hb;simp only[hem,dx,bR];simp;done)|(rw[hk',show i.toNat=es.length from by omega,hk3,hkk];done)|(rw[show(i+1).toNat=i.toNat+1 from by omega,hks];done)|(rw[show(i+1).toNat=i.toNat+1 from by omega,hks,hem];simp only[aw,fj];done)|(rw[show(i+1).toNat=i.toNat+1 from by omega,hks,hem.2];simp only[aw,fj];done)|(refine⟨_,by first|exact hem|exact hem.2|exact hem.1|rfl,hr0,?_,?_,?_⟩<;>(try simp only[aw,fj,ak])<;>omega)|(refine⟨_,by first|exact hem|exact hem.2|exact hem.1|rfl,hr0,?_,?_,?_⟩<;>(try rw[hem])<;>(try rw[hem.2])<;>(try simp only[aw,fj,ak])<;>omega)|(exfalso;simp only[aw,fj]at hb;omega)|(exfalso;(first|rw[hem]at hb|rw[hem.2]at hb);simp only[aw,fj]at hb;omega)|trivial|trace_state):p:=h
theorem Tm {p:Prop}(h:p:=by
 try rw[eY (n:=es.length) g0 hlt (by omega)]
 try have hct:=dq (es:=es) (n:=i.toNat) (by omega);rw[he]at hct;simp only[cS,fQ,Nat.add_zero,Nat.zero_add]at hct
 have hle1:=bS (es:=es) (n:=i.toNat+1)
 have hcE:ak es=es.length+bK es:=rfl
 first|omega|exact oG hwf g0 hlt|trivial|trace_state):p:=h
theorem Tn {p:Prop}(h:p:=by
 intro O r F hO hr hF;cbv
 repeat' first|apply And.intro|(apply bD<;>intro hb<;>cbv)
 all_goals(subst hO hr hF;(try simp only[nc]at*);(try simp only[ah,SS,sa,az]at*))
 all_goals first|exact hs|trivial|exact⟨trivial,trivial⟩|exact⟨hw,hl⟩|omega|(show aP _ _=true;kernel_rfl)|(simp only[List.length_nil];omega)|exact rfl|done):p:=h
theorem QM {p:Prop}(h:p:=by
 intro O r F hO hr hF;cbv
 repeat' first|apply And.intro|(apply bD<;>intro hb<;>cbv)
 all_goals(subst hO hr hF;(try simp only[nc]at*);(try simp only[ah,SS,sa,az]at*))
 all_goals(try simp only[hs]at*)
 all_goals first|trivial|(rw[hn,if_pos (by omega)])|(rw[hn,if_neg (by omega)])):p:=h
theorem zq9 {p:Prop}(h:p:=by
 repeat' first|apply And.intro|(apply bD<;>intro hb<;>cbv)
 all_goals(subst hO hr hF;(try simp only[nc]at*);(try simp only[ah,SS,sa,az]at*))
 all_goals(try simp only[lp]at*)
 all_goals(try have ht:clB ls k=true:=(by assumption))
 all_goals(try have hi:=Ap ht)
 all_goals(try have k1:k<ls.length:=(by omega))
 all_goals(try have hg:=jQ hw hi.1 k1)
 all_goals(try have n1:1<=n:=(by omega))
 all_goals(try have ho:=Xh ht n1)
 all_goals(try have hz:=FU ho)
 all_goals(try have hm:=Xo (ls:=ls) (k:=k) n1)
 all_goals(try have hle:=Rl (ls:=ls) (k:=k) (n:=n))
 all_goals(try simp only[hm,Int.toNat_natCast,Pq,Ps,List.nil_append]at*)
 all_goals(try have wd:=Rw.drop hg (Av ls k n))
 all_goals(try have wt:=Rw.take hg (Av ls k n))
 all_goals(try have ld:((ap ls k 0).drop (Av ls k n)).length<=8:=(by rw[List.length_drop];omega))
 all_goals(try have lt:((ap ls k 0).take (Av ls k n)).length<=8:=(by rw[List.length_take];omega))
 all_goals first
  | (show(_:List DV)=_
     first
      |(have q:=I5 (Xf (n:=n) (by assumption:clB ls k=false));rw[q.1,q.2];exact rfl)
      |(have q:=I5 (Xg (ls:=ls) (k:=k) (by omega:n<1));rw[q.1,q.2];exact rfl)
      |(rw[hz.1,hz.2,Xs hw hi.1 k1];exact rfl)
      |(rw[hz.1,hz.2,Kq hw hi.1 k1];exact rfl)
      |done)
  | (show(_:List H)=_
     first
      |done)
  |omega
  |exact gp
  |exact N
  |exact⟨hw,by omega⟩
  |exact⟨(Uc hw hc ht).1,(Uc hw hc ht).2.1⟩
  |exact⟨wd,by omega⟩
  |exact⟨wt,by omega⟩
  |exact wd.scal rfl
  |exact wt.scal rfl
  |exact⟨hi.1,by rw[L3 hw hi.1 k1];exact k1⟩
  |exact L2 hw hi.1 k1
  |exact⟨by omega,by omega,by omega,Gg hw hi.1 k1⟩
  |(simp only[List.length_nil];refine⟨?_,?_⟩<;>omega)
  |exact Eu hw hi.1 k1
  |exact Dv hw hi.1 k1
  |exact⟨hi.1,k1⟩
  |exact⟨hi.1,by omega⟩
  |(show aP _ _=true;kernel_rfl)
  |exact⟨True.intro,True.intro⟩
  |exact True.intro
  |done):p:=h
theorem aav {p:Prop}(h:p:=by
 (subst hO hr hF;(try simp only[nc]at*);(try simp only[ah,SS,sa,az]at*))
 try rw[di (by omega) (by omega)]
 (try have bq:quarOk rm qs=true:=(by assumption))
 (try have bn:=bP.1 (by assumption:inR now 0 1000000=true))
 (try have ba:=bP.1 (by assumption:inR age 0 1000000=true))
 (try have lm:qs.length<=1099511627776:=(by omega))
 (try have qb:=ZJ bq hw i0 (by omega))
 (try have e1:bR .sub .i64 now (ag qs i 2)=now-ag qs i 2:=dD (by omega))
 (try have e2:bR .sub .i64 now age=now-age:=dD (by omega))
 (try simp only[e1]at*)
 (try simp only[e2]at*)
 first
  | (show(_:List DV)=_
     first
      |(have q:=VF (aca (rm:=rm) (qs:=qs) (now:=now) (age:=age) (by assumption));rw[q.1,q.2];exact rfl)
      |(have q:=VF (acb (rm:=rm) (qs:=qs) (now:=now) (age:=age) (by assumption));rw[q.1,q.2];exact rfl)
      |(have q:=VF (acd (rm:=rm) (qs:=qs) (now:=now) (age:=age) (by assumption));rw[q.1,q.2];exact rfl)
      |(have n:=Qe i2 i0 (by omega);have q:=acf (ace (rm:=rm) (qs:=qs) (now:=now) (age:=age) bq (by assumption) (by assumption));rw[q.1,q.2, <-n,Kh i0 (by omega),Ki];exact rfl)
      |done)
  |omega
  |exact gp
  |exact⟨hw,by omega⟩
  |exact⟨(Br hw).1,Nat.le_trans (Br hw).2 lm⟩
  |exact ZE
  |exact VG i2 i0 (by omega) (by omega)
  |exact(Br hw).1.scal rfl
  |(simp only[List.length_nil];have w:=(Br (a:=i.toNat) (b:=F2 (qs.length:Int) i) hw).2;omega)
  |(simp only[List.length_nil];have w:=(Br (a:=Int.toNat 0) (b:=F2 i 0) hw).2;omega)
  |(refine⟨?_,?_⟩<;>(simp only[List.length_nil];have w:=(Br (a:=i.toNat) (b:=F2 (qs.length:Int) i) hw).2;have w2:=(Br (a:=Int.toNat 0) (b:=F2 i 0) hw).2;omega))
  |(show aP _ _=true;kernel_rfl)
  |exact⟨True.intro,True.intro⟩
  |exact True.intro
  |done):p:=h
theorem aaw {p:Prop}(h:p:=by
 (subst hO hr hF;(try simp only[nc]at*);(try simp only[ah,SS,sa,az]at*))
 try rw[di (by omega) (by omega)]
 try(have hol:out.length=i.toNat:=(by rw[i2,List.length_take];omega))
 try(have hok:ou2.length=k.toNat:=(by rw[k2,List.length_take];omega))
 try(have hsc:=rL wb i0 (by assumption);have hsl:=av (es:=ap b i 0))
 try(have hsd:=rL wx k0 (by assumption);have hsm:=av (es:=ap x k 0))
 first
  | (show(_:List DV)=_
     first
      |exact rfl
      |(rw[i2,je (by omega)];rfl)
      |(rw[i2,k2,je (by omega),je (by omega)];rfl)
      |done)
  |omega
  |exact gp
  |(show aP _ _=true;kernel_rfl)
  |exact Rw.scal (fs:=[tI]) (by(first|assumption|exact Rw.sub (by first|assumption|exact Rw.sub (by assumption) (by omega) rfl) (by omega) rfl)) rfl
  |exact Rw.scal (fs:=[tI,tI]) (by(first|assumption|exact Rw.sub (by first|assumption|exact Rw.sub (by assumption) (by omega) rfl) (by omega) rfl)) rfl
  |exact⟨by(first|assumption|exact Rw.sub (by first|assumption|exact Rw.sub (by assumption) (by omega) rfl) (by omega) rfl),by omega⟩
  |(simp only[List.length_nil,List.length_cons];omega)
  |(rw[i2,List.nil_append];exact(jf wb i0 (by assumption)).symm)
  |(rw[k2];exact(jf wx k0 (by assumption)).symm)
  |(rw[k2,List.nil_append];exact(jf wx k0 (by assumption)).symm)
  |exact⟨trivial,trivial⟩
  |trivial
  |exact rfl
  |done):p:=h
theorem V7 {p:Prop}(h:p:=by
 try have hct:=dq (es:=es) (n:=i.toNat) (by omega);rw[he]at hct;simp only[cS,fQ,Nat.add_zero,Nat.zero_add]at hct
 have hle1:=bS (es:=es) (n:=i.toNat+1)
 have hcE:ak es=es.length+bK es:=rfl
 first|exact oG hwf g0 hlt|exact⟨g0,hlt⟩|(rw[hm];exact iu (by rw[lB g1];omega) (by rw[pp (by omega)];exact Nat.le_refl _))|omega|(rw[show(i+1).toNat=i.toNat+1 from by omega, <-C0 (by omega), <-hm,lE (by rw[hm,pp (by omega)];rfl),he])|(rw[hm,lB g1];exact⟨trivial,rfl⟩)|(rw[hm,show i.toNat=es.length from by omega,CZ])|trivial|(refine⟨hr0,?_⟩;simp only[aQ,ak,Nat.add_zero];omega)|trace_state):p:=h
theorem aax {p:Prop}(h:p:=by
 intro O r F hO hr hF;cbv
 repeat' first|apply And.intro|(apply bD<;>intro hb<;>cbv)
 all_goals(subst hO hr hF;(try simp only[nc]at*);(try simp only[ah,SS,sa,az]at*))
 all_goals(try simp only[lp]at*)
 all_goals(try have ht:clB ls k=true:=(by assumption))
 all_goals(try have hq:=Ud hw hc ht ha)
 all_goals(try have hi:=Ap ht)
 all_goals(try have k1:k<ls.length:=(by omega))
 all_goals(try simp only[abn hw ht]at*)
 all_goals(try have hw:=hw)
 all_goals first
  | (show(_:List DV)=_
     first
      |(have q:=abk (a:=a) (by assumption:clB ls k=false);exact MZ (Xl q).symm q.symm)
      |(have q:=abl (by assumption:caOk (CV ls k a)=false);exact MZ (Xl q).symm q.symm)
      |(have q:=abm ht (by assumption:caOk (CV ls k a)=true);exact MZ (Xm q).symm q.symm)
      |done)
  | (show(_:List H)=_
     first
      |done)
  |omega
  |exact gp
  |exact N
  |exact⟨hw,by omega⟩
  |exact GB hq.1 hq.2
  |exact⟨hq.1,hq.2⟩
  |exact Eu hw hi.1 k1
  |exact Uc hw hc ht
  |exact L3 hw hi.1 k1
  |exact L2 hw hi.1 k1
  |exact⟨hi.1,k1⟩
  |exact⟨hi.1,by omega⟩
  |(show aP _ _=true;kernel_rfl)
  |exact⟨True.intro,True.intro⟩
  |exact True.intro
  |done):p:=h
theorem aay {p:Prop}(h:p:=by
 (try simp only[ng (l:=a6) (sz:=3) (j:=1) (i:=ix) x0]at*)
 first
  | (show(_:List DV)=_
     first
      |done)
  | (show(_:List H)=_
     first
      |(exfalso;have q:(1:Int)≠1:=(by assumption);exact q rfl)
      |(have b0:rV (ap a9 t 0) (ag a6 ix 1) ad=true:=(by assumption);have b:OP a6 a9 t ad=true:=(SO g v).trans b0;have z:=acp (me:=aI) (kp:=aJ) (mv:=aK) (c:=a0) (u:=a1) (e:=a2) (f:=a5) b;rw[z.1,z.2.1,z.2.2.1,z.2.2.2.1,z.2.2.2.2.1,z.2.2.2.2.2,ZP g v hp.r9 t0 t1 b0];exact rfl)
      |(have b0:rV (ap a9 t 0) (ag a6 ix 1) ad=false:=(by assumption);have b:OP a6 a9 t ad=false:=(SO g v).trans b0;have z:=aco (me:=aI) (kp:=aJ) (mv:=aK) (c:=a0) (u:=a1) (e:=a2) (f:=a5) b;rw[z.1,z.2.1,z.2.2.1,z.2.2.2.1,z.2.2.2.2.1,z.2.2.2.2.2];exact rfl)
      |done)
  |omega
  |exact gp
  |exact⟨hp.r6,hp.r7⟩
  |exact⟨hp.r6,by omega⟩
  |exact⟨wc,by omega,by omega,by omega⟩
  |exact⟨hp,hk,hn,h5,g,ix,v⟩
  |exact Gs hp.r6 x0 x1
  |exact Dh hp.r6 x0 x1 (by decide)
  |exact AK hp.r9 t0 t1
  |exact vM hp.r9 t0 t1
  |exact Dv hp.r9 t0 t1
  |exact⟨t0,t1⟩
  |exact⟨x0,x1⟩
  |(show aP _ _=true;kernel_rfl)
  |exact⟨True.intro,True.intro⟩
  |exact True.intro
  |done):p:=h
theorem aaz {p:Prop}(h:p:=by
 intro O r F hO hr hF;cbv
 repeat' first|apply And.intro|(apply bD<;>intro hb<;>cbv)
 all_goals(subst hO hr hF;(try simp only[nc]at*);(try simp only[ah,SS,sa,az]at*))
 all_goals(try simp only[lp]at*)
 all_goals(try have ht:htB b x t=true:=(by assumption))
 all_goals(try have hi:=Yh ht)
 all_goals(try have hg:=jQ wx hi.1 hi.2)
 all_goals(try have g:=jK (es:=x) (i:=t) (j:=0))
 all_goals(try have l:(ap x t 0).length<=ak (ap x t 0):=(by unfold ak;omega))
 all_goals(try simp only[abj wx hi.1 hi.2]at*)
 all_goals(try have wx:=wx)
 all_goals first
  | (show(_:List DV)=_
     first
      |(have q:=abi (by assumption:htB b x t=false);rw[q.1,q.2];exact rfl)
      |(have q:=Xk ht;rw[q.1,q.2];exact rfl)
      |done)
  | (show(_:List H)=_
     first
      |done)
  |omega
  |exact gp
  |exact N
  |exact⟨wb,wx,by omega,by omega⟩
  |exact Eu wx hi.1 hi.2
  |exact Dv wx hi.1 hi.2
  |exact⟨hg,by omega⟩
  |exact hg.scal rfl
  |(simp only[List.length_nil];refine⟨?_,?_⟩<;>omega)
  |exact⟨hi.1,hi.2⟩
  |(show aP _ _=true;kernel_rfl)
  |exact⟨True.intro,True.intro⟩
  |exact True.intro
  |done):p:=h
theorem aaA {p:Prop}(h:p:=by
 (subst hO hr hF;(try simp only[nc]at*);(try simp only[ah,SS,sa,az]at*))
 try rw[di (by omega) (by omega)]
 try(have hol:out.length=i.toNat:=(by rw[i2,List.length_take];omega))
 try(have hsc:=rL hc i0 (by assumption);have hsl:=av (es:=ap ls i 0))
 first
  | (show(_:List DV)=_
     first
      |exact rfl
      |(rw[i2,je (by omega)];rfl)
      |(rw[i2,k2,je (by omega),je (by omega)];rfl)
      |done)
  |omega
  |exact gp
  |(show aP _ _=true;kernel_rfl)
  |exact Rw.scal (fs:=[tI]) (by(first|assumption|exact Rw.sub (by first|assumption|exact Rw.sub (by assumption) (by omega) rfl) (by omega) rfl)) rfl
  |exact Rw.scal (fs:=[tI,tI]) (by(first|assumption|exact Rw.sub (by first|assumption|exact Rw.sub (by assumption) (by omega) rfl) (by omega) rfl)) rfl
  |exact⟨by(first|assumption|exact Rw.sub (by first|assumption|exact Rw.sub (by assumption) (by omega) rfl) (by omega) rfl),by omega⟩
  |(simp only[List.length_nil,List.length_cons];omega)
  |(rw[i2];exact(jf hc i0 (by assumption)).symm)
  |(rw[i2,List.nil_append];exact(jf hc i0 (by assumption)).symm)
  |exact⟨trivial,trivial⟩
  |trivial
  |exact rfl
  |done):p:=h
theorem QI {p:Prop}(h:p:=by
 intro O r os F hO hr hos hF;cbv
 repeat' first|apply And.intro|(apply bD<;>intro hb<;>cbv)
 all_goals((try subst hos);subst hO hr hF;(try simp only[nc]at*);(try simp only[ah,SS,sa,az]at*))
 all_goals(try simp only[jL,List.cons_append,List.nil_append,cr]at*)
 all_goals first|trivial|(refine⟨by assumption,?_,?_,?_⟩<;>(try simp only[jL,List.cons_append,List.nil_append,aQ,Nat.add_zero])<;>omega)|trace_state):p:=h
theorem QJ {p:Prop}(h:p:=by
 intro O r F hO hr hF;cbv
 repeat' first|apply And.intro|(apply bD<;>intro hb<;>cbv)
 all_goals(subst hO hr hF;(try simp only[nc]at*);(try simp only[ah,SS,sa,az]at*))
 all_goals(try simp only[jL,List.cons_append,List.nil_append]at*)
 all_goals first|trivial|(exfalso;omega)|(obtain⟨x,y1,y2,y3⟩:=e0;exact⟨x,y1,y2,y3,by omega,by omega⟩)|(refine⟨by assumption,by omega,by omega⟩)|trace_state):p:=h
theorem V8 {p:Prop}(h:p:=by
 try have hct:=dq (es:=es) (n:=i.toNat) (by omega);rw[he]at hct;simp only[cS,fQ,Nat.add_zero,Nat.zero_add]at hct
 have hle1:=bS (es:=es) (n:=i.toNat+1)
 simp only[aQ,ak,Nat.add_zero]at hsz hsz2
 first|exact oG hwf g0 hlt|exact⟨hr0,by omega,by omega⟩|trivial|omega|(rw[hn,if_pos];omega)|(rw[hn,if_neg (by rw[show i.toNat=es.length from by omega,List.take_length]at g3;omega),show l=left-ak es from by rw[show i.toNat=es.length from by omega,List.take_length]at g3;omega])|(rw[show(i+1).toNat=i.toNat+1 from by omega,hct];omega)|trace_state):p:=h
theorem aaC {p:Prop}(h:p:=by
 intro O r os F hO hr hos hF;cbv
 repeat' first|apply And.intro|(apply bD<;>intro hb<;>cbv)
 all_goals((try subst hos);subst hO hr hF;(try simp only[nc]at*);(try simp only[ah,SS,sa,az]at*))
 all_goals(try simp only[e1]at*)
 all_goals(try simp only[ng (l:=a6) (sz:=3) (j:=0) (i:=i) i0]at*)
 all_goals first
  |(show(_:List DV)=_;exact rfl)
  | (show(_:List H)=_
     first
      |exact rfl
      |(have d:=L4 (a0:=a0) (a1:=a1) (a2:=a2) (a6:=a6) (i:=i);rw[d.1,d.2.1,d.2.2,abt, <-Ug i0 i1];exact rfl)
      |done)
  |omega
  |exact gp
  |(show aP _ _=true;kernel_rfl)
  |exact Dh hp.r6 i0 i1 (by decide)
  |exact hs6
  |(show _/\_;simp only[F2,oW,List.length_nil,List.length_append,List.length_take,List.length_drop];omega)
  |exact⟨Xw hp,hk,hn,h5,g0,by omega,by omega⟩
  |exact⟨by omega,by omega,by omega⟩
  |exact⟨hp.r0,hp.r1,hp.r2,hp.r4,km⟩
  |exact⟨by unfold zlI;omega,by unfold zlI;omega,hp.r5,by omega⟩
  |exact⟨True.intro,True.intro⟩
  |exact True.intro
  |done):p:=h
theorem aaD {p:Prop}(h:p:=by
 (subst hO hr hF;(try simp only[nc]at*);(try simp only[ah,SS,sa,az]at*))
 try rw[di (by omega) (by omega)]
 try(have hol:out.length=i.toNat:=(by rw[i2,List.length_take];omega))
 try(have hsc:=rL hr9 i0 (by assumption);have hsl:=av (es:=ap a9 i 0))
 first
  | (show(_:List DV)=_
     first
      |exact rfl
      |(rw[i2,je (by omega)];rfl)
      |done)
  |omega
  |exact gp
  |(show aP _ _=true;kernel_rfl)
  |exact hs5
  |exact hs6
  |exact hs7
  |exact hs8
  |exact⟨hr0,hr1,hr2,hr4,by omega,by omega,by omega,by omega⟩
  |exact⟨hr5,by omega⟩
  |exact⟨hr10,hr11,by omega,by omega⟩
  |exact⟨hr13,by omega⟩
  |exact⟨hr21,by omega⟩
  |exact⟨jQ hr9 i0 (by assumption),by omega⟩
  |(simp only[List.length_nil,List.length_cons];omega)
  |(rw[i2];exact(jf hr9 i0 (by assumption)).symm)
  |exact⟨trivial,trivial⟩
  |trivial
  |exact rfl
  |done):p:=h
theorem QL {p:Prop}(h:p:=by
 intro O r os F hO hr hos hF;cbv
 repeat' first|apply And.intro|(apply bD<;>intro hb<;>cbv)
 all_goals((try subst hos);subst hO hr hF;(try simp only[nc]at*);(try simp only[ah,SS,sa,az]at*))
 all_goals(try simp only[jL,List.cons_append,List.nil_append,cr]at*)
 all_goals first|trivial|trace_state):p:=h
theorem aaE {p:Prop}(h:p:=by
 (try have z:=Nk (by assumption))
 (try have y2:=hp.xn j)
 (try have y1:=hp.bn i)
 (try have z6:bR .add .i64 k 1=k+1:=bE (by omega))
 (try simp only[z6]at*)
 first
  | (show(_:List DV)=_
     first
      |(refine v5 ?_;exact abQ (by assumption))
      |(refine v5 ?_;exact Uv j2 (by assumption) j1 (by assumption))
      |done)
  |omega
  |exact gp
  |exact Rw.scal (Rw.sub (fs:=[.sl [tI]]) hxw (by omega) rfl) rfl
  |(have q:=k2.l;constructor<;>(simp only[List.length_cons,List.length_nil];omega))
  |(have q:=j2.l;constructor<;>omega)
  |exact XC k2 k0
  |exact Uo k2 i0 y1 k1 (by omega)
  |exact abx i2
  |exact abz i2 i1 (by omega)
  |exact XL j2 j0 y2
  |exact abw
  |exact⟨True.intro,True.intro⟩
  |done):p:=h
theorem aaF {p:Prop}(h:p:=by
 (try simp only[z9]at*)
 first
  | (show(_:List DV)=_
     first
      |(refine ai ?_;symm;exact Vm (by assumption))
      |(refine ai ?_;symm;exact Vn (by assumption))
      |(refine ai ?_;symm;exact Nj i0 (by omega) k0 (by assumption) (Zj (by assumption)))
      |(refine ai ?_;symm;exact Nj i0 (by omega) k0 (by assumption) (Zk (by assumption)))
      |(refine ai ?_;symm;exact Vo i0 (by omega) j0 (by assumption) (abd (by assumption)))
      |(refine ai ?_;rw[Vl i2 (by assumption) (by omega) i1 (by omega)];rfl)
      |done)
  |omega
  |exact gp
  |(show aP _ _=true;kernel_rfl)
  |exact bM
  |exact bj k2 (Zl (by assumption) (by assumption))
  |exact bj j2 (WT (by assumption))
  |exact Y0 i2 i0 k2 (by omega) j2 (by omega)
  |exact ab1
  |done):p:=h
theorem aaG {p:Prop}(h:p:=by
 (subst hO hr hF;(try simp only[nc]at*);(try simp only[ah,SS,sa,az]at*))
 try rw[di (by omega) (by omega)]
 (try have z:=CF i0 (by omega))
 (try simp only[z]at*)
 first
  | (show(_:List DV)=_
     first
      |(refine ai ?_;symm;exact VJ i0 (by assumption) (by assumption))
      |(refine ai ?_;symm;exact VK i0 (by assumption) (by assumption) (by assumption))
      |(refine ai ?_;exact VI i2 (by omega))
      |(have q:false=true:=(by assumption);cases q)
      |done)
  |omega
  |exact gp
  |(show aP _ _=true;kernel_rfl)
  |exact bM
  |exact bj i2 (Qk (by assumption) (by omega))
  |exact bj i2 (Ql (by assumption) (by assumption))
  |done):p:=h
theorem aaH {p:Prop}(h:p:=by
 intro O r F hO hr hF;cbv
 repeat' first|apply And.intro|(apply bD<;>intro hb<;>cbv)
 all_goals(subst hO hr hF;(try simp only[nc]at*);(try simp only[ah,SS,sa,az]at*))
 all_goals(try have hs:=KY.1 (by assumption:slB b i=true))
 all_goals(try have hw:=Hc hs.2.1 hs.2.2)
 all_goals(try simp only[hw]at*)
 all_goals first
  | (show(_:List DV)=_
     first
      |(refine dZ ?_;unfold woN;rw[show slB b i=false from(by assumption)];exact rfl)
      |(refine dZ ?_;unfold woN;rw[if_pos (by assumption:slB b i=true)])
      |done)
  |omega
  |exact gp
  |(show aP _ _=true;kernel_rfl)
  |exact⟨True.intro,True.intro⟩
  |exact True.intro
  |done):p:=h
theorem aaJ {p:Prop}(h:p:=by
 (subst hO hr hF;(try simp only[nc]at*);(try simp only[ah,SS,sa,az]at*))
 try rw[di (by omega) (by omega)]
 first|omega|exact gp|exact bM|contradiction|exact ai (Ur (by assumption)).symm|exact ai (Us (by omega)).symm|exact ai (Ut i0 (by omega) (by omega)).symm|exact ai (Mf i0 (by omega) k0 (by omega) (.inl (by assumption))).symm|exact ai (Mf i0 (by omega) k0 (by omega) (.inr ⟨by assumption,by assumption⟩)).symm|exact ai (Mg (by assumption) (by omega) i2 (by omega)).symm|exact bj i2 (RB (by omega) k2 (by omega))|exact bj k2 (Re (by assumption) (by first|exact .inl (by assumption)|exact .inr (by assumption)))|trace_state):p:=h
theorem aaK {p:Prop}(h:p:=by
 intro O r F hO hr hF;cbv
 repeat' first|apply And.intro|(apply bD<;>intro hb<;>cbv)
 all_goals(subst hO hr hF;(try simp only[nc]at*);(try simp only[ah,SS,sa,az]at*))
 all_goals first
  | (show(_:List DV)=_
     first
      |(have q:=acJ (p:=p) (k:=k) (b:=b) (x:=s) (by assumption);rw[q.1,q.2];exact rfl)
      |(have q:=acK (p:=p) (k:=k) (b:=b) (x:=s) (by assumption);rw[q.1,q.2];exact rfl)
      |(have q:=aag (p:=p) (k:=k) (b:=b) (x:=s) (by assumption) (by assumption);rw[q.1,q.2];exact rfl)
      |done)
  |omega
  |exact gp
  |(show aP _ _=true;kernel_rfl)
  |exact⟨True.intro,True.intro⟩
  |exact True.intro
  |done):p:=h
theorem aaL {p:Prop}(h:p:=by
 intro O r os F hO hr hos hF;cbv
 repeat' first|apply And.intro|(apply bD<;>intro hb<;>cbv)
 all_goals((try subst hos);subst hO hr hF;(try simp only[nc]at*);(try simp only[ah,SS,sa,az]at*))
 all_goals first
  |(show(_:List DV)=_;exact rfl)
  | (show(_:List H)=_
     first
      |(have q:=abo (cs:=cs) (us:=us) (es:=es) (f:=f) (by assumption);first|(rw[q.1,q.2,Kq wc f0 f1,aas wu f0 (by omega)];done)|(rw[q.1,q.2,Kq wc f0 f1,aas wu f0 (by omega)];exact rfl))
      |(have q:=abp (cs:=cs) (us:=us) (es:=es) (f:=f) (by assumption);first|(rw[q.1,q.2];done)|(rw[q.1,q.2];exact rfl))
      |done)
  |omega
  |exact⟨we,el⟩
  |(show aP _ _=true;kernel_rfl)
  |exact acL wu f0 (by omega)
  |exact Dv wc f0 f1
  |exact⟨True.intro,True.intro⟩
  |exact True.intro
  |done):p:=h
theorem aaM {p:Prop}(h:p:=by
 intro O r F hO hr hF;cbv
 repeat' first|apply And.intro|(apply bD<;>intro hb<;>cbv)
 all_goals(subst hO hr hF;(try simp only[nc]at*);(try simp only[ah,SS,sa,az]at*))
 all_goals first
  | (show(_:List DV)=_
     first
      |exact ai (Xa (by assumption)).symm
      |exact ai (Xb (by assumption)).symm
      |exact ai (Xc (by assumption)).symm
      |exact ai (Xd (by assumption)).symm
      |done)
  | (show(_:List H)=_
     first
      |done)
  |omega
  |exact gp
  |exact hp
  |(show aP _ _=true;kernel_rfl)
  |exact⟨True.intro,True.intro⟩
  |exact True.intro
  |done):p:=h
theorem V9 {p:Prop}(h:p:=by
 try have hct:=dq (es:=es) (n:=i.toNat) (by omega);rw[he]at hct;simp only[cS,fQ,Nat.add_zero,Nat.zero_add]at hct
 have hle1:=bS (es:=es) (n:=i.toNat+1)
 have hcE:ak es=es.length+bK es:=rfl
 first|omega|exact oG hwf g0 hlt|trivial|(refine⟨trivial,hr0,?_⟩;simp only[aQ,ak,Nat.add_zero];omega)|trace_state):p:=h
theorem aaN {p:Prop}(h:p:=by
 (subst hO hr hF;(try simp only[nc]at*);(try simp only[ah,SS,sa,az]at*))
 try rw[di (by omega) (by omega)]
 try(have hpl:=E2 (es:=es) (f:=f) (n:=i.toNat);rw[<-i2]at hpl)
 first|omega|exact gp|(exact⟨trivial,trivial⟩)|rfl|(simp only[List.length_cons,List.length_nil];omega)|(rw[Qb i0 (by assumption) (by assumption), <-i2])|(rw[NH i0 (.inl (by assumption)), <-i2])|(rw[NH i0 (.inr (by assumption)), <-i2])|exact Ir (by rw[i2,show i.toNat=es.length from by omega];rfl)|trace_state):p:=h
theorem aaO {p:Prop}(h:p:=by
 intro O r F hO hr hF;cbv
 repeat' first|apply And.intro|(apply bD<;>intro hb<;>cbv)
 all_goals(subst hO hr hF;(try simp only[nc]at*);(try simp only[ah,SS,sa,az]at*))
 all_goals(try simp only[hsb]at*)
 all_goals(try simp only[bP,AR]at*)
 all_goals first|exact Q1 (JY (by omega)).1.symm (JY (by omega)).2.symm|exact Q1 (NF (by omega)).1.symm (NF (by omega)).2.symm|exact gp|trace_state):p:=h
theorem aaP {p:Prop}(h:p:=by
 intro O r F hO hr hF;cbv
 repeat' first|apply And.intro|(apply bD<;>intro hb<;>cbv)
 all_goals(subst hO hr hF;(try simp only[nc]at*);(try simp only[ah,SS,sa,az]at*))
 all_goals(try simp only[jL,List.cons_append,List.nil_append]at*)
 all_goals first|trivial|(exfalso;omega)|(obtain⟨x,y1,y2,y3⟩:=e0;exact⟨x,y1,y2,y3,by omega,by omega⟩)|(obtain⟨x,y1,y2,y3⟩:=e1;exact⟨x,y1,y2,y3,by omega,by omega⟩)|(refine⟨by assumption,by omega,by omega⟩)|(refine⟨by assumption,by assumption,by omega,by omega⟩)|trace_state):p:=h
theorem aaQ {p:Prop}(h:p:=by
 intro O r F hO hr hF;cbv
 repeat' first|apply And.intro|(apply bD<;>intro hb<;>cbv)
 all_goals(subst hO hr hF;(try simp only[nc]at*);(try simp only[ah,SS,sa,az]at*))
 all_goals try(have hs:=KY.1 (‹slB b i=true›);have hw:=Hc hs.2.1 hs.2.2;simp only[hw]at*)
 all_goals first
  | (show(_:List DV)=_
     first
      |exact ai (MB (by assumption)).symm
      |(refine ai (gY ?_);unfold hsB;rw[show slB b i=true from by assumption,Bool.true_and,decide_eq_true_eq];simp only[SS])
      |done)
  |omega
  |trace_state):p:=h
theorem aaR {p:Prop}(h:p:=by
 intro O r F hO hr hF;cbv
 repeat' first|apply And.intro|(apply bD<;>intro hb<;>cbv)
 all_goals(subst hO hr hF;(try simp only[nc]at*);(try simp only[ah,SS,sa,az]at*))
 all_goals(try simp only[hsb]at*)
 all_goals first
  | (show(_:List DV)=_
     first
      |exact ai (Yc (by assumption)).symm
      |exact ai (Yd (by assumption)).symm
      |exact ai (Ye (by assumption)).symm
      |exact ai (Yf (by assumption)).symm
      |done)
  |exact hp
  |(show aP _ _=true;kernel_rfl)
  |exact True.intro
  |done):p:=h
theorem aaS {p:Prop}(h:p:=by
 (subst hO hr hF;(try simp only[nc]at*);(try simp only[ah,SS,sa,az]at*))
 try rw[di (by omega) (by omega)]
 first|omega|exact gp|exact bM|contradiction|exact ai (Oq i2 (by omega)).symm|(simp only[bP,AR]at*;first|exact ai (aao i0 (by omega) (by omega)).symm|exact bj i2 (Tf (by omega)))|trace_state):p:=h
theorem aaT {p:Prop}(h:p:=by
 (subst hO hr hF;(try simp only[nc]at*);(try simp only[ah,SS,sa,az]at*))
 try rw[di (by omega) (by omega)]
 first|(show(_:List DV)=_;exact dZ (VE i2 i1 (by omega)))|omega|exact gp|exact ab8|exact ZD i2 i0 (by omega)|done):p:=h
theorem aaU {p:Prop}(h:p:=by
 intro O r F hO hr hF;cbv
 repeat' first|apply And.intro|(apply bD<;>intro hb<;>cbv)
 all_goals(subst hO hr hF;(try simp only[nc]at*);(try simp only[ah,SS,sa,az]at*))
 all_goals(try have t:=bP.1 hb)
 all_goals(try have z:bR .sub .i64 n l=n-l:=dD (by omega))
 all_goals(try simp only[z]at*)
 all_goals first|(show(_:List DV)=_;refine ai ?_;unfold rngIn;simp[hb];done)|done):p:=h
theorem aaV {p:Prop}(h:p:=by
 (try simp only[bP,AR]at*)
 (try rw[di (by omega) (by omega)])
 first|trivial|omega|exact Ri (by omega) (by assumption) (by omega)|(have:=Ri (k:=k) (s:=s) (by omega) (by assumption) (by omega);omega)|exact dZ (Xe (by omega)).symm|exact dZ (T7 (by omega) (by assumption) (by omega) (by assumption)).symm|exact .inl trivial|(rw[show k+1-1=k by omega];exact .inr (by assumption))|trace_state):p:=h
theorem Wa {p:Prop}(h:p:=by
 intro O r F hO hr hF;cbv
 repeat' first|apply And.intro|(apply bD<;>intro hb<;>cbv)
 all_goals(subst hO hr hF;(try simp only[nc]at*);(try simp only[ah,SS,sa,az]at*))
 all_goals first|exact rfl|done):p:=h
theorem aaW {p:Prop}(h:p:=by
 intro O r F hO hr hF;cbv
 repeat' first|apply And.intro|(apply bD<;>intro hb<;>cbv)
 all_goals(subst hO hr hF;(try simp only[nc]at*);(try simp only[ah,SS,sa,az]at*))
 all_goals first
  | (show(_:List DV)=_
     first
      |exact Ir (Me (by assumption)).symm
      |exact Ir (Ji (by assumption)).symm
      |done)
  |exact⟨hw,hn⟩
  |exact hw
  |exact⟨True.intro,True.intro⟩
  |trace_state):p:=h
theorem aaX {p:Prop}(h:p:=by
 intro O r F hO hr hF;cbv
 repeat' first|apply And.intro|(apply bD<;>intro hb<;>cbv)
 all_goals(subst hO hr hF;(try simp only[nc]at*);(try simp only[ah,SS,sa,az]at*))
 all_goals first
  | (show(_:List DV)=_
     first
      |exact ai (by unfold slB;rw[decide_eq_true (by assumption)];rfl)
      |exact ai (by unfold slB;rw[decide_eq_false (by omega)];rfl)
      |done)
  |trace_state):p:=h
theorem aaY {p:Prop}(h:p:=by
 intro O r F hO hr hF;cbv
 repeat' first|apply And.intro|(apply bD<;>intro hb<;>cbv)
 all_goals(subst hO hr hF;(try simp only[nc]at*);(try simp only[ah,SS,sa,az]at*))
 all_goals first|(show aP _ _=true;kernel_rfl)|exact hs|exact⟨hc,hu,he,hn,hm,hk⟩|exact⟨hr,by omega⟩|exact⟨trivial,trivial⟩|trivial|(simp only[List.length_nil];omega)|exact rfl|done):p:=h
theorem aaZ {p:Prop}(h:p:=by
 intro O r F hO hr hF;cbv
 repeat' first|apply And.intro|(apply bD<;>intro hb<;>cbv)
 all_goals(subst hO hr hF;(try simp only[nc]at*);(try simp only[ah,SS,sa,az]at*))
 all_goals first|(show(_:List DV)=_;refine ai ?_;unfold mshB;simp[*];done)|(show(_:List DV)=_;refine ai ?_;unfold mshB;subst_vars;rw[cmp_eq];simp[*];done)|done):p:=h
theorem aa0 {p:Prop}(h:p:=by
 intro O r F hO hr hF;cbv
 repeat' first|apply And.intro|(apply bD<;>intro hb<;>cbv)
 all_goals(subst hO hr hF;(try simp only[nc]at*);(try simp only[ah,SS,sa,az]at*))
 all_goals iterate 1 (try simp(disch:=assumption) only[nI,List.cons_append,List.nil_append]at*)
 all_goals first|trivial|(rw[mS (by assumption)])|trace_state):p:=h
theorem aa1 {p:Prop}(h:p:=by
 intro O r F hO hr hF;cbv
 repeat' first|apply And.intro|(apply bD<;>intro hb<;>cbv)
 all_goals(subst hO hr hF;(try simp only[nc]at*);(try simp only[ah,SS,sa,az]at*))
 all_goals iterate 2 (try simp(disch:=assumption) only[nI,List.cons_append,List.nil_append]at*)
 all_goals first|trivial|(rw[mS (by assumption)])|trace_state):p:=h
theorem aa2 {p:Prop}(h:p:=by
 intro O r F hO hr hF;cbv
 repeat' first|apply And.intro|(apply bD<;>intro hb<;>cbv)
 all_goals(subst hO hr hF;(try simp only[nc]at*);(try simp only[ah,SS,sa,az]at*))
 all_goals first|(show aP _ _=true;kernel_rfl)|exact⟨hc,hu,hn,hm⟩|exact⟨he,by omega⟩|exact⟨trivial,trivial⟩|trivial|exact rfl|trace_state):p:=h
theorem aa3 {p:Prop}(h:p:=by
 intro O r F hO hr hF;cbv
 repeat' first|apply And.intro|(apply bD<;>intro hb<;>cbv)
 all_goals(subst hO hr hF;(try simp only[nc]at*);(try simp only[ah,SS,sa,az]at*))
 all_goals first
  | (show(_:List DV)=_
     first
      |exact dZ (Vy (by assumption))
      |exact dZ (SA (by assumption)).symm
      |done)
  |omega
  |done):p:=h
theorem Wb {p:Prop}(h:p:=by
 (subst hO hr hF;(try simp only[nc]at*);(try simp only[ah,SS,sa,az]at*))
 (try simp only[hs]at*)
 first|trivial|(rw[hn,if_pos (by omega)])|trace_state):p:=h
theorem aa4 {p:Prop}(h:p:=by
 intro O r F hO hr hF;cbv
 repeat' first|apply And.intro|(apply bD<;>intro hb<;>cbv)
 all_goals(subst hO hr hF;(try simp only[nc]at*);(try simp only[ah,SS,sa,az]at*))
 all_goals first
  | (show(_:List DV)=_
     first
      |exact dZ (YJ (by assumption))
      |exact dZ (YK (by assumption)).symm
      |done)
  |done):p:=h
theorem aa5 {p:Prop}(h:p:=by
 intro O r F hO hr hF;cbv
 repeat' first|apply And.intro|(apply bD<;>intro hb<;>cbv)
 all_goals(subst hO hr hF;(try simp only[nc]at*);(try simp only[ah,SS,sa,az]at*))
 all_goals first
  | (show(_:List DV)=_
     first
      |exact ai (gY (by unfold eqB;simp only[SS,decide_eq_true_eq]))
      |done)
  |done):p:=h
theorem aa6 {p:Prop}(h:p:=by
 intro O r F hO hr hF;cbv
 repeat' first|apply And.intro|(apply bD<;>intro hb<;>cbv)
 all_goals(subst hO hr hF;(try simp only[nc]at*);(try simp only[ah,SS,sa,az]at*))
 all_goals first|trivial|(refine⟨trivial,by assumption,?_⟩;(try simp only[aQ,Nat.add_zero]);omega)|trace_state):p:=h
theorem aa7 {p:Prop}(h:p:=by
 intro O r F hO hr hF;cbv
 repeat' first|apply And.intro|(apply bD<;>intro hb<;>cbv)
 all_goals(subst hO hr hF;(try simp only[nc]at*);(try simp only[ah,SS,sa,az]at*))
 all_goals first|trivial|(refine⟨by assumption,?_⟩;(try simp only[aQ,Nat.add_zero]);omega)|trace_state):p:=h
theorem aa8 {p:Prop}(h:p:=by
 intro O r F hO hr hF;cbv
 repeat' first|apply And.intro|(apply bD<;>intro hb<;>cbv)
 all_goals(subst hO hr hF;(try simp only[nc]at*);(try simp only[ah,SS,sa,az]at*))
 all_goals first|exact hp|(show(_:List DV)=_;refine ai ?_;unfold jbOk;simp[*];done)|done):p:=h
theorem aa9 {p:Prop}(h:p:=by
 first|trivial|(refine⟨by assumption,by omega,by first|omega|exact Int.le_trans (Bv (by assumption)) h1⟩)|(rw[mS (by assumption)])|exact congrArg (fun x=>[DV.one (L.v (Value.int IntKind.i64 x))]) (gJ (a:=[a0]) (b:=[a1]) (by assumption)).symm|trace_state):p:=h
theorem aba {p:Prop}(h:p:=by
 intro O r F hO hr hF;cbv
 repeat' first|apply And.intro|(apply bD<;>intro hb<;>cbv)
 all_goals(subst hO hr hF;(try simp only[nc]at*);(try simp only[ah,SS,sa,az]at*))
 all_goals first|exact hp|exact rfl|done):p:=h
theorem abb {p:Prop}(h:p:=by
 repeat' first|apply And.intro|(apply bD<;>intro hb<;>cbv)
 all_goals(subst hO hr hF;(try simp only[nc]at*);(try simp only[ah,SS,sa,az]at*))
 all_goals first|trivial|exact rfl):p:=h
theorem abc {p:Prop}(h:p:=by
 first|exact dZ (Xn (by assumption)).symm|(refine dZ ?_;rw[Rh (by assumption)])|(rw[bP]at*;omega)|trace_state):p:=h
theorem gp {p:Prop}(h:p:=by
 refine⟨by omega,by omega,(Rw.eta (by first|assumption|exact Rw.sub (by first|assumption|exact Rw.sub (by assumption) (by omega) rfl) (by omega) rfl) (by omega) (by omega)).trans ?_⟩;rfl):p:=h
end Go.V