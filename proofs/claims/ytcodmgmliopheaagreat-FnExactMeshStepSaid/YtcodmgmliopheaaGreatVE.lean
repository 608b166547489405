/-
  A condition generator for functions on trees of data, part 5 of 5: values in memory, contracts, soundness.
-/
import Derived.Test.YtcodmgmliopheaaGreatVD
set_option linter.all false
open Go
open Bool renaming and_eq_true->AI
open Code renaming wp_mono->Xq
open Ending renaming returned->X5
open Int renaming ofNat->Zz,le_refl->XL,natCast_nonneg->YP
open List renaming range'->XV,ext_getElem?->V8,getElem?_map->VZ,getElem?_range'->Yx,getD->Wm,getElem?_eq_none->Wb,mem_append->BY,all_eq_true->WX,mem_of_getElem?->VM,getElem?_eq_some_iff->IT,range->VW,getElem?_eq_getElem->IN,getElem?_of_mem->W6,getD_eq_getElem?_getD->If,length_take->VK,getElem?_append_right->VY,drop_eq_getElem_cons->XA,take_append_drop->V2,all_cons->Zj
open Nat renaming beq->WR,ble->Yj,le_of_ble_eq_true->W1,lt_or_ge->WM,add_assoc->Xp,le_trans->Xe,mul_le_mul_left->Xt,mul_add->Zu
open Option renaming map_some->WA,getD_some->Wk
namespace Go.V
def xY {α:Type}(pr:(Unit->Prop)->Prop)(r:Nat):Nat->List H->(List H->Rd α)->Rd α
 |_,[],k=>k []
 | j,h0::hs,k=>ez r j fun h=>match h.c with
   | .own l=>xY pr r (j+1) hs fun cs=>k (.own l::cs)
   | .ro l=>match h0 with
     | .ro l0=>match h.org with
       |some i=>if WR i (r*1000+j)then .req (pr fun _=>l=l0) (xY pr r (j+1) hs fun cs=>k (.ro l0::cs))else .fail
       |none=>.fail
     |_=>.fail
   | .gone=>.fail
def GB {α:Type}(pr:(Unit->Prop)->Prop)(os:Nat->List H):List (Nat×List H)->Nat->Rd α->Rd α
 |[],_,k=>k
 |(r,hs)::m,i,k=>xY pr r 0 hs fun cs=>.req (pr fun _=>cs=os i) (GB pr os m (i+1) k)
def D7 (T:wd)(O:yl)(ts:List TypeId)(rvs:List ResultVar)(m:List (Nat×List H))(σ:VS)(res:List DV)(os:Nat->List H):Prop:=
 (vC T O ts rvs fun ds srcs=>if aZ srcs&&srcs.all (fun s=>m.all fun q=> !(s.1.beq q.1))then .req (O.pr fun _=>ds=res) (GB O.pr os m 0 (.ret ()))else .fail).wpU (get σ) [] fun _ _=>True
def Lx (T:wd)(O:yl)(ts:List TypeId)(rvs:List ResultVar)(m:List (Nat×List H))(res:List DV)(os:Nat->List H):Ex->VS->Prop
 | .normal,σ=>D7 T O ts rvs m σ res os
 | .ret,σ=>D7 T O ts rvs m σ res os
 | .exit _,_=>False
section
variable {P : Program} {T : wd} {cx : Cx} {G : Gh} {g : Gm} {a : Act} {w : World}
theorem H0 (fz:List (Nat×List Nat))(hT:bp P T){Φ:Type}{F0:Φ}{ctF:Φ->CT}{mtF:Φ->MT}{ptF:Φ->PT}{ntF:Φ->NT}{otF:Φ->OT}(hct:yh P (ctF F0))(hmt:Ag P (mtF F0))(hpt:Ah P (ptF F0))(hnw:BF P (ntF F0))(hot:BG P (otF F0))(hm:P.follows .mixedOrders=true){f:FuncId}{fn:Func}{ds res:List DV}(n:Nat)(c:Code)(ts:List TypeId)(rvs:List ResultVar) 
 (hf:P.funcs[f]?=some fn) (hb:fn.body=some c) (hnt:fn.ntmps=n) (hts:fn.resultTypes.toList=ts) (hrv:fn.results.toList=rvs) (hn:Yj ds.length n=true)
 (h:∀ O r F,O=ah->r=res->F=F0->j6 T O ⟨ctF F,mtF F,ptF F,ntF F,otF F⟩ n [] fz c (H3 T O ts rvs r) (fR 0 ds)):EO P f ds res:=by
 subst hnt hts hrv;replace h:=h ah res F0 rfl rfl rfl;replace hn:=W1 hn;intro w vs hargs;refine calls_of_wp hf hb ?_;refine Xq ?_ (cv (fz:=fz) (cx:=⟨fn.ntmps,w,fun _=>True,fun _=>undef,fun _=>none,fun _=>0,fun _=>True⟩) (fun _ _=>trivial) hT (ct:=⟨ctF F0,mtF F0,ptF F0,ntF F0,otF F0⟩) ⟨hct,hmt,hpt,hnw,hot⟩ hm rfl (an:=[]) (fun r x e=>by cases e) c _ _ _ w h (AE fn.ntmps w ds vs hargs hn));rintro e a' w' ⟨ex,σ',rfl,hq',G,hS⟩;have hq:yf T ah fn.resultTypes.toList fn.results.toList σ' res:=by
  cases ex with
  |normal=>exact hq'
  |ret=>exact hq'
  |exit i=>exact hq'.elim
 have hex:ex=.normal\/ex=.ret:=by
  cases ex with
  |normal=>exact .inl rfl
  |ret=>exact .inr rfl
  |exit i=>exact hq'.elim
 unfold yf at hq;obtain⟨ls,u,t,h1,_⟩:=Rd.wpU_runs hq;obtain⟨ds',vs',srcs,S,ls',k1,k2,k3,k4,k5⟩:=fF hS _ _ _ _ _ (gH hT (fun _ _ _ h=>h) h1);split at k5
 case isFalse=>exact k5.elim
 rename_i hd;simp only[Rd.Runs]at k5;have hres0:ds'=res:=k5.1;subst hres0;obtain⟨v,hrun,hres⟩:=lB k1 k2;have hfresh:∀ b∈S,w.heap.size<=b/\dy w' b:=by
  intro b hb;obtain⟨u,r,j,m1,m2⟩:=k4 b hb;refine⟨?_,u⟩;rcases WM b w.heap.size with hlt|hge
  ·rcases hS.frow b hlt trivial with e|e<;>rw[m2]at e<;>cases e
  ·exact hge
 have fin:a'.defers=[]/\∃ v,(results fn a'.tmps).run P w'=.ok v w'/\∃ v' S,X5 v=.returned v'/\iy w' ds' v' S/\S.Nodup/\(∀ b∈S,w.heap.size<=b/\dy w' b)/\Same (fun _=>True) w w':=
  ⟨hS.defers,_,hrun,_,S,rfl,hres,k3 hd,hfresh,hS.frame⟩
 rcases hex with rfl|rfl
 ·exact fin
 ·exact fin
theorem Is (hT:bp P T){Φ:Type}{F0:Φ}{ctF:Φ->CT}{mtF:Φ->MT}{ptF:Φ->PT}{ntF:Φ->NT}{otF:Φ->OT}(hct:yh P (ctF F0))(hmt:Ag P (mtF F0))(hpt:Ah P (ptF F0))(hnw:BF P (ntF F0))(hot:BG P (otF F0))(hm:P.follows .mixedOrders=true){f:FuncId}{fn:Func}{ds res:List DV}{outs:ay}(n:Nat)(c:Code)(ts:List TypeId)(rvs:List ResultVar)(locs:List (Nat×Nat)) 
 (hf:P.funcs[f]?=some fn) (hb:fn.body=some c) (hnt:fn.ntmps=n) (hts:fn.resultTypes.toList=ts) (hrv:fn.results.toList=rvs) (hn:Yj ds.length n=true) (hlo:(ds.flatMap fun d=>slL (aT d)).length=outs.length) (hlo2:locs.length=outs.length)
 (h:∀ O r os F,O=ah->r=res->os=(fun i=>outs.getD i .g)->F=F0->j6 T O ⟨ctF F,mtF F,ptF F,ntF F,otF F⟩ n [] [] c (Oq T O ts rvs locs r os) (Db O ds)):Af P f ds outs res:=by
 subst hnt hts hrv;replace h:=h ah res _ F0 rfl rfl rfl rfl;replace hn:=W1 hn;intro w vs S hr hnd hunf;refine calls_of_wp hf hb ?_;refine Xq ?_ (cv (fz:=[]) (cx:=⟨fn.ntmps,w,fun b=>b∉S,fun i=>(cA ds vs).getD i undef,fun _=>none,fun _=>0,fun _=>True⟩) (fun q=>absurd rfl q) hT (ct:=⟨ctF F0,mtF F0,ptF F0,ntF F0,otF F0⟩) ⟨hct,hmt,hpt,hnw,hot⟩ hm rfl (an:=[]) (fun r x e=>by cases e) c _ _ _ w h (Eg fn.ntmps w ds vs S hr hnd hunf hn));rintro e a' w' ⟨ex,σ',rfl,hq',G,hS⟩;have hq:D6 T ah fn.resultTypes.toList fn.results.toList locs σ' res (fun i=>outs.getD i .g):=by
  cases ex with
  |normal=>exact hq'
  |ret=>exact hq'
  |exit i=>exact hq'.elim
 have hex:ex=.normal\/ex=.ret:=by
  cases ex with
  |normal=>exact .inl rfl
  |ret=>exact .inr rfl
  |exit i=>exact hq'.elim
 unfold D6 at hq;obtain⟨ls,u,t,h1,_⟩:=Rd.wpU_runs hq;obtain⟨ds',vs',srcs,Sr,ls',k1,k2,k3,k4,k5⟩:=fF hS _ _ _ _ _ (gH hT (fun _ _ _ h=>h) h1);split at k5
 case isFalse=>exact k5.elim
 rename_i hd;obtain⟨hres0,k5⟩:=k5;have hres0:ds'=res:=hres0;subst hres0;obtain⟨d1,d2,d3⟩:=cu hd;obtain⟨o1,o2⟩:=qx hS locs 0 _ _ k5;rw[hlo2]at o2;have houts:(XV 0 outs.length).map (fun i=>outs.getD i .g)=outs:=by
  apply V8;intro i;rw[VZ];by_cases c:i<outs.length
  ·rw[Yx c];simp[Wm,c]
  ·rw[Wb (by simp;omega),Wb (by omega)];rfl
 rw[houts]at o2;obtain⟨f1,f2⟩:=qk hS d2 o1;have hanc:(XV 0 outs.length).map (fun i=>(cA ds vs).getD i undef)=cA ds vs:=by
  have hl:=kh hr;rw[hlo]at hl;rw[<-hl];apply V8;intro i;rw[VZ];by_cases c:i<(cA ds vs).length
  ·rw[Yx c];simp[Wm,c]
  ·rw[Wb (by simp;omega),Wb (by omega)];rfl
 have o2:ak w' outs (cA ds vs) (iH G locs):=by rw[<-hanc];exact o2
 obtain⟨v,hrun,hres⟩:=lB k1 k2;have tokL:∀ b∈iH G locs,dy w' b/\∃ r j,(r,j)∈locs/\G.ow b=some (.leaf r j):=by
  intro b hb;obtain⟨p,hp,hbp⟩:=xL hb;obtain⟨h,sz,es,e1,e2⟩:=o1 p hp;have:=hS.hok (av.2 e1);simp only[cR,e2]at this;exact⟨(this.2.2 b hbp).2,p.1,p.2,hp,(this.2.2 b hbp).1⟩
 have own:∀ b r j,dy w' b->G.ow b=some (.leaf r j)->dy w' b/\(w.heap.size<=b\/b∈S):=by
  intro b r j hu ht;refine⟨hu,?_⟩;rcases WM b w.heap.size with hlt|hge
  ·by_cases c:b∈S
   ·exact .inr c
   ·rcases hS.frow b hlt c with e|e<;>rw[ht]at e<;>cases e
  ·exact .inl hge
 have fin:a'.defers=[]/\∃ v,(results fn a'.tmps).run P w'=.ok v w'/\∃ v' Sr S',X5 v=.returned v'/\iy w' ds' v' Sr/\ak w' outs (cA ds vs) S'/\(Sr++S').Nodup/\(∀ b∈Sr++S',dy w' b/\(w.heap.size<=b\/b∈S))/\Same (fun b=>b∉S) w w':=by
  refine⟨hS.defers,_,hrun,_,Sr,iH G locs,rfl,hres,o2,?_,?_,hS.frame⟩
  ·refine List.nodup_append.2 ⟨k3 d1,f1,fun x hx y hy e=>?_⟩;subst e;obtain⟨_,r,j,m1,m2⟩:=k4 x hx;obtain⟨_,r',j',m3,m4⟩:=tokL x hy;rw[m2]at m4;cases m4;exact d3 _ m1 m3
  ·intro b hb;rcases BY.1 hb with q|q
   ·obtain⟨hu,r,j,_,m2⟩:=k4 b q;exact own b r j hu m2
   ·obtain⟨hu,r,j,_,m2⟩:=tokL b q;exact own b r j hu m2
 rcases hex with rfl|rfl
 ·exact fin
 ·exact fin
theorem kL {α:Type}{r:Nat}:∀ (hs:List H) (j:Nat) (k:List H->Rd α) (ls:List Loc) (out:α),(xY iW r j hs k).Runs g ls out->
 ∃ cs ls',(k cs).Runs g ls' out/\cs.length=hs.length/\∀ (i:Nat) c,cs[i]?=some c->∃ hv,g (.leaf r (j+i))=some (.h hv)/\hv.c=c/\(match c with
  | .own _=>True
  | .ro l=>hs[i]?=some (.ro l)/\hv.org=some (r*1000+(j+i))
  | .gone=>False)
 |[],j,k,ls,out,h=>⟨[],ls,h,rfl,fun i c e=>by simp at e⟩
 | h0::hs,j,k,ls,out,h=>by
   obtain⟨hv,ls2,_,q2,hk⟩:=ba (k:=fun hh=>match hh.c with
    | .own l=>xY iW r (j+1) hs fun cs=>k (.own l::cs)
    | .ro l=>match(generalizing:=false) h0 with
      | .ro l0=>match hh.org with
        |some i=>if WR i (r*1000+j)then .req (iW fun _=>l=l0) (xY iW r (j+1) hs fun cs=>k (.ro l0::cs))else .fail
        |none=>.fail
      |_=>.fail
    | .gone=>.fail) h
   cases hc:hv.c with
   |gone=>simp[hc,Rd.Runs]at hk
   | own l=>
     simp only[hc]at hk;obtain⟨cs,ls3,e1,e2,e3⟩:=kL hs (j+1) _ _ _ hk;refine⟨_,ls3,e1,by simp[e2],fun i c e=>?_⟩;cases i with
     |zero=>simp at e;subst e;exact⟨hv,q2,hc,trivial⟩
     | succ i=>
       simp at e;obtain⟨hv',k1,k2,k3⟩:=e3 i c e;refine⟨hv',by rw[show j+(i+1)=j+1+i from by omega];exact k1,k2,?_⟩;cases c with
       |own l=>trivial
       |ro l=>exact⟨by simpa using k3.1,by rw[show j+(i+1)=j+1+i from by omega];exact k3.2⟩
       |gone=>exact k3
   | ro l=>
     simp only[hc]at hk;cases h0 with
     |own l0=>exact hk.elim
     |gone=>exact hk.elim
     | ro l0=>
       simp only at hk;cases ho:hv.org with
       |none=>simp[ho,Rd.Runs]at hk
       | some i0=>
         simp only[ho]at hk;split at hk
         ·rename_i hb;have hi:=Nat.eq_of_beq_eq_true hb;obtain⟨hl,hk⟩:=hk;have hl:l=l0:=hl;subst hl hi;obtain⟨cs,ls3,e1,e2,e3⟩:=kL hs (j+1) _ _ _ hk;refine⟨_,ls3,e1,by simp[e2],fun i c e=>?_⟩;cases i with
          |zero=>simp at e;subst e;exact⟨hv,q2,hc,by simp,ho⟩
          | succ i=>
            simp at e;obtain⟨hv',k1,k2,k3⟩:=e3 i c e;refine⟨hv',by rw[show j+(i+1)=j+1+i from by omega];exact k1,k2,?_⟩;cases c with
            |own l=>trivial
            |ro l=>exact⟨by simpa using k3.1,by rw[show j+(i+1)=j+1+i from by omega];exact k3.2⟩
            |gone=>exact k3
         ·exact hk.elim
theorem qv {α:Type}{os:Nat->List H}:∀ (m:List (Nat×List H)) (i:Nat) (k:Rd α) (ls:List Loc) (out:α),(GB iW os m i k).Runs g ls out->
 ∀ (n r:Nat) hs,m[n]?=some (r,hs)->(os (i+n)).length=hs.length/\∀ (j:Nat) c,(os (i+n))[j]?=some c->∃ hv,g (.leaf r j)=some (.h hv)/\hv.c=c/\(match c with
  | .own _=>True
  | .ro l=>hs[j]?=some (.ro l)/\hv.org=some (r*1000+j)
  | .gone=>False)
 |[],i,k,ls,out,h=>fun n r hs e=>by simp at e
 | (r0,hs0)::m,i,k,ls,out,h=>by
  obtain⟨cs,ls2,h1,h2,h3⟩:=kL _ _ _ _ _ h;obtain⟨he,h1⟩:=h1;have he:cs=os i:=he;intro n r hs e;cases n with
  | zero=>
    simp at e;obtain⟨rfl,rfl⟩:=e;rw[Nat.add_zero, <-he];refine⟨h2,fun j c hc=>?_⟩;have:=h3 j c hc
    simpa using this
  | succ n=>
    simp at e;have:=qv m (i+1) k _ _ h1 n r hs e;rw[show i+(n+1)=i+1+n from by omega];exact this
theorem kK {w:World}{ok:Nat->Prop}:∀ {ds:List DV} {vs:List Value} {ps:List dX} {p k:Nat} {q:dX},eg w ok ds vs ps->ps[k]?=some q->∃ r,(mpL p ds)[k]?=some (r,q.hs)
 |[],vs,ps,p,k,q,h,e=>by simp only[eg]at h;rw[h.2]at e;simp at e
 | d::ds,vs,ps,p,k,q,h,e=>by
   cases d with
   | mp hs=>
     obtain⟨p0,ps',vs',rfl,rfl,e0,h⟩:=h;cases k with
     |zero=>simp at e;subst e;exact⟨p,by simp[mpL,e0]⟩
     |succ k=>simp at e;obtain⟨r,hr⟩:=kK (p:=p+1) h e;exact⟨r,by simpa[mpL]using hr⟩
   |one l=>obtain⟨v,vs',S,rfl,_,_,h⟩:=h;exact kK (p:=p+1) h e
   |agg l=>obtain⟨v,vs',S,rfl,_,_,h⟩:=h;exact kK (p:=p+1) h e
   |ptr l=>obtain⟨v,vs',S,rfl,_,_,h⟩:=h;exact kK (p:=p+1) h e
   |fn f l=>obtain⟨v,vs',S,rfl,_,_,h⟩:=h;exact kK (p:=p+1) h e
open Classical in
theorem AV (al:Bool)(hT:bp P T){Φ:Type}{F0:Φ}{ctF:Φ->CT}{mtF:Φ->MT}{ptF:Φ->PT}{ntF:Φ->NT}{otF:Φ->OT}(hct:yh P (ctF F0))(hmt:Ag P (mtF F0))(hpt:Ah P (ptF F0))(hnw:BF P (ntF F0))(hot:BG P (otF F0))(hm:P.follows .mixedOrders=true){f:FuncId}{fn:Func}{ds res:List DV}{outs:List (List H)}(n:Nat)(c:Code)(ts:List TypeId)(rvs:List ResultVar) 
 (hf:P.funcs[f]?=some fn) (hb:fn.body=some c) (hnt:fn.ntmps=n) (hts:fn.resultTypes.toList=ts) (hrv:fn.results.toList=rvs) (hn:Yj ds.length n=true) (hlo:(mpL 0 ds).length=outs.length) (hl0:(mpL 0 ds).all (fun q=>q.2.length.ble 999)=true) (hl1:al=true->(mpL 0 ds).all (fun q=>q.1.ble 999)=true)
 (h:∀ O r os F,O=ah->r=res->os=(fun i=>outs.getD i [])->F=F0->j6 T O ⟨ctF F,mtF F,ptF F,ntF F,otF F⟩ n ((mpL 0 ds).map (·.1)) [] c (Lx T O ts rvs (mpL 0 ds) r os) (dI al 0 ds)):ym P f ds outs res:=by
 subst hnt hts hrv;replace h:=h ah res _ F0 rfl rfl rfl rfl;replace hn:=W1 hn;intro w vs ps hpre;have ix:=fun {r q}=>mw (p:=0) (r:=r) (q:=q) hpre.args
 have hlt:∀ {r q},eN 0 ds ps r=some q->q.hs.length<=999:=by
  intro r q e;obtain⟨k,e1,_⟩:=ix.1 e;have:=WX.1 hl0 _ (VM e1);exact W1 this
 let anc:Nat->Value:=fun i=>((eN 0 ds ps ((match al with|true=>i%1000000000|false=>i)/1000)).map fun q=>q.val (i%1000)).getD undef
 have hlr:∀ {r q},al=true->eN 0 ds ps r=some q->r<=999:=by
  intro r q ha e;obtain⟨k,e1,_⟩:=ix.1 e;have:=WX.1 (hl1 ha) _ (VM e1);exact W1 this
 have hanc:∀ r q j l,eN 0 ds ps r=some q->q.hs[j]?=some (.ro l)->anc (r*1000+j)=q.val j:=by
  intro r q j l e e1;have h1:=(IT.1 e1).1;have h2:=hlt e;have h3:(r*1000+j)/1000=r:=by omega
  have h4:(r*1000+j)%1000=j:=by omega
  cases al with
  |false=>simp only[anc,h3,h4,e,WA,Wk]
  | true=>
    have h5:=hlr rfl e;have h6:(r*1000+j)%1000000000=r*1000+j:=by omega
    simp only[anc,h6,h3,h4,e,WA,Wk]
 have hanc2:∀ r q j l,al=true->eN 0 ds ps r=some q->q.hs[j]?=some (.own l)->anc (1000000000+(r*1000+j))=q.val j:=by
  intro r q j l ha e e1;have h1:=(IT.1 e1).1;have h2:=hlt e;have h5:=hlr ha e;subst ha;have h3:(1000000000+(r*1000+j))%1000000000/1000=r:=by omega
  have h4:(1000000000+(r*1000+j))%1000=j:=by omega
  simp only[anc,h3,h4,e,WA,Wk]
 refine calls_of_wp hf hb ?_;have hini:=Eh (al:=al) fn.ntmps w ds vs ps hpre hn anc hanc hanc2;refine Xq ?_ (cv (fz:=[]) (cx:=⟨fn.ntmps,w,fun b=>¬ hL ps b/\¬ lN ps b,anc,fun r=>(eN 0 ds ps r).map fun(q:dX)=>(q.b,q.off),fun r=>((eN 0 ds ps r).map fun(q:dX)=>q.hs.length).getD 0,fun _=>True⟩) (fun q=>absurd rfl q) hT (ct:=⟨ctF F0,mtF F0,ptF F0,ntF F0,otF F0⟩) ⟨hct,hmt,hpt,hnw,hot⟩ hm rfl (an:=(mpL 0 ds).map (·.1)) (fun r x e=>by
  cases e0:eN 0 ds ps r with
  |none=>simp[e0]at e
  |some q=>obtain⟨k,e1,_⟩:=ix.1 e0;exact List.mem_map.2 ⟨_,VM e1,rfl⟩) c _ _ _ w h hini)
 rintro e a' w' ⟨ex,σ',rfl,hq',G,hS⟩;have hq:D7 T ah fn.resultTypes.toList fn.results.toList (mpL 0 ds) σ' res (fun i=>outs.getD i []):=by
  cases ex with
  |normal=>exact hq'
  |ret=>exact hq'
  |exit i=>exact hq'.elim
 have hex:ex=.normal\/ex=.ret:=by
  cases ex with
  |normal=>exact .inl rfl
  |ret=>exact .inr rfl
  |exit i=>exact hq'.elim
 unfold D7 at hq;obtain⟨ls,u,t,h1,_⟩:=Rd.wpU_runs hq;obtain⟨ds',vs',srcs,Sr,ls',k1,k2,k3,k4,k5⟩:=fF hS _ _ _ _ _ (gH hT (fun _ _ _ h=>h) h1);split at k5
 case isFalse=>exact k5.elim
 rename_i hd;simp only[AI]at hd;obtain⟨Ib,hd2⟩:=hd;obtain⟨hres0,k5⟩:=k5;have hres0:ds'=res:=hres0;subst hres0;have o1:=qv _ _ _ _ _ k5;obtain⟨v,hrun,hres⟩:=lB k1 k2;have plen:ps.length=outs.length:=by
  rw[<-hlo];have key:∀ {ds:List DV} {vs:List Value} {ps:List dX} {p:Nat} {ok:Nat->Prop},eg w ok ds vs ps->ps.length=(mpL p ds).length:=by
   intro ds
   induction ds with
   |nil=>intro vs ps p ok h;simp only[eg]at h;simp[h.2,mpL]
   | cons d ds ih=>
     intro vs ps p ok h;cases d with
     |mp hs=>obtain⟨p0,ps',vs',rfl,rfl,_,h⟩:=h;simp[mpL,ih (p:=p+1) h]
     |one l=>obtain⟨v,vs',S,rfl,_,_,h⟩:=h;exact ih (p:=p+1) h
     |agg l=>obtain⟨v,vs',S,rfl,_,_,h⟩:=h;exact ih (p:=p+1) h
     |ptr l=>obtain⟨v,vs',S,rfl,_,_,h⟩:=h;exact ih (p:=p+1) h
     |fn f l=>obtain⟨v,vs',S,rfl,_,_,h⟩:=h;exact ih (p:=p+1) h
  exact key hpre.args
 let pst:Nat->dX:=fun k=>
  { b:=(ps.getD k ⟨0,0,[],fun _=>undef,fun _=>[]⟩).b,off:=(ps.getD k ⟨0,0,[],fun _=>undef,fun _=>[]⟩).off,hs:=outs.getD k [],
    val:=fun j=>G.val ((mpL 0 ds).getD k (0,[])).1 j,
    fp:=fun j=>match(outs.getD k [])[j]? with
     |some (.own _)=>G.fp ((mpL 0 ds).getD k (0,[])).1 j
     |_=>(ps.getD k ⟨0,0,[],fun _=>undef,fun _=>[]⟩).fp j}
 have info:∀ (k:Nat) q',((VW ps.length).map pst)[k]?=some q'->∃ q r,ps[k]?=some q/\(mpL 0 ds)[k]?=some (r,q.hs)/\eN 0 ds ps r=some q/\q'=pst k/\q'.b=q.b/\q'.off=q.off/\outs[k]?=some q'.hs/\q'.hs.length=q.hs.length/\(∀ j,q'.val j=G.val r j)/\(∀ j l,q'.hs[j]?=some (.own l)->q'.fp j=G.fp r j)/\
  ∀ (j:Nat) c,q'.hs[j]?=some c->∃ hv,get σ' (.leaf r j)=some (.h hv)/\hv.c=c/\(match c with
   | .own _=>True
   | .ro l=>q.hs[j]?=some (.ro l)/\hv.org=some (r*1000+j)
   | .gone=>False):=by
  intro k q' e;rw[VZ,Option.map_eq_some_iff]at e;obtain⟨k',e1,rfl⟩:=e;obtain⟨hk,rfl⟩:=IT.1 e1;simp only[List.length_range]at hk;simp only[List.getElem_range];have hq:ps[k]?=some ps[k]:=IN hk;obtain⟨r,hr⟩:=kK (p:=0) hpre.args hq;have hpa:eN 0 ds ps r=some ps[k]:=ix.2 ⟨k,hr,hq⟩;have hout:outs[k]?=some outs[k]:=IN (by omega);have g1:ps.getD k ⟨0,0,[],fun _=>undef,fun _=>[]⟩=ps[k]:=by simp[Wm,hq]
  have g2:outs.getD k []=outs[k]:=by simp[Wm,hout]
  have g3:(mpL 0 ds).getD k (0,[])=(r,ps[k].hs):=by simp[Wm,hr]
  obtain⟨m1,m2⟩:=o1 k r _ hr;rw[Nat.zero_add]at m1 m2;refine⟨ps[k],r,hq,hr,hpa,trivial,by simp only[pst,g1],by simp only[pst,g1],by simp only[pst,g2];exact hout,by simp only[pst];exact m1,fun j=>by simp only[pst,g3],fun j l e=>?_,fun j c e=>?_⟩
  ·simp only[pst]at e ⊢;rw[e];simp only[g3]
  ·exact m2 j c e
 have meta_:∀ {r q},eN 0 ds ps r=some q->G.loc r=some (q.b,q.off)/\get σ' (.meta_ r)=some (.m q.hs.length true):=by
  intro r q e;have:=hS.aloc r (q.b,q.off) (by simp[e])
  simpa[e]using this
 have mem:∀ q'∈(VW ps.length).map pst,∃ k:Nat,((VW ps.length).map pst)[k]?=some q':=fun q' hq=>by
  obtain⟨k,hk⟩:=W6 hq;exact⟨k,hk⟩
 have ownTok:∀ b,hL ((VW ps.length).map pst) b->∃ r j q,eN 0 ds ps r=some q/\G.ow b=some (.leaf r j)/\dy w' b:=by
  rintro b ⟨q',hq,j,l,e1,e2⟩;obtain⟨k,hk⟩:=mem q' hq;obtain⟨q,r,i1,i2,i3,i4,i5,i6,i7,i8,i9,i10,i11⟩:=info k q' hk;obtain⟨hv,m1,m2,_⟩:=i11 j _ e1;rw[i10 j l e1]at e2;have:=hS.hok (av.2 m1);simp only[cR,m2]at this;exact⟨r,j,q,i3,this.2.2 b e2⟩
 have ptrTok:∀ b,lN ps b->∃ k,G.ow b=some (.box k):=by
  rintro b ⟨q,hq,rfl⟩;obtain⟨k,hk⟩:=W6 hq;obtain⟨r,hr⟩:=kK (p:=0) hpre.args hk;obtain⟨f1,f2⟩:=meta_ (ix.2 ⟨k,hr,hk⟩);obtain⟨b',off',cur,ty,z1,z2,_⟩:=hS.boxes r _ f2;rw[f1]at z1;cases z1;exact⟨_,z2⟩
 have own:∀ b r j,dy w' b->G.ow b=some (.leaf r j)->dy w' b/\(w.heap.size<=b\/hL ps b):=by
  intro b r j hu ht;refine⟨hu,?_⟩;rcases WM b w.heap.size with hlt|hge
  ·by_cases c1:hL ps b
   ·exact .inr c1
   ·by_cases c2:lN ps b
    ·obtain⟨k,hk⟩:=ptrTok b c2;rw[hk]at ht;cases ht
    ·rcases hS.frow b hlt ⟨c1,c2⟩with e|e<;>rw[ht]at e<;>cases e
  ·exact .inl hge
 have post:EP w ps outs w' ((VW ps.length).map pst) Sr:=by
  refine⟨by simp,?_,?_,?_,?_,?_,?_,⟨k3 Ib,?_⟩,?_,hS.frame,?_⟩
  ·intro k p p' hp hp';obtain⟨q,r,i1,i2,i3,i4,i5,i6,i7,i8,_⟩:=info k p' hp';rw[hp]at i1;cases i1;exact⟨i5,i6,i7,i8⟩
  ·intro q' hq;obtain⟨k,hk⟩:=mem q' hq;obtain⟨q,r,i1,i2,i3,i4,i5,i6,i7,i8,i9,_⟩:=info k q' hk;obtain⟨f1,f2⟩:=meta_ i3;obtain⟨b',off',cur,ty,z1,z2,z3,z4,z5⟩:=hS.boxes r _ f2;rw[f1]at z1;cases z1;exact⟨cur,ty,by rw[i5];exact z3,fun j hj=>by rw[i6,i9];exact z5 j (by omega)⟩
  ·intro q' hq j l e;obtain⟨k,hk⟩:=mem q' hq;obtain⟨q,r,i1,i2,i3,i4,i5,i6,i7,i8,i9,i10,i11⟩:=info k q' hk;obtain⟨hv,m1,m2,_⟩:=i11 j _ e;have:=hS.hok (av.2 m1);simp only[cR,m2]at this;rw[i9,i10 j l e];exact⟨this.1,this.2.1⟩
  ·intro k p p' j l hp hp' e;obtain⟨q,r,i1,i2,i3,i4,i5,i6,i7,i8,i9,i10,i11⟩:=info k p' hp';rw[hp]at i1;cases i1;obtain⟨hv,m1,m2,m3,m4⟩:=i11 j _ e;refine⟨m3,?_⟩;rw[i9,hS.anc r j hv (av.2 m1) _ m4];exact hanc r p j l i3 m3
  ·intro q' hq j e;obtain⟨k,hk⟩:=mem q' hq;obtain⟨q,r,i1,i2,i3,i4,i5,i6,i7,i8,i9,i10,i11⟩:=info k q' hk;obtain⟨hv,m1,m2,m3⟩:=i11 j _ e;exact m3
  ·intro k j k' j' p p' l l' hp hp' e e' hne b hb hb';obtain⟨q,r,i1,i2,i3,i4,i5,i6,i7,i8,i9,i10,i11⟩:=info k p hp;obtain⟨q2,r2,i1',i2',i3',i4',i5',i6',i7',i8',i9',i10',i11'⟩:=info k' p' hp';obtain⟨hv,m1,m2,_⟩:=i11 j _ e;obtain⟨hv',m1',m2',_⟩:=i11' j' _ e';rw[i10 j l e]at hb;rw[i10' j' l' e']at hb';have t1:=hS.hok (av.2 m1);simp only[cR,m2]at t1;have t2:=hS.hok (av.2 m1');simp only[cR,m2']at t2;have u1:=(t1.2.2 b hb).1;have u2:=(t2.2.2 b hb').1;rw[u1]at u2;cases u2;have hkk:k=k':=by
    rw[i3]at i3';cases i3';by_cases c:k=k'
    ·exact c
    ·have:=hpre.sep k k' q q c i1 i1' rfl;have:=(IT.1 e).1;omega
   subst hkk;exact hne rfl
  ·intro b hb ho;obtain⟨r,j,q,e1,e2,_⟩:=ownTok b ho;obtain⟨_,r',j',m1,m2⟩:=k4 b hb;rw[m2]at e2;cases e2;obtain⟨k,e3,_⟩:=ix.1 e1;have:=WX.1 (WX.1 hd2 _ m1) _ (VM e3);simp at this
  ·intro b hb;rcases hb with hb|hb
   ·obtain⟨hu,r,j,_,m2⟩:=k4 b hb;exact own b r j hu m2
   ·obtain⟨r,j,q,_,m2,hu⟩:=ownTok b hb;exact own b r j hu m2
  ·rintro b ⟨q,hq,rfl⟩;obtain⟨k,hk⟩:=W6 hq;obtain⟨r,hr⟩:=kK (p:=0) hpre.args hk;have hpa:=ix.2 ⟨k,hr,hk⟩;obtain⟨c0,c1,ty,z1,z2,z3,z4⟩:=hS.afr r q.b q.off (by simp[hpa]);refine⟨c0,c1,ty,z1,z2,z3,fun i hi=>z4 i (fun r' off' e=>?_)⟩;cases e0:eN 0 ds ps r' with
   |none=>simp[e0]at e
   | some q2=>
     simp[e0]at e ⊢;obtain⟨e1,rfl⟩:=e;obtain⟨k2,_,hk2⟩:=ix.1 e0;exact hi q2 (VM hk2) e1
 have fin:a'.defers=[]/\∃ v,(results fn a'.tmps).run P w'=.ok v w'/\∃ v' Sr ps',X5 v=.returned v'/\iy w' ds' v' Sr/\EP w ps outs w' ps' Sr:=
  ⟨hS.defers,_,hrun,_,Sr,_,rfl,hres,post⟩
 rcases hex with rfl|rfl
 ·exact fin
 ·exact fin
end
end Go.V
namespace Go.V
theorem SS :(∀ a b:Int,(co .eql a b=true)↔a=b)/\(∀ a b:Int,(co .eql a b=false)↔a≠b)/\(∀ a b:Int,(co .neq a b=true)↔a≠b)/\(∀ a b:Int,(co .neq a b=false)↔a=b)/\
 (∀ a b:Int,(co .lss a b=true)↔a<b)/\(∀ a b:Int,(co .lss a b=false)↔b<=a)/\(∀ a b:Int,(co .leq a b=true)↔a<=b)/\(∀ a b:Int,(co .leq a b=false)↔b<a)/\
 (∀ a b:Int,(co .gtr a b=true)↔b<a)/\(∀ a b:Int,(co .gtr a b=false)↔a<=b)/\(∀ a b:Int,(co .geq a b=true)↔b<=a)/\(∀ a b:Int,(co .geq a b=false)↔a<b)/\
 (∀ b,(Li b=true)↔b=false)/\(∀ b,(Li b=false)↔b=true)/\(∀ a b,Nf true a b=a)/\(∀ a b,Nf false a b=b)/\
 (∀ a b,(Ea .eql a b=true)↔a=b)/\(∀ a b,(Ea .eql a b=false)↔a≠b)/\(∀ a b,(Ea .neq a b=true)↔a≠b)/\(∀ a b,(Ea .neq a b=false)↔a=b)/\
 (∀ n,KT n=(n:Int))/\(∀ es,Uz es=es.length)/\(∀ f,UJ f=f ())/\(∀ n:Nat,Zz n=(n:Int))/\(∀ a b,N7 a b=a++b)/\(∀ i,UB i=i.toNat):=
 ⟨fun _ _=>HM,fun _ _=>HL,fun _ _=>HW,fun _ _=>HV,fun _ _=>HU,fun _ _=>HT,fun _ _=>HS,fun _ _=>HR,fun _ _=>HQ,fun _ _=>HP,fun _ _=>HO,fun _ _=>HN,
   fun _=>R0,fun _=>RZ,fun _ _=>rfl,fun _ _=>rfl,fun _ _=>E4,fun _ _=>E3,fun _ _=>E6,fun _ _=>E5,fun _=>rfl,fun _=>rfl,fun _=>rfl,fun _=>rfl,fun _ _=>rfl,fun _=>rfl⟩
end Go.V
namespace Go.V
theorem VI (n:Nat):Zz n=(n:Int):=rfl
structure TB (P:Program) where
 Φ:Type
 F0:Φ
 ct:Φ->CT:=UC
 mt:Φ->MT:=PX
 pt:Φ->PT:=P0
 nt:Φ->NT:=PY
 ot:Φ->OT:=PZ
 hc:yh P (ct F0):=by exact MP
 hm:Ag P (mt F0):=by exact Iy
 hp:Ah P (pt F0):=by exact IB
 hn:BF P (nt F0):=by exact Iz
 ho:BG P (ot F0):=by exact IA
abbrev tb {P:Program}{Φ:Type}{F0:Φ}{ct:Φ->CT}(hc:yh P (ct F0)):TB P:={Φ:=Φ,F0:=F0,ct:=ct,hc:=hc}
section
variable {P : Program} {T : wd} (B : TB P) (hT : bp P T) (hm : P.follows .mixedOrders = true) {f : FuncId} {fn : Func} {ds : List DV} (n : Nat) (c : Code) (ts : List TypeId) (rvs : List ResultVar)
include hT hm
theorem IE (al:Bool){res:List DV}{outs:List (List H)}(hf:P.funcs[f]?=some fn)(hb:fn.body=some c)(hnt:fn.ntmps=n)(hts:fn.resultTypes.toList=ts)(hrv:fn.results.toList=rvs)(hn:Yj ds.length n=true)(hlo:(mpL 0 ds).length=outs.length)(hl0:(mpL 0 ds).all (fun q=>q.2.length.ble 999)=true) 
 (hl1:al=true->(mpL 0 ds).all (fun q=>q.1.ble 999)=true) (h:∀ O r os F,O=ah->r=res->os=(fun i=>outs.getD i [])->F=B.F0->j6 T O ⟨B.ct F,B.mt F,B.pt F,B.nt F,B.ot F⟩ n ((mpL 0 ds).map (·.1)) [] c (Lx T O ts rvs (mpL 0 ds) r os) (dI al 0 ds)):ym P f ds outs res:=
 AV al hT B.hc B.hm B.hp B.hn B.ho hm n c ts rvs hf hb hnt hts hrv hn hlo hl0 hl1 h
end
end Go.V
namespace Go.V
mutual
def eC :L->Nat
 | .s _ es=>es.length+bD es
 |_=>0
def cL :ay->Nat
 |[]=>0
 |l::ls=>eC l+cL ls
def bD :aa->Nat
 |[]=>0
 |e::es=>cL e+bD es
end
def ag (es:aa):Nat:=es.length+bD es
def ax :List aa->Nat
 |[]=>0
 |r::rs=>ag r+ax rs
def bK (rs:List aa)(left:Int):Int:=if left<ax rs then-1 else left-ax rs
mutual
def eM :L->Int->L×Int
 | .v (.int kd _),k=>(.v (.int kd k),k+1)
 | .v (.bool _),k=>(.v (.bool (k.tmod 3==0)),k+1)
 | .s sz es,k=>(.s sz (cD es k).1,(cD es k).2)
 |l,k=>(l,k)
def eo :ay->Int->ay×Int
 |[],k=>([],k)
 |l::ls,k=>((eM l k).1::(eo ls (eM l k).2).1,(eo ls (eM l k).2).2)
def cD :aa->Int->aa×Int
 |[],k=>([],k)
 |e::es,k=>((eo e k).1::(cD es (eo e k).2).1,(cD es (eo e k).2).2)
end
def ao (es:aa)(k:Int):aa:=(cD es k).1
def am :List aa->Int->Int
 |[],k=>k
 |r::rs,k=>am rs (cD r k).2
theorem d5 :∀ {a b:aa},bD (a++b)=bD a+bD b
 |[],b=>by simp[bD]
 |e::a,b=>by simp[bD,d5 (a:=a),Xp]
theorem jd :∀ {a b:List aa},ax (a++b)=ax a+ax b
 |[],b=>by simp[ax]
 |e::a,b=>by simp[ax,jd (a:=a),Xp]
theorem cV {r:aa}:ax [r]=ag r:=by simp[ax]
theorem CZ :∀ {ls:ay} {j:Nat} {l:L},ls[j]?=some l->eC l<=cL ls
 |[],j,l,h=>by simp at h
 |x::ls,0,l,h=>by simp at h;subst h;simp[cL]
 |x::ls,j+1,l,h=>by simp at h;have:=CZ h;simp[cL];omega
theorem jI {a:List aa}{left:Int}:bK a left<0↔left<ax a:=by
 unfold bK;split<;>omega
theorem oE {a:List aa}{left:Int}(h:0<=bK a left):bK a left=left-ax a:=by
 unfold bK at*;split at h
 ·omega
 ·rename_i c;rw[if_neg c]
theorem hH {a b:List aa}{left:Int}(h:0<=bK a left):bK b (bK a left)=bK (a++b) left:=by
 rw[oE h];unfold bK;rw[jd];split<;>split<;>omega
theorem dV {a b:List aa}{left:Int}(h:bK a left<0):bK (a++b) left= -1:=by
 rw[jI]at h;unfold bK;rw[jd,if_pos (by omega)]
theorem gJ {a:List aa}{left:Int}(h:bK a left<0):bK a left= -1:=by
 rw[jI]at h;unfold bK;rw[if_pos (by omega)]
theorem vM {a:List aa}{left:Int}(h:0<=bK a left):bK a left<=left:=by rw[oE h];omega
theorem gY :∀ {a b:aa} {k:Int},cD (a++b) k=((cD a k).1++(cD b (cD a k).2).1,(cD b (cD a k).2).2)
 |[],b,k=>by simp[cD]
 |e::a,b,k=>by simp[cD,gY (a:=a)]
theorem fk :∀ {a b:List aa} {k:Int},am b (am a k)=am (a++b) k
 |[],b,k=>rfl
 |r::a,b,k=>by simp only[am,List.cons_append];exact fk
theorem eI :∀ {es:aa} {k:Int},(cD es k).1.length=es.length
 |[],k=>rfl
 |e::es,k=>by simp[cD,eI (es:=es)]
theorem b8 {es:aa}{k:Int}:(ao es k).length=es.length:=eI
def dS (es:aa)(k:Int)(n:Nat):aa:=(cD (es.take n) k).1++es.drop n
def dF (es:aa)(k:Int)(n:Nat):Int:=(cD (es.take n) k).2
theorem cX {es:aa}{k:Int}:dS es k 0=es:=by simp[dS,cD]
theorem bG {es:aa}{k:Int}:dF es k 0=k:=by simp[dF,cD]
theorem vi {es:aa}{k:Int}:dS es k es.length=ao es k:=by simp[dS,ao]
theorem li {es:aa}{k:Int}:dF es k es.length=am [es] k:=by simp[dF,am]
theorem kJ {es:aa}{k:Int}{n:Nat}(hn:n<=es.length):(dS es k n).length=es.length:=by simp[dS,eI];omega
theorem cW {es:aa}{k:Int}{n:Nat}(hn:n<=es.length):(dS es k n).getD n []=es.getD n []:=by
 unfold dS;simp only[If];have hl:(cD (es.take n) k).1.length=n:=by rw[eI,VK];omega
 rw[VY (by omega),hl];simp
theorem vj {es:aa}{k:Int}{n:Nat}(hn:n<es.length):(dS es k n).set n (eo (es.getD n []) (dF es k n)).1=dS es k (n+1):=by
 unfold dS dF;have hl:(cD (es.take n) k).1.length=n:=by rw[eI,VK];omega
 rw[List.set_append_right _ _ (by omega),hl,dt (d:=[]) hn,gY];simp only[Nat.sub_self];rw[XA hn,List.set_cons_zero];simp[cD]
theorem cI {es:aa}{k:Int}{n:Nat}(hn:n<es.length):dF es k (n+1)=(eo (es.getD n []) (dF es k n)).2:=by
 unfold dF;rw[dt (d:=[]) hn,gY];simp[cD]
theorem fP {es:aa}{k:Int}{n:Nat}(hn:n<es.length):(ao es k).getD n []=(eo (es.getD n []) (dF es k n)).1:=by
 have h1:es=es.take n++(es.getD n []::es.drop (n+1)):=by
  conv=>lhs;rw[<-V2 n es,XA hn]
  simp[Wm,hn]
 unfold ao dF
 conv=>lhs;rw[h1]
 rw[gY];simp only[If];have hl:(cD (es.take n) k).1.length=n:=by rw[eI,VK];omega
 rw[VY (by omega),hl];simp[cD]
mutual
theorem PP :∀ (l:L) (k:Int),(eM l k).2=k+(eM l 0).2
 | .v x,k=>by cases x<;>simp[eM]
 | .s sz es,k=>by simp only[eM];exact jq es k
 | .g,k=>by simp[eM]
 | .m _ _,k=>by simp[eM]
theorem xU :∀ (ls:ay) (k:Int),(eo ls k).2=k+(eo ls 0).2
 |[],k=>by simp[eo]
 | l::ls,k=>by
   simp only[eo];rw[xU ls (eM l k).2,PP l k,xU ls (eM l 0).2];omega
theorem jq :∀ (es:aa) (k:Int),(cD es k).2=k+(cD es 0).2
 |[],k=>by simp[cD]
 | e::es,k=>by
   simp only[cD];rw[jq es (eo e k).2,xU e k,jq es (eo e 0).2];omega
end
mutual
theorem MN :∀ (l:L) (k k':Int),(eM (eM l k).1 k').2=(eM l k').2
 | .v x,k,k'=>by cases x<;>simp[eM]
 | .s sz es,k,k'=>by simp only[eM];exact dn es k k'
 | .g,k,k'=>by simp[eM]
 | .m _ _,k,k'=>by simp[eM]
theorem Gt :∀ (ls:ay) (k k':Int),(eo (eo ls k).1 k').2=(eo ls k').2
 |[],k,k'=>rfl
 |l::ls,k,k'=>by simp only[eo];rw[Gt ls _ _,MN l k k']
theorem dn :∀ (es:aa) (k k':Int),(cD (cD es k).1 k').2=(cD es k').2
 |[],k,k'=>rfl
 |e::es,k,k'=>by simp only[cD];rw[dn es _ _,Gt e k k']
end
theorem jV {es:aa}{k k':Int}:am [ao es k] k'=am [es] k':=dn es k k'
theorem fc {es:aa}{k:Int}{n:Nat}:dF es k n=k+dF es 0 n:=jq _ _
theorem Ei :∀ {rs:List aa} {k:Int},am rs k=k+am rs 0
 |[],k=>by simp[am]
 |r::rs,k=>by simp only[am];rw[Ei (k:=(cD r k).2),jq r k,Ei (k:=(cD r 0).2)];omega
mutual
theorem PO :∀ (l:L),0<=(eM l 0).2
 | .v x=>by cases x<;>simp[eM]
 | .s sz es=>by simp only[eM];exact Cd es
 | .g=>by simp[eM]
 | .m _ _=>by simp[eM]
theorem Gs :∀ (ls:ay),0<=(eo ls 0).2
 |[]=>by simp[eo]
 |l::ls=>by simp only[eo];rw[xU];have:=PO l;have:=Gs ls;omega
theorem Cd :∀ (es:aa),0<=(cD es 0).2
 |[]=>by simp[cD]
 |e::es=>by simp only[cD];rw[jq];have:=Gs e;have:=Cd es;omega
end
theorem Ij :∀ {rs:List aa},0<=am rs 0
 |[]=>by simp[am]
 |r::rs=>by simp only[am];rw[Ei];have:=Cd r;have:=Ij (rs:=rs);omega
theorem gC {es:aa}{n:Nat}(hn:n<es.length):dF es 0 n<=dF es 0 (n+1):=by
 rw[cI hn,xU];have:=Gs (es.getD n []);omega
theorem dB {es:aa}:∀ {m n:Nat},n<=es.length->m<=n->dF es 0 m<=dF es 0 n
 |m,0,_,h=>by rw[show m=0 from by omega];exact XL _
 | m,n+1,hn,h=>by
   rcases WM m (n+1)with c|c
   ·have:=dB (es:=es) (m:=m) (n:=n) (by omega) (by omega);have:=gC (es:=es) (n:=n) (by omega);omega
   ·rw[show m=n+1 from by omega];exact XL _
def wid :Ty->Nat
 | .sl _=>0
 |_=>1
end Go.V
namespace Go.V
abbrev Rw (fs:List Ty)(es:aa):Prop:=es.length<=maxLen/\∀ e∈es,ce fs e
abbrev tI :Ty:=.int .i64
abbrev tB :Ty:=.bool
mutual
def zL :Ty->L
 | .int k=>.v (.int k 0)
 | .bool=>.v (.bool false)
 | .str=>.v (.string .empty)
 | .sl fs=>.s fs.length []
def zR :List Ty->ay
 |[]=>[]
 |t::ts=>zL t::zR ts
end
theorem Aq :∀ {fs:List Ty} {e:ay},ce fs e->fE (zR fs) e=true
 |[],[],_=>rfl
 |[],_::_,h=>h.elim
 |_::_,[],h=>h.elim
 | t::ts,l::ls,h=>by
   obtain⟨h1,h2⟩:=h;simp only[zR,fE,AI];refine⟨?_,Aq h2⟩;cases t with
   | int k=>cases l with
     | v x=>cases x with
       |int k' n=>simp only[cz]at h1;simp[zL,iG,h1.1]
       |_=>simp[cz]at h1
     |_=>simp[cz]at h1
   | bool=>cases l with
     | v x=>cases x with
       |bool b=>rfl
       |_=>simp[cz]at h1
     |_=>simp[cz]at h1
   | str=>cases l with
     | v x=>cases x with
       |string b=>rfl
       |_=>simp[cz]at h1
     |_=>simp[cz]at h1
   | sl fs=>cases l with
     |s sz es=>simp only[cz]at h1;simp[zL,iG,h1.1]
     |_=>simp[cz]at h1
theorem Rw.wf {fs:List Ty}{es:aa}(h:Rw fs es):Wf (zR fs) es:=fun e he=>Aq (h.2 e he)
theorem Rw.at {fs:List Ty}{es:aa}(h:Rw fs es){n:Nat}(hn:n<es.length):ce fs (es.getD n []):=by
 refine h.2 _ ?_;rw[If,IN hn];exact List.getElem_mem _
theorem Rw.eta {fs:List Ty}{es:aa}(h:Rw fs es){i:Int}(h0:0<=i)(h1:i<es.length):es.getD i.toNat []=gP ah es i 0 (zR fs):=(au h.wf h0 h1).symm
theorem xA :∀ {fs:List Ty} {e:ay} {j:Nat} {gs:List Ty},ce fs e->fs[j]?=some (.sl gs)->∃ es',e[j]?=some (.s gs.length es')/\Rw gs es'
 |[],_,j,gs,_,h=>by simp at h
 |_::_,[],j,gs,h,_=>h.elim
 | t::ts,l::ls,0,gs,h,e=>by
   simp at e;subst e;have h1:=h.1;cases l with
   |s sz es=>simp only[cz]at h1;exact⟨es,by simp[h1.1],h1.2⟩
   |_=>simp[cz]at h1
 | t::ts,l::ls,j+1,gs,h,e=>by
   simp at e;obtain⟨es',h1,h2⟩:=xA h.2 e;exact⟨es',by simpa using h1,h2⟩
theorem Rw.sub {fs:List Ty}{es:aa}(h:Rw fs es){i:Int}(hn:i.toNat<es.length){j:Nat}{gs:List Ty}(hj:fs[j]?=some (.sl gs)):Rw gs (aO es i j):=by
 obtain⟨es',h1,h2⟩:=xA (h.at hn) hj;unfold aO;rw[If (l:=es.getD i.toNat []),h1];exact h2
theorem Rw.nil {fs:List Ty}:Rw fs []:=⟨Nat.zero_le _,by simp⟩
theorem Rw.take {fs:List Ty}{es:aa}(h:Rw fs es)(n:Nat):Rw fs (es.take n):=⟨by rw[VK];exact Xe (Nat.min_le_right _ _) h.1,fun e he=>h.2 e (List.mem_of_mem_take he)⟩
theorem Rw.drop {fs:List Ty}{es:aa}(h:Rw fs es)(n:Nat):Rw fs (es.drop n):=⟨by rw[List.length_drop];exact Xe (Nat.sub_le _ _) h.1,fun e he=>h.2 e (List.mem_of_mem_drop he)⟩
theorem Rw.append {fs:List Ty}{a b:aa}(ha:Rw fs a)(hb:Rw fs b)(hl:a.length+b.length<=maxLen):Rw fs (a++b):=⟨by simpa using hl,fun e he=>by rcases BY.1 he with q|q;exact ha.2 e q;exact hb.2 e q⟩
theorem Rw.one {fs:List Ty}{e:ay}(h:ce fs e):Rw fs [e]:=⟨by simp[maxLen],by simpa using h⟩
theorem Rw.set {fs:List Ty}{es:aa}(h:Rw fs es){e:ay}(he:ce fs e)(n:Nat):Rw fs (es.set n e):=⟨by simpa using h.1,fun x hx=>by rcases List.mem_or_eq_of_mem_set hx with q|q;exact h.2 x q;rw[q];exact he⟩
theorem Rw.replicate {fs:List Ty}{e:ay}(h:ce fs e){n:Nat}(hn:n<=maxLen):Rw fs (List.replicate n e):=⟨by simpa using hn,fun x hx=>by rw[List.eq_of_mem_replicate hx];exact h⟩
def pP :Ty->Bool
 | .sl _=>false
 |_=>true
theorem uz {t:Ty}{l:L}(h:cz t l)(hs:pP t=true):∃ x,l=.v x:=by
 cases t with
 |sl fs=>cases hs
 | int k=>cases l with
   |v x=>exact⟨x,rfl⟩
   |_=>simp[cz]at h
 | bool=>cases l with
   |v x=>exact⟨x,rfl⟩
   |_=>simp[cz]at h
 | str=>cases l with
   |v x=>exact⟨x,rfl⟩
   |_=>simp[cz]at h
theorem xK :∀ {fs:List Ty} {e:ay},fs.all pP=true->ce fs e->cL e=0
 |[],[],_,_=>rfl
 |[],_::_,_,h=>h.elim
 |_::_,[],_,h=>h.elim
 | t::ts,l::ls,hs,h=>by
   simp only[Zj,AI]at hs;obtain⟨x,rfl⟩:=uz h.1 hs.1;simp only[cL,eC];rw[xK hs.2 h.2]
theorem Av {fs:List Ty}(hs:fs.all pP=true):∀ {es:aa},(∀ e∈es,ce fs e)->bD es=0
 |[],_=>rfl
 |e::es,h=>by simp only[bD];rw[xK hs (h e (by simp)),Av hs (fun x hx=>h x (by simp[hx]))]
theorem Rw.cnt {fs:List Ty}{es:aa}(h:Rw fs es)(hs:fs.all pP=true):ag es=es.length:=by unfold ag;rw[Av hs h.2];rfl
theorem Rw.scal {fs:List Ty}{es:aa}(h:Rw fs es)(hs:fs.all pP=true):bT es:=by
 have key:∀ {fs:List Ty} {e:ay},fs.all pP=true->ce fs e->oz e:=by
  intro fs
  induction fs with
  | nil=>intro e _ h;cases e with
    |nil=>trivial
    |cons _ _=>exact h.elim
  | cons t ts ih=>
    intro e hs h;cases e with
    |nil=>exact h.elim
    | cons l ls=>
      simp only[Zj,AI]at hs;obtain⟨x,rfl⟩:=uz h.1 hs.1;exact(ih hs.2 h.2:oz ls)
 have:∀ {es:aa},(∀ e∈es,ce fs e)->bT es:=by
  intro es
  induction es with
  |nil=>intro _;trivial
  |cons e es ih=>intro h;exact⟨key hs (h e (by simp)),ih (fun x hx=>h x (by simp[hx]))⟩
 exact this h.2
theorem cq {es:aa}{n:Nat}(hn:n<es.length):bD (es.take (n+1))=bD (es.take n)+cL (es.getD n []):=by
 rw[dt (d:=[]) hn,d5];simp[bD]
theorem bF {es:aa}{n:Nat}:bD (es.take n)<=bD es:=by
 conv=>rhs;rw[<-V2 n es,d5]
 omega
theorem vP {sz:Nat}{es:aa}{n o:Nat}{new:ay}:wg (.s sz es) [(n,o)] new=es.set n ((es.getD n []).take o++new++(es.getD n []).drop (o+new.length)):=rfl
theorem oj {sz:Nat}{c:aa}{n j:Nat}:jy (.s sz c) [(n,j)]=EK ((c.getD n []).getD j .g):=by
 unfold jy eY;simp only[bL];cases h:c[n]? with
 |none=>simp[Wm,h,EK]
 | some rec=>
   simp only[WA,Wm,h,Wk];cases h2:rec[j]? with
   |none=>simp[EK]
   |some l=>cases l<;>simp[EK]
theorem dh {c:aa}{n:Nat}{r:ay}(h:n<c.length):(c.set n r).getD n []=r:=by simp[Wm,h]
theorem nP {sz:Nat}{c:aa}{n j:Nat}{r:ay}(h:n<c.length):bL (.s sz (c.set n r)) [(n,j)]=some (r,j):=by simp[bL,h]
theorem sD {sz:Nat}{c:aa}{n j:Nat}(h:n<c.length):bL (.s sz c) [(n,j)]=some (c.getD n [],j):=by simp[bL,Wm,h]
theorem uM {sz:Nat}{c:aa}{n j:Nat}{r:ay}(h:n<c.length):eY (.s sz (c.set n r)) [(n,j)]=match r[j]? with
 |some (.s sz es)=>some (sz,es)
 |_=>none:=by unfold eY;rw[nP h];rfl
theorem sE {sz:Nat}{c:aa}{n j:Nat}(h:n<c.length):eY (.s sz c) [(n,j)]=match(c.getD n [])[j]? with
 |some (.s sz es)=>some (sz,es)
 |_=>none:=by unfold eY;rw[sD h];rfl
theorem bj {a b:List aa}{k:Int}(hk:0<=k):am a k<=am (a++b) k/\0<=am a k:=by
 rw[<-fk,Ei (rs:=b),Ei (rs:=a)];have:=Ij (rs:=a);have:=Ij (rs:=b);omega
theorem H5 {l:L}{k:Int}{z:L}(h:iG z l=true):iG z (eM l k).1=true:=by
 cases l with
 |v x=>cases x<;>cases z<;>simp_all [eM,iG]<;>(rename_i y;cases y<;>simp_all [iG])
 |s sz es=>cases z<;>simp_all [eM,iG]
 |g=>exact h
 |m _ _=>exact h
theorem C5 :∀ {z e:ay} {k:Int},fE z e=true->fE z (eo e k).1=true
 |[],[],_,_=>rfl
 |[],_::_,_,h=>by simp[fE]at h
 |_::_,[],_,h=>by simp[fE]at h
 | z::zs,l::ls,k,h=>by
   simp only[fE,AI,eo]at h ⊢;exact⟨H5 h.1,C5 h.2⟩
theorem Au :∀ {z:ay} {es:aa} {k:Int},Wf z es->Wf z (cD es k).1
 |z,[],_,_=>fun e he=>by cases he
 | z,e::es,k,h=>by
   intro x hx;simp only[cD,List.mem_cons]at hx;rcases hx with rfl|hx
   ·exact C5 (h e (by simp))
   ·exact Au (fun y hy=>h y (by simp[hy])) x hx
theorem cG {fs:List Ty}{es:aa}{k:Int}(h:Rw fs es):Wf (zR fs) (ao es k):=Au h.wf
end Go.V
namespace Go.V
mutual
def Jc :Ty->Nat
 | .sl fs=>BB fs
 |_=>1
def BB :List Ty->Nat
 |[]=>0
 |t::ts=>Jc t+BB ts
end
mutual
theorem ME :∀ (t:Ty) (l:L),cz t l->(eM l 0).2<=(Jc t*(eC l+1):Nat)
 | .int k,.v x,h=>by cases x<;>simp[eM,eC,Jc]
 | .int k,.s _ _,h=>by simp[cz]at h
 | .int k,.g,h=>by simp[cz]at h
 | .bool,.v x,h=>by cases x<;>simp[eM,eC,Jc]
 | .bool,.s _ _,h=>by simp[cz]at h
 | .bool,.g,h=>by simp[cz]at h
 | .str,.v x,h=>by cases x<;>simp[eM,eC,Jc]
 | .str,.s _ _,h=>by simp[cz]at h
 | .str,.g,h=>by simp[cz]at h
 | .sl fs,.v x,h=>by simp[cz]at h
 | .sl fs,.g,h=>by simp[cz]at h
 | .sl fs,.s sz es,h=>by
   have h1:=y7 fs es (by simp only[cz]at h;exact h.2.2);simp only[eM,eC,Jc];have:BB fs*(es.length+bD es)<=BB fs*(es.length+bD es+1):=Xt _ (by omega);omega
theorem Gi :∀ (ts:List Ty) (ls:ay),ce ts ls->(eo ls 0).2<=(BB ts*(cL ls+1):Nat)
 |[],[],_=>by simp only[eo];exact YP _
 |[],_::_,h=>h.elim
 |_::_,[],h=>h.elim
 | t::ts,l::ls,h=>by
   have h1:=ME t l h.1;have h2:=Gi ts ls h.2;simp only[eo];rw[xU];have e1:Jc t*(eC l+1)<=Jc t*(cL (l::ls)+1):=Xt _ (by simp[cL]);have e2:BB ts*(cL ls+1)<=BB ts*(cL (l::ls)+1):=Xt _ (by simp[cL]);have e3:BB (t::ts)*(cL (l::ls)+1)=Jc t*(cL (l::ls)+1)+BB ts*(cL (l::ls)+1):=by simp only[BB];rw[Nat.add_mul]
   omega
theorem y7 :∀ (ts:List Ty) (es:aa),(∀ e∈es,ce ts e)->(cD es 0).2<=(BB ts*(es.length+bD es):Nat)
 |ts,[],_=>by simp only[cD];exact YP _
 | ts,e::es,h=>by
   have h1:=Gi ts e (h e (by simp));have h2:=y7 ts es (fun x hx=>h x (by simp[hx]));simp only[cD];rw[jq];have e3:BB ts*((e::es).length+bD (e::es))=BB ts*(cL e+1)+BB ts*(es.length+bD es):=by
    rw[<-Zu];congr 1;simp[bD];omega
   omega
end
theorem Rw.marks {fs:List Ty}{es:aa}(h:Rw fs es)(hw:BB fs<=64):(cD es 0).2<=(64*ag es:Nat):=by
 have:=y7 fs es h.2;have h2:BB fs*(es.length+bD es)<=64*(es.length+bD es):=Nat.mul_le_mul_right _ hw;unfold ag;omega
theorem AJ :∀ {rs:List aa} {k:Int},(∀ r∈rs,(cD r 0).2<=(64*ag r:Nat))->am rs k<=k+(64*ax rs:Nat)
 |[],k,_=>by simp[am,ax]
 | r::rs,k,h=>by
   simp only[am,ax];have h1:=h r (by simp);have h2:=AJ (rs:=rs) (k:=(cD r k).2) (fun x hx=>h x (by simp[hx]));rw[jq]at h2;rw[jq r k];have:64*(ag r+ax rs)=64*ag r+64*ax rs:=Zu _ _ _;omega
theorem FW {rs:List aa}{k:Int}(h:∀ r∈rs,(cD r 0).2<=(64*ag r:Nat))(hk:0<=k/\k<=1000)(hc:ax rs<=1099511627776):am rs k<=1152921504606846976:=by
 have:=AJ (k:=k) h;have:64*ax rs<=64*1099511627776:=Xt _ hc;omega
theorem FV {rs:List aa}{k:Int}(hk:0<=k):¬ am rs k<0:=by
 rw[Ei];have:=Ij (rs:=rs);omega
theorem Nl {rs:List aa}(h:ax rs<=1048576):¬ bK rs 1048576<0:=by rw[jI];omega
theorem Jb {es:aa}{k:Int}:zA (ao es k) 0 es.length=ao es k:=by
 rw[<-b8 (es:=es) (k:=k),sa]
abbrev ji (a0 a1 a2:aa)(a3:Int)(a4 a5 a6 a7 a8 a9 aA aB:aa)(aC:Int)(aD:aa)(aE aF aG aH:Int)(aI:Bool)(aJ aK:Int)(aL:aa)(aM aN:Int):ay:=[.s 1 a0,.s 1 a1,.s 2 a2,.i a3,.s 1 a4,.s 2 a5,.s 3 a6,.s 3 a7,.s 4 a8,.s 1 a9,.s 1 aA,.s 1 aB,.i aC,.s 3 aD,.i aE,.i aF,.i aG,.i aH,.v (.bool aI),.i aJ,.i aK,.s 1 aL,.i aM,.i aN]
abbrev Sw (a0 a1 a2:aa)(a3:Int)(a4 a5 a6 a7 a8 a9 aA aB:aa)(aC:Int)(aD:aa)(aE aF aG aH:Int)(aI:Bool)(aJ aK:Int)(aL:aa)(aM aN:Int):List H:=[.own (.s 1 a0),.own (.s 1 a1),.own (.s 2 a2),.own (.i a3),.own (.s 1 a4),.own (.s 2 a5),.own (.s 3 a6),.own (.s 3 a7),.own (.s 4 a8),.own (.s 1 a9),.own (.s 1 aA),.own (.s 1 aB),.own (.i aC),.own (.s 3 aD),.own (.i aE),.own (.i aF),.own (.i aG),.own (.i aH),.own (.v (.bool aI)),.own (.i aJ),.own (.i aK),.own (.s 1 aL),.own (.i aM),.own (.i aN)]
abbrev aQ :=Unit
abbrev F0 :aQ:=()
abbrev nB {P:Program}:TB P:={Φ:=Unit,F0:=()}
theorem cQ {es:aa}{n:Nat}(h:ag es<=n):es.length<=n:=Xe (Nat.le_add_right _ _) h
theorem KU {p:Prop}(h:p:=by
 try rw[da (n:=es.length) g0 hlt (by omega)]
 try have hlt':i.toNat<es.length:=by omega
 try have hct:=cq (es:=es) (n:=i.toNat) (by omega);rw[he]at hct;simp only[cL,eC,Nat.add_zero,Nat.zero_add]at hct
 try have hks:=cI (es:=es) (k:=k) hlt';rw[he]at hks;simp only[eo,eM]at hks
 try have hms:=vj (es:=es) (k:=k) hlt';rw[he]at hms;simp only[eo,eM]at hms
 try have hcl:i.toNat<cur.length:=by rw[hc,kJ g1];exact hlt'
 have hk1:=fc (es:=es) (k:=k) (n:=i.toNat)
 have hk2:=fc (es:=es) (k:=k) (n:=i.toNat+1)
 have hk3:=li (es:=es) (k:=k)
 have hk4:=fc (es:=es) (k:=k) (n:=es.length)
 have hk5:=dB (es:=es) (m:=0) (n:=i.toNat) g1 (Nat.zero_le _)
 have hk6:=dB (es:=es) (m:=i.toNat) (n:=es.length) (Nat.le_refl _) g1
 try have hk7:=dB (es:=es) (m:=i.toNat+1) (n:=es.length) (Nat.le_refl _) hlt'
 have hle1:=bF (es:=es) (n:=i.toNat+1)
 have hcE:ag es=es.length+bD es:=rfl
 rw[bG]at hk5
 try have hk8:=gC (es:=es) (n:=i.toNat) hlt'
 have ha1:bJ .add .i64 k' 1=k'+1:=bB (by omega)
 have ha2:bJ .add .i64 (k'+1) 1=k'+1+1:=bB (by omega)
 have ha3:bJ .add .i64 (k'+1+1) 1=k'+1+1+1:=bB (by omega)
 have ha4:bJ .add .i64 (k'+1+1+1) 1=k'+1+1+1+1:=bB (by omega)
 try simp only[ha1,ha2,ha3,ha4]
 try simp only[az]
 try simp only[vP,hcg,List.take,List.drop,List.length_cons,List.length_nil,List.nil_append,List.cons_append,List.append_nil,Nat.zero_add,Nat.reduceAdd,dh hcl,List.set_set,List.append_assoc]
 try simp only[oj,hcg,dh hcl,List.getD_cons_zero,List.getD_cons_succ,EK]
 try simp only[sD hcl,nP hcl,sE hcl,uM hcl,hcg,List.getElem?_cons_zero,List.getElem?_cons_succ]
 first|exact⟨g0,hlt⟩|(refine⟨_,_,rfl,?_⟩;simp;done)|omega|(rw[hk',show i.toNat=es.length from by omega,hk3];done)|(rw[hc,show i.toNat=es.length from by omega,vi];rfl)|(rw[show(i+1).toNat=i.toNat+1 from by omega,hks,hk'];done)|(rw[show(i+1).toNat=i.toNat+1 from by omega, <-hms,hc,hk'];done)|trace_state):p:=h
theorem KV {p:Prop}(h:p:=by
 have hk1:=fc (es:=es) (k:=k) (n:=i.toNat)
 have hk2:=fc (es:=es) (k:=k) (n:=i.toNat+1)
 have hk3:=li (es:=es) (k:=k)
 have hk4:=fc (es:=es) (k:=k) (n:=es.length)
 have hk5:=dB (es:=es) (m:=0) (n:=i.toNat) g1 (Nat.zero_le _)
 have hk6:=dB (es:=es) (m:=i.toNat) (n:=es.length) (Nat.le_refl _) g1
 try have hk7:=dB (es:=es) (m:=i.toNat+1) (n:=es.length) (Nat.le_refl _) hlt'
 have hle1:=bF (es:=es) (n:=i.toNat+1)
 have hcE:ag es=es.length+bD es:=rfl
 rw[bG]at hk5
 try have hk8:=gC (es:=es) (n:=i.toNat) hlt'
 try rw[<-hk']at hem hks
 have ha1:bJ .add .i64 k' 1=k'+1:=bB (by omega)
 have ha2:bJ .add .i64 (k'+1) 1=k'+1+1:=bB (by omega)
 have ha3:bJ .add .i64 (k'+1+1) 1=k'+1+1+1:=bB (by omega)
 have ha4:bJ .add .i64 (k'+1+1+1) 1=k'+1+1+1+1:=bB (by omega)
 try simp only[ha1,ha2,ha3,ha4]at*
 first|exact ip hwm g0 hltm|omega|(exfalso;revert hb;simp only[hem,co,bJ];simp;done)|(rw[hk',show i.toNat=es.length from by omega,hk3,hkk];done)|(rw[show(i+1).toNat=i.toNat+1 from by omega,hks];done)|(rw[show(i+1).toNat=i.toNat+1 from by omega,hks,hem];simp only[am,dn];done)|(rw[show(i+1).toNat=i.toNat+1 from by omega,hks,hem.2];simp only[am,dn];done)|(refine⟨_,by first|exact hem|exact hem.2|exact hem.1|rfl,?_,?_,?_⟩<;>(try simp only[am,dn,ag])<;>omega)|(refine⟨_,by first|exact hem|exact hem.2|exact hem.1|rfl,?_,?_,?_⟩<;>(try rw[hem])<;>(try rw[hem.2])<;>(try simp only[am,dn,ag])<;>omega)|(exfalso;simp only[am,dn]at hb;omega)|(exfalso;(first|rw[hem]at hb|rw[hem.2]at hb);simp only[am,dn]at hb;omega)|trivial|trace_state):p:=h
theorem Jj {p:Prop}(h:p:=by
 try rw[da (n:=es.length) g0 hlt (by omega)]
 try have hct:=cq (es:=es) (n:=i.toNat) (by omega);rw[he]at hct;simp only[cL,eC,Nat.add_zero,Nat.zero_add]at hct
 have hle1:=bF (es:=es) (n:=i.toNat+1)
 have hcE:ag es=es.length+bD es:=rfl
 first|exact ip hwf g0 hlt|exact⟨g0,hlt⟩|(rw[hm];exact f8 (by rw[fU g1];omega) (by rw[jg (by omega)];exact Nat.le_refl _))|omega|(rw[show(i+1).toNat=i.toNat+1 from by omega, <-xF (by omega), <-hm,oF (by rw[hm,jg (by omega)];rfl),he])|(rw[hm,fU g1];exact⟨trivial,rfl⟩)|(rw[hm,show i.toNat=es.length from by omega,xE])|trace_state):p:=h
theorem Ul {p:Prop}(h:p:=by
 try have hct:=cq (es:=es) (n:=i.toNat) (by omega);rw[he]at hct;simp only[cL,eC,Nat.add_zero,Nat.zero_add]at hct
 try have hks:=cI (es:=es) (k:=k) hlt';rw[he]at hks;simp only[eo,eM]at hks
 try have hms:=vj (es:=es) (k:=k) hlt';rw[he]at hms;simp only[eo,eM]at hms
 try have hcl:i.toNat<cur.length:=by rw[hc,kJ g1];exact hlt'
 have hk1:=fc (es:=es) (k:=k) (n:=i.toNat)
 have hk2:=fc (es:=es) (k:=k) (n:=i.toNat+1)
 have hk3:=li (es:=es) (k:=k)
 have hk4:=fc (es:=es) (k:=k) (n:=es.length)
 have hk5:=dB (es:=es) (m:=0) (n:=i.toNat) g1 (Nat.zero_le _)
 have hk6:=dB (es:=es) (m:=i.toNat) (n:=es.length) (Nat.le_refl _) g1
 try have hk7:=dB (es:=es) (m:=i.toNat+1) (n:=es.length) (Nat.le_refl _) hlt'
 have hle1:=bF (es:=es) (n:=i.toNat+1)
 have hcE:ag es=es.length+bD es:=rfl
 rw[bG]at hk5
 try have hk8:=gC (es:=es) (n:=i.toNat) hlt'
 have ha1:bJ .add .i64 k' 1=k'+1:=bB (by omega)
 have ha2:bJ .add .i64 (k'+1) 1=k'+1+1:=bB (by omega)
 have ha3:bJ .add .i64 (k'+1+1) 1=k'+1+1+1:=bB (by omega)
 have ha4:bJ .add .i64 (k'+1+1+1) 1=k'+1+1+1+1:=bB (by omega)
 try simp only[ha1,ha2,ha3,ha4]
 try simp only[az]
 try simp only[vP,hcg,List.take,List.drop,List.length_cons,List.length_nil,List.nil_append,List.cons_append,List.append_nil,Nat.zero_add,Nat.reduceAdd,dh hcl,List.set_set,List.append_assoc]
 try simp only[oj,hcg,dh hcl,List.getD_cons_zero,List.getD_cons_succ,EK]
 try simp only[sD hcl,nP hcl,sE hcl,uM hcl,hcg,List.getElem?_cons_zero,List.getElem?_cons_succ]
 first|exact⟨g0,hlt⟩|(refine⟨_,_,rfl,by simp,?_⟩;show List.take _ (List.drop _ _)=[L.s _ (jy _ _)];simp only[sV,oj,hcg,dh hcl,List.getD_cons_zero,List.getD_cons_succ,Nat.add_zero,EK];rfl)|exact⟨trivial,_,rfl,rfl⟩|exact⟨_,rfl⟩|omega|(rw[hk',show i.toNat=es.length from by omega,hk3];done)|(rw[hc,show i.toNat=es.length from by omega,vi];rfl)|(rw[show(i+1).toNat=i.toNat+1 from by omega,hks,hk'];rfl)|(rw[show(i+1).toNat=i.toNat+1 from by omega, <-hms,hc,hk'];rfl)|(refine⟨hr0,?_,?_,?_⟩<;>(try simp only[ag,am])<;>first|omega|(rw[hk'];omega))|trace_state):p:=h
theorem su {p:Prop}(h:p:=by
 intro O r F hO hr hF;cbv
 repeat' first|apply And.intro|(apply bi<;>intro hb<;>cbv)
 all_goals(subst hO hr hF;(try simp only[nc]at*);(try simp only[ah,SS,sa,az]at*))
 all_goals first|trivial|trace_state):p:=h
theorem Um {p:Prop}(h:p:=by
 have hk1:=fc (es:=es) (k:=k) (n:=i.toNat)
 have hk2:=fc (es:=es) (k:=k) (n:=i.toNat+1)
 have hk3:=li (es:=es) (k:=k)
 have hk4:=fc (es:=es) (k:=k) (n:=es.length)
 have hk5:=dB (es:=es) (m:=0) (n:=i.toNat) g1 (Nat.zero_le _)
 have hk6:=dB (es:=es) (m:=i.toNat) (n:=es.length) (Nat.le_refl _) g1
 try have hk7:=dB (es:=es) (m:=i.toNat+1) (n:=es.length) (Nat.le_refl _) hlt'
 have hle1:=bF (es:=es) (n:=i.toNat+1)
 have hcE:ag es=es.length+bD es:=rfl
 rw[bG]at hk5
 try have hk8:=gC (es:=es) (n:=i.toNat) hlt'
 try rw[<-hk']at hem hks
 have ha1:bJ .add .i64 k' 1=k'+1:=bB (by omega)
 have ha2:bJ .add .i64 (k'+1) 1=k'+1+1:=bB (by omega)
 have ha3:bJ .add .i64 (k'+1+1) 1=k'+1+1+1:=bB (by omega)
 have ha4:bJ .add .i64 (k'+1+1+1) 1=k'+1+1+1+1:=bB (by omega)
 try simp only[ha1,ha2,ha3,ha4]at*
 first|exact ip hwm g0 hltm|omega|(exfalso;revert hb;simp only[hem,co,bJ];simp;done)|(rw[hk',show i.toNat=es.length from by omega,hk3,hkk];done)|(rw[show(i+1).toNat=i.toNat+1 from by omega,hks];done)|(rw[show(i+1).toNat=i.toNat+1 from by omega,hks,hem];simp only[am,dn];done)|(rw[show(i+1).toNat=i.toNat+1 from by omega,hks,hem.2];simp only[am,dn];done)|(refine⟨_,by first|exact hem|exact hem.2|exact hem.1|rfl,hr0,?_,?_,?_⟩<;>(try simp only[am,dn,ag])<;>omega)|(refine⟨_,by first|exact hem|exact hem.2|exact hem.1|rfl,hr0,?_,?_,?_⟩<;>(try rw[hem])<;>(try rw[hem.2])<;>(try simp only[am,dn,ag])<;>omega)|(exfalso;simp only[am,dn]at hb;omega)|(exfalso;(first|rw[hem]at hb|rw[hem.2]at hb);simp only[am,dn]at hb;omega)|trivial|trace_state):p:=h
theorem KW {p:Prop}(h:p:=by
 try rw[da (n:=es.length) g0 hlt (by omega)]
 try have hct:=cq (es:=es) (n:=i.toNat) (by omega);rw[he]at hct;simp only[cL,eC,Nat.add_zero,Nat.zero_add]at hct
 have hle1:=bF (es:=es) (n:=i.toNat+1)
 have hcE:ag es=es.length+bD es:=rfl
 first|omega|exact ip hwf g0 hlt|trivial|trace_state):p:=h
theorem KX {p:Prop}(h:p:=by
 intro O r F hO hr hF;cbv
 repeat' first|apply And.intro|(apply bi<;>intro hb<;>cbv)
 all_goals(subst hO hr hF;(try simp only[nc]at*);(try simp only[ah,SS,sa,az]at*))
 all_goals first|exact hs|trivial|exact⟨trivial,trivial⟩|exact⟨hw,hl⟩|omega|(show aV _ _=true;kernel_rfl)|(simp only[List.length_nil];omega)|exact rfl|done):p:=h
theorem Jk {p:Prop}(h:p:=by
 intro O r F hO hr hF;cbv
 repeat' first|apply And.intro|(apply bi<;>intro hb<;>cbv)
 all_goals(subst hO hr hF;(try simp only[nc]at*);(try simp only[ah,SS,sa,az]at*))
 all_goals(try simp only[hs]at*)
 all_goals first|trivial|(rw[hn,if_pos (by omega)])|(rw[hn,if_neg (by omega)])):p:=h
theorem UO {p:Prop}(h:p:=by
 (subst hO hr hF;(try simp only[nc]at*);(try simp only[ah,SS,sa,az]at*))
 try rw[cE (by omega) (by omega)]
 try(have hol:out.length=i.toNat:=(by rw[i2,List.length_take];omega))
 try(have hok:ou2.length=k.toNat:=(by rw[k2,List.length_take];omega))
 try(have hsc:=lH wb i0 (by assumption);have hsl:=aU (es:=aO b i 0))
 try(have hsd:=lH wx k0 (by assumption);have hsm:=aU (es:=aO x k 0))
 first
  | (show(_:List DV)=_
     first
      |exact rfl
      |(rw[i2,eW (by omega)];rfl)
      |(rw[i2,k2,eW (by omega),eW (by omega)];rfl)
      |done)
  |omega
  |exact fe
  |(show aV _ _=true;kernel_rfl)
  |exact Rw.scal (fs:=[tI]) (by(first|assumption|exact Rw.sub (by first|assumption|exact Rw.sub (by assumption) (by omega) rfl) (by omega) rfl)) rfl
  |exact Rw.scal (fs:=[tI,tI]) (by(first|assumption|exact Rw.sub (by first|assumption|exact Rw.sub (by assumption) (by omega) rfl) (by omega) rfl)) rfl
  |exact⟨by(first|assumption|exact Rw.sub (by first|assumption|exact Rw.sub (by assumption) (by omega) rfl) (by omega) rfl),by omega⟩
  |(simp only[List.length_nil,List.length_cons];omega)
  |(rw[i2,List.nil_append];exact(eX wb i0 (by assumption)).symm)
  |(rw[k2];exact(eX wx k0 (by assumption)).symm)
  |(rw[k2,List.nil_append];exact(eX wx k0 (by assumption)).symm)
  |exact⟨trivial,trivial⟩
  |trivial
  |exact rfl
  |done):p:=h
theorem Nq {p:Prop}(h:p:=by
 try have hct:=cq (es:=es) (n:=i.toNat) (by omega);rw[he]at hct;simp only[cL,eC,Nat.add_zero,Nat.zero_add]at hct
 have hle1:=bF (es:=es) (n:=i.toNat+1)
 have hcE:ag es=es.length+bD es:=rfl
 first|exact ip hwf g0 hlt|exact⟨g0,hlt⟩|(rw[hm];exact f8 (by rw[fU g1];omega) (by rw[jg (by omega)];exact Nat.le_refl _))|omega|(rw[show(i+1).toNat=i.toNat+1 from by omega, <-xF (by omega), <-hm,oF (by rw[hm,jg (by omega)];rfl),he])|(rw[hm,fU g1];exact⟨trivial,rfl⟩)|(rw[hm,show i.toNat=es.length from by omega,xE])|trivial|(refine⟨hr0,?_⟩;simp only[ax,ag,Nat.add_zero];omega)|trace_state):p:=h
theorem Q5 {p:Prop}(h:p:=by
 (subst hO hr hF;(try simp only[nc]at*);(try simp only[ah,SS,sa,az]at*))
 try rw[cE (by omega) (by omega)]
 try(have hol:out.length=i.toNat:=(by rw[i2,List.length_take];omega))
 try(have hsc:=lH hc i0 (by assumption);have hsl:=aU (es:=aO ls i 0))
 first
  | (show(_:List DV)=_
     first
      |exact rfl
      |(rw[i2,eW (by omega)];rfl)
      |(rw[i2,k2,eW (by omega),eW (by omega)];rfl)
      |done)
  |omega
  |exact fe
  |(show aV _ _=true;kernel_rfl)
  |exact Rw.scal (fs:=[tI]) (by(first|assumption|exact Rw.sub (by first|assumption|exact Rw.sub (by assumption) (by omega) rfl) (by omega) rfl)) rfl
  |exact Rw.scal (fs:=[tI,tI]) (by(first|assumption|exact Rw.sub (by first|assumption|exact Rw.sub (by assumption) (by omega) rfl) (by omega) rfl)) rfl
  |exact⟨by(first|assumption|exact Rw.sub (by first|assumption|exact Rw.sub (by assumption) (by omega) rfl) (by omega) rfl),by omega⟩
  |(simp only[List.length_nil,List.length_cons];omega)
  |(rw[i2];exact(eX hc i0 (by assumption)).symm)
  |(rw[i2,List.nil_append];exact(eX hc i0 (by assumption)).symm)
  |exact⟨trivial,trivial⟩
  |trivial
  |exact rfl
  |done):p:=h
theorem Jg {p:Prop}(h:p:=by
 intro O r os F hO hr hos hF;cbv
 repeat' first|apply And.intro|(apply bi<;>intro hb<;>cbv)
 all_goals((try subst hos);subst hO hr hF;(try simp only[nc]at*);(try simp only[ah,SS,sa,az]at*))
 all_goals(try simp only[fk,List.cons_append,List.nil_append,b8]at*)
 all_goals first|trivial|(refine⟨by assumption,?_,?_,?_⟩<;>(try simp only[fk,List.cons_append,List.nil_append,ax,Nat.add_zero])<;>omega)|trace_state):p:=h
theorem Jh {p:Prop}(h:p:=by
 intro O r F hO hr hF;cbv
 repeat' first|apply And.intro|(apply bi<;>intro hb<;>cbv)
 all_goals(subst hO hr hF;(try simp only[nc]at*);(try simp only[ah,SS,sa,az]at*))
 all_goals(try simp only[fk,List.cons_append,List.nil_append]at*)
 all_goals first|trivial|(exfalso;omega)|(obtain⟨x,y1,y2,y3⟩:=e0;exact⟨x,y1,y2,y3,by omega,by omega⟩)|(refine⟨by assumption,by omega,by omega⟩)|trace_state):p:=h
theorem Nr {p:Prop}(h:p:=by
 try have hct:=cq (es:=es) (n:=i.toNat) (by omega);rw[he]at hct;simp only[cL,eC,Nat.add_zero,Nat.zero_add]at hct
 have hle1:=bF (es:=es) (n:=i.toNat+1)
 simp only[ax,ag,Nat.add_zero]at hsz hsz2
 first|exact ip hwf g0 hlt|exact⟨hr0,by omega,by omega⟩|trivial|omega|(rw[hn,if_pos];omega)|(rw[hn,if_neg (by rw[show i.toNat=es.length from by omega,List.take_length]at g3;omega),show l=left-ag es from by rw[show i.toNat=es.length from by omega,List.take_length]at g3;omega])|(rw[show(i+1).toNat=i.toNat+1 from by omega,hct];omega)|trace_state):p:=h
theorem Q6 {p:Prop}(h:p:=by
 (subst hO hr hF;(try simp only[nc]at*);(try simp only[ah,SS,sa,az]at*))
 try rw[cE (by omega) (by omega)]
 try(have hol:out.length=i.toNat:=(by rw[i2,List.length_take];omega))
 try(have hsc:=lH hr9 i0 (by assumption);have hsl:=aU (es:=aO a9 i 0))
 first
  | (show(_:List DV)=_
     first
      |exact rfl
      |(rw[i2,eW (by omega)];rfl)
      |done)
  |omega
  |exact fe
  |(show aV _ _=true;kernel_rfl)
  |exact hs5
  |exact hs6
  |exact hs7
  |exact hs8
  |exact⟨hr0,hr1,hr2,hr4,by omega,by omega,by omega,by omega⟩
  |exact⟨hr5,by omega⟩
  |exact⟨hr10,hr11,by omega,by omega⟩
  |exact⟨hr13,by omega⟩
  |exact⟨hr21,by omega⟩
  |exact⟨Hf hr9 i0 (by assumption),by omega⟩
  |(simp only[List.length_nil,List.length_cons];omega)
  |(rw[i2];exact(eX hr9 i0 (by assumption)).symm)
  |exact⟨trivial,trivial⟩
  |trivial
  |exact rfl
  |done):p:=h
theorem Ji {p:Prop}(h:p:=by
 intro O r os F hO hr hos hF;cbv
 repeat' first|apply And.intro|(apply bi<;>intro hb<;>cbv)
 all_goals((try subst hos);subst hO hr hF;(try simp only[nc]at*);(try simp only[ah,SS,sa,az]at*))
 all_goals(try simp only[fk,List.cons_append,List.nil_append,b8]at*)
 all_goals first|trivial|trace_state):p:=h
theorem Q7 {p:Prop}(h:p:=by
 (try have z:=MM (by assumption))
 (try have y2:=hp.xn j)
 (try have y1:=hp.bn i)
 (try have z6:bJ .add .i64 k 1=k+1:=bB (by omega))
 (try simp only[z6]at*)
 first
  | (show(_:List DV)=_
     first
      |(refine pG ?_;exact SH (by assumption))
      |(refine pG ?_;exact LF j2 (by assumption) j1 (by assumption))
      |done)
  |omega
  |exact fe
  |exact Rw.scal (Rw.sub (fs:=[.sl [tI]]) hxw (by omega) rfl) rfl
  |(have q:=k2.l;constructor<;>(simp only[List.length_cons,List.length_nil];omega))
  |(have q:=j2.l;constructor<;>omega)
  |exact Or k2 k0
  |exact Ly k2 i0 y1 k1 (by omega)
  |exact R8 i2
  |exact Sc i2 i1 (by omega)
  |exact Ow j2 j0 y2
  |exact R7
  |exact⟨True.intro,True.intro⟩
  |done):p:=h
theorem Q8 {p:Prop}(h:p:=by
 (try simp only[z9]at*)
 first
  | (show(_:List DV)=_
     first
      |(refine ai ?_;symm;exact MI (by assumption))
      |(refine ai ?_;symm;exact MJ (by assumption))
      |(refine ai ?_;symm;exact Gq i0 (by omega) k0 (by assumption) (P8 (by assumption)))
      |(refine ai ?_;symm;exact Gq i0 (by omega) k0 (by assumption) (P9 (by assumption)))
      |(refine ai ?_;symm;exact ML i0 (by omega) j0 (by assumption) (RX (by assumption)))
      |(refine ai ?_;rw[MH i2 (by assumption) (by omega) i1 (by omega)];rfl)
      |done)
  |omega
  |exact fe
  |(show aV _ _=true;kernel_rfl)
  |exact bu
  |exact aY k2 (Qa (by assumption) (by assumption))
  |exact aY j2 (N4 (by assumption))
  |exact PI i2 i0 k2 (by omega) j2 (by omega)
  |exact To
  |done):p:=h
theorem Q9 {p:Prop}(h:p:=by
 (subst hO hr hF;(try simp only[nc]at*);(try simp only[ah,SS,sa,az]at*))
 try rw[cE (by omega) (by omega)]
 (try have z:=xf i0 (by omega))
 (try simp only[z]at*)
 first
  | (show(_:List DV)=_
     first
      |(refine ai ?_;symm;exact M6 i0 (by assumption) (by assumption))
      |(refine ai ?_;symm;exact M7 i0 (by assumption) (by assumption) (by assumption))
      |(refine ai ?_;exact M5 i2 (by omega))
      |(have q:false=true:=(by assumption);cases q)
      |done)
  |omega
  |exact fe
  |(show aV _ _=true;kernel_rfl)
  |exact bu
  |exact aY i2 (IP (by assumption) (by omega))
  |exact aY i2 (IQ (by assumption) (by assumption))
  |done):p:=h
theorem Ra {p:Prop}(h:p:=by
 (subst hO hr hF;(try simp only[nc]at*);(try simp only[ah,SS,sa,az]at*))
 try rw[cE (by omega) (by omega)]
 first|omega|exact fe|exact bu|contradiction|exact ai (LB (by assumption)).symm|exact ai (LC (by omega)).symm|exact ai (LD i0 (by omega) (by omega)).symm|exact ai (Fu i0 (by omega) k0 (by omega) (.inl (by assumption))).symm|exact ai (Fu i0 (by omega) k0 (by omega) (.inr ⟨by assumption,by assumption⟩)).symm|exact ai (LE (by assumption) (by omega) i2 (by omega)).symm|exact aY i2 (Ov (by omega) k2 (by omega))|exact aY k2 (Od (by assumption) (by first|exact .inl (by assumption)|exact .inr (by assumption)))|trace_state):p:=h
theorem Rb {p:Prop}(h:p:=by
 intro O r os F hO hr hos hF;cbv
 repeat' first|apply And.intro|(apply bi<;>intro hb<;>cbv)
 all_goals((try subst hos);subst hO hr hF;(try simp only[nc]at*);(try simp only[ah,SS,sa,az]at*))
 all_goals first
  |(show(_:List DV)=_;exact rfl)
  | (show(_:List H)=_
     first
      |(have q:=R3 (cs:=cs) (us:=us) (es:=es) (f:=f) (by assumption);first|(rw[q.1,q.2,KQ wc f0 f1,Q1 wu f0 (by omega)];done)|(rw[q.1,q.2,KQ wc f0 f1,Q1 wu f0 (by omega)];exact rfl))
      |(have q:=R4 (cs:=cs) (us:=us) (es:=es) (f:=f) (by assumption);first|(rw[q.1,q.2];done)|(rw[q.1,q.2];exact rfl))
      |done)
  |omega
  |exact⟨we,el⟩
  |(show aV _ _=true;kernel_rfl)
  |exact Uf wu f0 (by omega)
  |exact QX wc f0 f1
  |exact⟨True.intro,True.intro⟩
  |exact True.intro
  |done):p:=h
theorem Ns {p:Prop}(h:p:=by
 try have hct:=cq (es:=es) (n:=i.toNat) (by omega);rw[he]at hct;simp only[cL,eC,Nat.add_zero,Nat.zero_add]at hct
 have hle1:=bF (es:=es) (n:=i.toNat+1)
 have hcE:ag es=es.length+bD es:=rfl
 first|omega|exact ip hwf g0 hlt|trivial|(refine⟨trivial,hr0,?_⟩;simp only[ax,ag,Nat.add_zero];omega)|trace_state):p:=h
theorem Rc {p:Prop}(h:p:=by
 (subst hO hr hF;(try simp only[nc]at*);(try simp only[ah,SS,sa,az]at*))
 try rw[cE (by omega) (by omega)]
 try(have hpl:=zm (es:=es) (f:=f) (n:=i.toNat);rw[<-i2]at hpl)
 first|omega|exact fe|(exact⟨trivial,trivial⟩)|rfl|(simp only[List.length_cons,List.length_nil];omega)|(rw[IF i0 (by assumption) (by assumption), <-i2])|(rw[GJ i0 (.inl (by assumption)), <-i2])|(rw[GJ i0 (.inr (by assumption)), <-i2])|exact Ct (by rw[i2,show i.toNat=es.length from by omega];rfl)|trace_state):p:=h
theorem Re {p:Prop}(h:p:=by
 intro O r F hO hr hF;cbv
 repeat' first|apply And.intro|(apply bi<;>intro hb<;>cbv)
 all_goals(subst hO hr hF;(try simp only[nc]at*);(try simp only[ah,SS,sa,az]at*))
 all_goals(try simp only[hsb]at*)
 all_goals(try simp only[bH,nR]at*)
 all_goals first|exact Ai (DF (by omega)).1.symm (DF (by omega)).2.symm|exact Ai (zh (by omega)).1.symm (zh (by omega)).2.symm|exact fe|trace_state):p:=h
theorem Rf {p:Prop}(h:p:=by
 intro O r F hO hr hF;cbv
 repeat' first|apply And.intro|(apply bi<;>intro hb<;>cbv)
 all_goals(subst hO hr hF;(try simp only[nc]at*);(try simp only[ah,SS,sa,az]at*))
 all_goals(try simp only[fk,List.cons_append,List.nil_append]at*)
 all_goals first|trivial|(exfalso;omega)|(obtain⟨x,y1,y2,y3⟩:=e0;exact⟨x,y1,y2,y3,by omega,by omega⟩)|(obtain⟨x,y1,y2,y3⟩:=e1;exact⟨x,y1,y2,y3,by omega,by omega⟩)|(refine⟨by assumption,by omega,by omega⟩)|(refine⟨by assumption,by assumption,by omega,by omega⟩)|trace_state):p:=h
theorem Rh {p:Prop}(h:p:=by
 intro O r F hO hr hF;cbv
 repeat' first|apply And.intro|(apply bi<;>intro hb<;>cbv)
 all_goals(subst hO hr hF;(try simp only[nc]at*);(try simp only[ah,SS,sa,az]at*))
 all_goals try(have hs:=Ue.1 (‹slB b i=true›);have hw:=Hr hs.2.1 hs.2.2;simp only[hw]at*)
 all_goals first
  | (show(_:List DV)=_
     first
      |exact ai (OU (by assumption)).symm
      |(refine ai (eA ?_);unfold hsB;rw[show slB b i=true from by assumption,Bool.true_and,decide_eq_true_eq];simp only[SS])
      |done)
  |omega
  |trace_state):p:=h
theorem Ri {p:Prop}(h:p:=by
 (subst hO hr hF;(try simp only[nc]at*);(try simp only[ah,SS,sa,az]at*))
 try rw[cE (by omega) (by omega)]
 first|omega|exact fe|exact bu|contradiction|exact ai (Nm i2 (by omega)).symm|(simp only[bH,nR]at*;first|exact ai (Q0 i0 (by omega) (by omega)).symm|exact aY i2 (QZ (by omega)))|trace_state):p:=h
theorem Rj {p:Prop}(h:p:=by
 (subst hO hr hF;(try simp only[nc]at*);(try simp only[ah,SS,sa,az]at*))
 try rw[cE (by omega) (by omega)]
 first|(show(_:List DV)=_;exact cT (M3 i2 i1 (by omega)))|omega|exact fe|exact TE|exact Qu i2 i0 (by omega)|done):p:=h
theorem Rk {p:Prop}(h:p:=by
 intro O r F hO hr hF;cbv
 repeat' first|apply And.intro|(apply bi<;>intro hb<;>cbv)
 all_goals(subst hO hr hF;(try simp only[nc]at*);(try simp only[ah,SS,sa,az]at*))
 all_goals(try have t:=bH.1 hb)
 all_goals(try have z:bJ .sub .i64 n l=n-l:=cO (by omega))
 all_goals(try simp only[z]at*)
 all_goals first|(show(_:List DV)=_;refine ai ?_;unfold rngIn;simp[hb];done)|done):p:=h
theorem Rl {p:Prop}(h:p:=by
 (try simp only[bH,nR]at*)
 (try rw[cE (by omega) (by omega)])
 first|trivial|omega|exact JH (by omega) (by assumption) (by omega)|(have:=JH (k:=k) (s:=s) (by omega) (by assumption) (by omega);omega)|exact cT (Oe (by omega)).symm|exact cT (Lq (by omega) (by assumption) (by omega) (by assumption)).symm|exact .inl trivial|(rw[show k+1-1=k by omega];exact .inr (by assumption))|trace_state):p:=h
theorem Rm {p:Prop}(h:p:=by
 intro O r F hO hr hF;cbv
 repeat' first|apply And.intro|(apply bi<;>intro hb<;>cbv)
 all_goals(subst hO hr hF;(try simp only[nc]at*);(try simp only[ah,SS,sa,az]at*))
 all_goals first
  | (show(_:List DV)=_
     first
      |exact Ct (Ft (by assumption)).symm
      |exact Ct (C6 (by assumption)).symm
      |done)
  |exact⟨hw,hn⟩
  |exact hw
  |exact⟨True.intro,True.intro⟩
  |trace_state):p:=h
theorem Rn {p:Prop}(h:p:=by
 intro O r F hO hr hF;cbv
 repeat' first|apply And.intro|(apply bi<;>intro hb<;>cbv)
 all_goals(subst hO hr hF;(try simp only[nc]at*);(try simp only[ah,SS,sa,az]at*))
 all_goals first
  | (show(_:List DV)=_
     first
      |exact ai (by unfold slB;rw[decide_eq_true (by assumption)];rfl)
      |exact ai (by unfold slB;rw[decide_eq_false (by omega)];rfl)
      |done)
  |trace_state):p:=h
theorem Ro {p:Prop}(h:p:=by
 intro O r F hO hr hF;cbv
 repeat' first|apply And.intro|(apply bi<;>intro hb<;>cbv)
 all_goals(subst hO hr hF;(try simp only[nc]at*);(try simp only[ah,SS,sa,az]at*))
 all_goals first|(show aV _ _=true;kernel_rfl)|exact hs|exact⟨hc,hu,he,hn,hm,hk⟩|exact⟨hr,by omega⟩|exact⟨trivial,trivial⟩|trivial|(simp only[List.length_nil];omega)|exact rfl|done):p:=h
theorem Rp {p:Prop}(h:p:=by
 intro O r F hO hr hF;cbv
 repeat' first|apply And.intro|(apply bi<;>intro hb<;>cbv)
 all_goals(subst hO hr hF;(try simp only[nc]at*);(try simp only[ah,SS,sa,az]at*))
 all_goals first|(show(_:List DV)=_;refine ai ?_;unfold mshB;simp[*];done)|(show(_:List DV)=_;refine ai ?_;unfold mshB;subst_vars;rw[cmp_eq];simp[*];done)|done):p:=h
theorem Rq {p:Prop}(h:p:=by
 intro O r F hO hr hF;cbv
 repeat' first|apply And.intro|(apply bi<;>intro hb<;>cbv)
 all_goals(subst hO hr hF;(try simp only[nc]at*);(try simp only[ah,SS,sa,az]at*))
 all_goals iterate 1 (try simp(disch:=assumption) only[hH,List.cons_append,List.nil_append]at*)
 all_goals first|trivial|(rw[gJ (by assumption)])|trace_state):p:=h
theorem Rr {p:Prop}(h:p:=by
 intro O r F hO hr hF;cbv
 repeat' first|apply And.intro|(apply bi<;>intro hb<;>cbv)
 all_goals(subst hO hr hF;(try simp only[nc]at*);(try simp only[ah,SS,sa,az]at*))
 all_goals iterate 2 (try simp(disch:=assumption) only[hH,List.cons_append,List.nil_append]at*)
 all_goals first|trivial|(rw[gJ (by assumption)])|trace_state):p:=h
theorem Rs {p:Prop}(h:p:=by
 intro O r F hO hr hF;cbv
 repeat' first|apply And.intro|(apply bi<;>intro hb<;>cbv)
 all_goals(subst hO hr hF;(try simp only[nc]at*);(try simp only[ah,SS,sa,az]at*))
 all_goals first|(show aV _ _=true;kernel_rfl)|exact⟨hc,hu,hn,hm⟩|exact⟨he,by omega⟩|exact⟨trivial,trivial⟩|trivial|exact rfl|trace_state):p:=h
theorem Rt {p:Prop}(h:p:=by
 intro O r F hO hr hF;cbv
 repeat' first|apply And.intro|(apply bi<;>intro hb<;>cbv)
 all_goals(subst hO hr hF;(try simp only[nc]at*);(try simp only[ah,SS,sa,az]at*))
 all_goals first
  | (show(_:List DV)=_
     first
      |exact cT (MX (by assumption))
      |exact cT (Kx (by assumption)).symm
      |done)
  |omega
  |done):p:=h
theorem Nt {p:Prop}(h:p:=by
 (subst hO hr hF;(try simp only[nc]at*);(try simp only[ah,SS,sa,az]at*))
 (try simp only[hs]at*)
 first|trivial|(rw[hn,if_pos (by omega)])|trace_state):p:=h
theorem Ru {p:Prop}(h:p:=by
 intro O r F hO hr hF;cbv
 repeat' first|apply And.intro|(apply bi<;>intro hb<;>cbv)
 all_goals(subst hO hr hF;(try simp only[nc]at*);(try simp only[ah,SS,sa,az]at*))
 all_goals first
  | (show(_:List DV)=_
     first
      |exact cT (Po (by assumption))
      |exact cT (Pp (by assumption)).symm
      |done)
  |done):p:=h
theorem Rv {p:Prop}(h:p:=by
 intro O r F hO hr hF;cbv
 repeat' first|apply And.intro|(apply bi<;>intro hb<;>cbv)
 all_goals(subst hO hr hF;(try simp only[nc]at*);(try simp only[ah,SS,sa,az]at*))
 all_goals first
  | (show(_:List DV)=_
     first
      |exact ai (eA (by unfold eqB;simp only[SS,decide_eq_true_eq]))
      |done)
  |done):p:=h
theorem Rx {p:Prop}(h:p:=by
 intro O r F hO hr hF;cbv
 repeat' first|apply And.intro|(apply bi<;>intro hb<;>cbv)
 all_goals(subst hO hr hF;(try simp only[nc]at*);(try simp only[ah,SS,sa,az]at*))
 all_goals first|trivial|(refine⟨trivial,by assumption,?_⟩;(try simp only[ax,Nat.add_zero]);omega)|trace_state):p:=h
theorem Ry {p:Prop}(h:p:=by
 intro O r F hO hr hF;cbv
 repeat' first|apply And.intro|(apply bi<;>intro hb<;>cbv)
 all_goals(subst hO hr hF;(try simp only[nc]at*);(try simp only[ah,SS,sa,az]at*))
 all_goals first|trivial|(refine⟨by assumption,?_⟩;(try simp only[ax,Nat.add_zero]);omega)|trace_state):p:=h
theorem Rz {p:Prop}(h:p:=by
 intro O r F hO hr hF;cbv
 repeat' first|apply And.intro|(apply bi<;>intro hb<;>cbv)
 all_goals(subst hO hr hF;(try simp only[nc]at*);(try simp only[ah,SS,sa,az]at*))
 all_goals first|exact hp|(show(_:List DV)=_;refine ai ?_;unfold jbOk;simp[*];done)|done):p:=h
theorem RA {p:Prop}(h:p:=by
 first|trivial|(refine⟨by assumption,by omega,by first|omega|exact Int.le_trans (vM (by assumption)) h1⟩)|(rw[gJ (by assumption)])|exact congrArg (fun x=>[DV.one (L.v (Value.int IntKind.i64 x))]) (dV (a:=[a0]) (b:=[a1]) (by assumption)).symm|trace_state):p:=h
theorem RB {p:Prop}(h:p:=by
 intro O r F hO hr hF;cbv
 repeat' first|apply And.intro|(apply bi<;>intro hb<;>cbv)
 all_goals(subst hO hr hF;(try simp only[nc]at*);(try simp only[ah,SS,sa,az]at*))
 all_goals first|exact hp|exact rfl|done):p:=h
theorem RD {p:Prop}(h:p:=by
 intro O r F hO hr hF;cbv
 repeat' first|apply And.intro|(apply bi<;>intro hb<;>cbv)
 all_goals(subst hO hr hF;(try simp only[nc]at*);(try simp only[ah,SS,sa,az]at*))
 all_goals first|exact rfl|done):p:=h
theorem RE {p:Prop}(h:p:=by
 first|exact cT (Oh (by assumption)).symm|(refine cT ?_;rw[JG (by assumption)])|(rw[bH]at*;omega)|trace_state):p:=h
theorem fe {p:Prop}(h:p:=by
 refine⟨by omega,by omega,(Rw.eta (by first|assumption|exact Rw.sub (by first|assumption|exact Rw.sub (by assumption) (by omega) rfl) (by omega) rfl) (by omega) (by omega)).trans ?_⟩;rfl):p:=h
end Go.V