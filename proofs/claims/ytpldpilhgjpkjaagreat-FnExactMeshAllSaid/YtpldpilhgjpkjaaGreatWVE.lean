/-
  A condition generator for functions on trees of data, part 5 of 5: values in memory, contracts, soundness.
-/
import Derived.Test.YtpldpilhgjpkjaaGreatWVD
set_option linter.all false
open Go
open Bool renaming and_eq_true->Zc
open Code renaming wp_mono->Yz
open Ending renaming returned->Xw
open Int renaming ofNat->Ww,le_refl->Yh,natCast_nonneg->Xn
open List renaming range'->YU,ext_getElem?->ZN,getElem?_map->ZD,getElem?_range'->Vf,getD->Zv,getElem?_eq_none->ZV,mem_append->Zg,all_eq_true->Yo,mem_of_getElem?->Zw,getElem?_eq_some_iff->ZF,range->Zl,getElem?_eq_getElem->Zr,getElem?_of_mem->YG,getD_eq_getElem?_getD->Zn,length_take->Zm,getElem?_append_right->ZX,drop_eq_getElem_cons->XA,take_append_drop->ZR,all_cons->XN
open Nat renaming beq->ZK,ble->Ys,le_of_ble_eq_true->YH,lt_or_ge->ZY,add_assoc->YD,le_trans->Z8,mul_le_mul_left->XW,mul_add->Vg
open Option renaming map_some->Yf,getD_some->Z0
namespace Go.V
def DR {α:Type}(pr:(Unit->Prop)->Prop)(r:Nat):Nat->List H->(List H->Rd α)->Rd α
 |_,[],k=>k []
 | j,h0::hs,k=>ig r j fun h=>match h.c with
   | .own l=>DR pr r (j+1) hs fun cs=>k (.own l::cs)
   | .ro l=>match h0 with
     | .ro l0=>match h.org with
       |some i=>if ZK i (r*1000+j)then .req (pr fun _=>l=l0) (DR pr r (j+1) hs fun cs=>k (.ro l0::cs))else .fail
       |none=>.fail
     |_=>.fail
   | .gone=>.fail
def NP {α:Type}(pr:(Unit->Prop)->Prop)(os:Nat->List H):List (Nat×List H)->Nat->Rd α->Rd α
 |[],_,k=>k
 |(r,hs)::m,i,k=>DR pr r 0 hs fun cs=>.req (pr fun _=>cs=os i) (NP pr os m (i+1) k)
def KP (T:y9)(O:F1)(ts:List TypeId)(rvs:List ResultVar)(m:List (Nat×List H))(σ:VS)(res:List DV)(os:Nat->List H):Prop:=
 (BG T O ts rvs fun ds srcs=>if bp srcs&&srcs.all (fun s=>m.all fun q=> !(s.1.beq q.1))then .req (O.pr fun _=>ds=res) (NP O.pr os m 0 (.ret ()))else .fail).wpU (get σ) [] fun _ _=>True
def aas (T:y9)(O:F1)(ts:List TypeId)(rvs:List ResultVar)(m:List (Nat×List H))(res:List DV)(os:Nat->List H):Ex->VS->Prop
 | .normal,σ=>KP T O ts rvs m σ res os
 | .ret,σ=>KP T O ts rvs m σ res os
 | .exit _,_=>False
section
variable {P: Program} {T: y9} {cx: Cx} {G: Gh} {g: Gm} {a: Act} {w: World}
def PO (fz:List (Nat×List Nat))(hT:bF P T){Φ:Type}{F0:Φ}{ctF:Φ->CT}{mtF:Φ->MT}{ptF:Φ->PT}{ntF:Φ->NT}{otF:Φ->OT}(hct:Ch P (ctF F0))(hmt:Gc P (mtF F0))(hpt:Gf P (ptF F0))(hnw:Gd P (ntF F0))(hot:Ge P (otF F0))(hm:P.follows .mixedOrders=true){f:FuncId}{fn:Func}{ds res:List DV}(n:Nat)(c:Code)(ts:List TypeId)(rvs:List ResultVar) 
 (hf:P.funcs[f]?=some fn) (hb:fn.body=some c) (hnt:fn.ntmps=n) (hts:fn.resultTypes.toList=ts) (hrv:fn.results.toList=rvs) (hn:Ys ds.length n=true)
 (h:∀ O r F,O=ah->r=res->F=F0->po T O ⟨ctF F,mtF F,ptF F,ntF F,otF F⟩ n [] fz c (PX T O ts rvs r) (k9 0 ds)):LI P f ds res:=by
 subst hnt hts hrv;replace h:=h ah res F0 rfl rfl rfl;replace hn:=YH hn;intro w vs hargs;refine calls_of_wp hf hb ?_;refine Yz ?_ (de (fz:=fz) (cx:=⟨fn.ntmps,w,fun _=>True,fun _=>undef,fun _=>none,fun _=>0,fun _=>True⟩) (fun _ _=>trivial) hT (ct:=⟨ctF F0,mtF F0,ptF F0,ntF F0,otF F0⟩) ⟨hct,hmt,hpt,hnw,hot⟩ hm rfl (an:=[]) (fun r x e=>by cases e) c _ _ _ w h (GI fn.ntmps w ds vs hargs hn));rintro e a' w' ⟨ex,σ',rfl,hq',G,hS⟩;have hq:D9 T ah fn.resultTypes.toList fn.results.toList σ' res:=by
  cases ex with
  |normal=>exact hq'
  |ret=>exact hq'
  |exit i=>exact hq'.elim
 have hex:ex=.normal\/ex=.ret:=by
  cases ex with
  |normal=>exact .inl rfl
  |ret=>exact .inr rfl
  |exit i=>exact hq'.elim
 unfold D9 at hq;obtain⟨ls,u,t,h1,_⟩:=Rd.wpU_runs hq;obtain⟨ds',vs',srcs,S,ls',k1,k2,k3,k4,k5⟩:=iq hS _ _ _ _ _ (jN hT (fun _ _ _ h=>h) h1);split at k5
 case isFalse=>exact k5.elim
 rename_i hd;simp only[Rd.Runs]at k5;have hres0:ds'=res:=k5.1;subst hres0;obtain⟨v,hrun,hres⟩:=pj k1 k2;have hfresh:∀ b∈S,w.heap.size<=b/\eV w' b:=by
  intro b hb;obtain⟨u,r,j,m1,m2⟩:=k4 b hb;refine⟨?_,u⟩;rcases ZY b w.heap.size with hlt|hge
  ·rcases hS.frow b hlt trivial with e|e<;>rw[m2]at e<;>cases e
  ·exact hge
 have fin:a'.defers=[]/\∃ v,(results fn a'.tmps).run P w'=.ok v w'/\∃ v' S,Xw v=.returned v'/\lK w' ds' v' S/\S.Nodup/\(∀ b∈S,w.heap.size<=b/\eV w' b)/\Same (fun _=>True) w w':=
  ⟨hS.defers,_,hrun,_,S,rfl,hres,k3 hd,hfresh,hS.frame⟩
 rcases hex with rfl|rfl;exact fin;exact fin
def Qp (hT:bF P T){Φ:Type}{F0:Φ}{ctF:Φ->CT}{mtF:Φ->MT}{ptF:Φ->PT}{ntF:Φ->NT}{otF:Φ->OT}(hct:Ch P (ctF F0))(hmt:Gc P (mtF F0))(hpt:Gf P (ptF F0))(hnw:Gd P (ntF F0))(hot:Ge P (otF F0))(hm:P.follows .mixedOrders=true){f:FuncId}{fn:Func}{ds res:List DV}{outs:ax}(n:Nat)(c:Code)(ts:List TypeId)(rvs:List ResultVar)(locs:List (Nat×Nat)) 
 (hf:P.funcs[f]?=some fn) (hb:fn.body=some c) (hnt:fn.ntmps=n) (hts:fn.resultTypes.toList=ts) (hrv:fn.results.toList=rvs) (hn:Ys ds.length n=true) (hlo:(ds.flatMap fun d=>slL (aR d)).length=outs.length) (hlo2:locs.length=outs.length)
 (h:∀ O r os F,O=ah->r=res->os=(fun i=>outs.getD i .g)->F=F0->po T O ⟨ctF F,mtF F,ptF F,ntF F,otF F⟩ n [] [] c (PW T O ts rvs locs r os) (Dz O ds)):Ga P f ds outs res:=by
 subst hnt hts hrv;replace h:=h ah res _ F0 rfl rfl rfl rfl;replace hn:=YH hn;intro w vs S hr hnd hunf;refine calls_of_wp hf hb ?_;refine Yz ?_ (de (fz:=[]) (cx:=⟨fn.ntmps,w,fun b=>b∉S,fun i=>(dj ds vs).getD i undef,fun _=>none,fun _=>0,fun _=>True⟩) (fun q=>absurd rfl q) hT (ct:=⟨ctF F0,mtF F0,ptF F0,ntF F0,otF F0⟩) ⟨hct,hmt,hpt,hnw,hot⟩ hm rfl (an:=[]) (fun r x e=>by cases e) c _ _ _ w h (DC fn.ntmps w ds vs S hr hnd hunf hn));rintro e a' w' ⟨ex,σ',rfl,hq',G,hS⟩;have hq:D8 T ah fn.resultTypes.toList fn.results.toList locs σ' res (fun i=>outs.getD i .g):=by
  cases ex with
  |normal=>exact hq'
  |ret=>exact hq'
  |exit i=>exact hq'.elim
 have hex:ex=.normal\/ex=.ret:=by
  cases ex with
  |normal=>exact .inl rfl
  |ret=>exact .inr rfl
  |exit i=>exact hq'.elim
 unfold D8 at hq;obtain⟨ls,u,t,h1,_⟩:=Rd.wpU_runs hq;obtain⟨ds',vs',srcs,Sr,ls',k1,k2,k3,k4,k5⟩:=iq hS _ _ _ _ _ (jN hT (fun _ _ _ h=>h) h1);split at k5
 case isFalse=>exact k5.elim
 rename_i hd;obtain⟨hres0,k5⟩:=k5;have hres0:ds'=res:=hres0;subst hres0;obtain⟨d1,d2,d3⟩:=cJ hd;obtain⟨o1,o2⟩:=xu hS locs 0 _ _ k5;rw[hlo2]at o2;have houts:(YU 0 outs.length).map (fun i=>outs.getD i .g)=outs:=by
  apply ZN;intro i;rw[ZD];by_cases c:i<outs.length
  ·rw[Vf c];simp[Zv,c]
  ·rw[ZV (by simp;omega),ZV Uc];rfl
 rw[houts]at o2;obtain⟨f1,f2⟩:=xc hS d2 o1;have hanc:(YU 0 outs.length).map (fun i=>(dj ds vs).getD i undef)=dj ds vs:=by
  have hl:=qT hr;rw[hlo]at hl;rw[<-hl];apply ZN;intro i;rw[ZD];by_cases c:i<(dj ds vs).length
  ·rw[Vf c];simp[Zv,c]
  ·rw[ZV (by simp;omega),ZV Uc];rfl
 have o2:ak w' outs (dj ds vs) (oZ G locs):=by rw[<-hanc];exact o2
 obtain⟨v,hrun,hres⟩:=pj k1 k2;have tokL:∀ b∈oZ G locs,eV w' b/\∃ r j,(r,j)∈locs/\G.ow b=some (.leaf r j):=by
  intro b hb;obtain⟨p,hp,hbp⟩:=Du hb;obtain⟨h,sz,es,e1,e2⟩:=o1 p hp;have:=hS.hok (av.2 e1);simp only[ew,e2]at this;exact⟨(this.2.2 b hbp).2,p.1,p.2,hp,(this.2.2 b hbp).1⟩
 have own:∀ b r j,eV w' b->G.ow b=some (.leaf r j)->eV w' b/\(w.heap.size<=b\/b∈S):=by
  intro b r j hu ht;refine⟨hu,?_⟩;rcases ZY b w.heap.size with hlt|hge
  ·by_cases c:b∈S;exact .inr c
   ·rcases hS.frow b hlt c with e|e<;>rw[ht]at e<;>cases e
  ·exact .inl hge
 have fin:a'.defers=[]/\∃ v,(results fn a'.tmps).run P w'=.ok v w'/\∃ v' Sr S',Xw v=.returned v'/\lK w' ds' v' Sr/\ak w' outs (dj ds vs) S'/\(Sr++S').Nodup/\(∀ b∈Sr++S',eV w' b/\(w.heap.size<=b\/b∈S))/\Same (fun b=>b∉S) w w':=by
  refine⟨hS.defers,_,hrun,_,Sr,oZ G locs,rfl,hres,o2,?_,?_,hS.frame⟩
  ·refine List.nodup_append.2 ⟨k3 d1,f1,fun x hx y hy e=>?_⟩;subst e;obtain⟨_,r,j,m1,m2⟩:=k4 x hx;obtain⟨_,r',j',m3,m4⟩:=tokL x hy;rw[m2]at m4;cases m4;exact d3 _ m1 m3
  ·intro b hb;rcases Zg.1 hb with q|q
   ·obtain⟨hu,r,j,_,m2⟩:=k4 b q;exact own b r j hu m2
   ·obtain⟨hu,r,j,_,m2⟩:=tokL b q;exact own b r j hu m2
 rcases hex with rfl|rfl;exact fin;exact fin
def rF {α:Type}{r:Nat}:∀ (hs:List H) (j:Nat) (k:List H->Rd α) (ls:List Loc) (out:α),(DR pv r j hs k).Runs g ls out->
 ∃ cs ls',(k cs).Runs g ls' out/\cs.length=hs.length/\∀ (i:Nat) c,cs[i]?=some c->∃ hv,g (.leaf r (j+i))=some (.h hv)/\hv.c=c/\(match c with
  | .own _=>True
  | .ro l=>hs[i]?=some (.ro l)/\hv.org=some (r*1000+(j+i))
  | .gone=>False)
 |[],j,k,ls,out,h=>⟨[],ls,h,rfl,fun i c e=>by simp at e⟩
 | h0::hs,j,k,ls,out,h=>by
   obtain⟨hv,ls2,_,q2,hk⟩:=bB (k:=fun hh=>match hh.c with
    | .own l=>DR pv r (j+1) hs fun cs=>k (.own l::cs)
    | .ro l=>match(generalizing:=false) h0 with
      | .ro l0=>match hh.org with
        |some i=>if ZK i (r*1000+j)then .req (pv fun _=>l=l0) (DR pv r (j+1) hs fun cs=>k (.ro l0::cs))else .fail
        |none=>.fail
      |_=>.fail
    | .gone=>.fail) h
   cases hc:hv.c with
   |gone=>simp[hc,Rd.Runs]at hk
   | own l=>
     simp only[hc]at hk;obtain⟨cs,ls3,e1,e2,e3⟩:=rF hs (j+1) _ _ _ hk;refine⟨_,ls3,e1,by simp[e2],fun i c e=>?_⟩;cases i with
     |zero=>simp at e;subst e;exact⟨hv,q2,hc,trivial⟩
     | succ i=>
       simp at e;obtain⟨hv',k1,k2,k3⟩:=e3 i c e;refine⟨hv',by rw[show j+(i+1)=j+1+i from by omega];exact k1,k2,?_⟩;cases c with
       |own l=>trivial
       |ro l=>exact⟨by simpa using k3.1,by rw[show j+(i+1)=j+1+i from by omega];exact k3.2⟩
       |gone=>exact k3
   | ro l=>
     simp only[hc]at hk;cases h0 with
     |own l0=>exact hk.elim
     |gone=>exact hk.elim
     | ro l0=>
       simp only at hk;cases ho:hv.org with
       |none=>simp[ho,Rd.Runs]at hk
       | some i0=>
         simp only[ho]at hk;split at hk
         ·rename_i hb;have hi:=Nat.eq_of_beq_eq_true hb;obtain⟨hl,hk⟩:=hk;have hl:l=l0:=hl;subst hl hi;obtain⟨cs,ls3,e1,e2,e3⟩:=rF hs (j+1) _ _ _ hk;refine⟨_,ls3,e1,by simp[e2],fun i c e=>?_⟩;cases i with
          |zero=>simp at e;subst e;exact⟨hv,q2,hc,by simp,ho⟩
          | succ i=>
            simp at e;obtain⟨hv',k1,k2,k3⟩:=e3 i c e;refine⟨hv',by rw[show j+(i+1)=j+1+i from by omega];exact k1,k2,?_⟩;cases c with
            |own l=>trivial
            |ro l=>exact⟨by simpa using k3.1,by rw[show j+(i+1)=j+1+i from by omega];exact k3.2⟩
            |gone=>exact k3
         ·exact hk.elim
def xt {α:Type}{os:Nat->List H}:∀ (m:List (Nat×List H)) (i:Nat) (k:Rd α) (ls:List Loc) (out:α),(NP pv os m i k).Runs g ls out->
 ∀ (n r:Nat) hs,m[n]?=some (r,hs)->(os (i+n)).length=hs.length/\∀ (j:Nat) c,(os (i+n))[j]?=some c->∃ hv,g (.leaf r j)=some (.h hv)/\hv.c=c/\(match c with
  | .own _=>True
  | .ro l=>hs[j]?=some (.ro l)/\hv.org=some (r*1000+j)
  | .gone=>False)
 |[],i,k,ls,out,h=>fun n r hs e=>by simp at e
 | (r0,hs0)::m,i,k,ls,out,h=>by
  obtain⟨cs,ls2,h1,h2,h3⟩:=rF _ _ _ _ _ h;obtain⟨he,h1⟩:=h1;have he:cs=os i:=he;intro n r hs e;cases n with
  | zero=>
    simp at e;obtain⟨rfl,rfl⟩:=e;rw[Nat.add_zero, <-he];refine⟨h2,fun j c hc=>?_⟩;have:=h3 j c hc
    simpa using this
  | succ n=>
    simp at e;have:=xt m (i+1) k _ _ h1 n r hs e;rw[show i+(n+1)=i+1+n from by omega];exact this
def rD {w:World}{ok:Nat->Prop}:∀ {ds:List DV} {vs:List Value} {ps:List gF} {p k:Nat} {q:gF},gO w ok ds vs ps->ps[k]?=some q->∃ r,(mpL p ds)[k]?=some (r,q.hs)
 |[],vs,ps,p,k,q,h,e=>by simp only[gO]at h;rw[h.2]at e;simp at e
 | d::ds,vs,ps,p,k,q,h,e=>by
   cases d with
   | mp hs=>
     obtain⟨p0,ps',vs',rfl,rfl,e0,h⟩:=h;cases k with
     |zero=>simp at e;subst e;exact⟨p,by simp[mpL,e0]⟩
     |succ k=>simp at e;obtain⟨r,hr⟩:=rD (p:=p+1) h e;exact⟨r,by simpa[mpL]using hr⟩
   |one l=>obtain⟨v,vs',S,rfl,_,_,h⟩:=h;exact rD (p:=p+1) h e
   |agg l=>obtain⟨v,vs',S,rfl,_,_,h⟩:=h;exact rD (p:=p+1) h e
   |ptr l=>obtain⟨v,vs',S,rfl,_,_,h⟩:=h;exact rD (p:=p+1) h e
   |fn f l=>obtain⟨v,vs',S,rfl,_,_,h⟩:=h;exact rD (p:=p+1) h e
open Classical in
def GZ (al:Bool)(hT:bF P T){Φ:Type}{F0:Φ}{ctF:Φ->CT}{mtF:Φ->MT}{ptF:Φ->PT}{ntF:Φ->NT}{otF:Φ->OT}(hct:Ch P (ctF F0))(hmt:Gc P (mtF F0))(hpt:Gf P (ptF F0))(hnw:Gd P (ntF F0))(hot:Ge P (otF F0))(hm:P.follows .mixedOrders=true){f:FuncId}{fn:Func}{ds res:List DV}{outs:List (List H)}(n:Nat)(c:Code)(ts:List TypeId)(rvs:List ResultVar) 
 (hf:P.funcs[f]?=some fn) (hb:fn.body=some c) (hnt:fn.ntmps=n) (hts:fn.resultTypes.toList=ts) (hrv:fn.results.toList=rvs) (hn:Ys ds.length n=true) (hlo:(mpL 0 ds).length=outs.length) (hl0:(mpL 0 ds).all (fun q=>q.2.length.ble 999)=true) (hl1:al=true->(mpL 0 ds).all (fun q=>q.1.ble 999)=true)
 (h:∀ O r os F,O=ah->r=res->os=(fun i=>outs.getD i [])->F=F0->po T O ⟨ctF F,mtF F,ptF F,ntF F,otF F⟩ n ((mpL 0 ds).map (·.1)) [] c (aas T O ts rvs (mpL 0 ds) r os) (fZ al 0 ds)):Eo P f ds outs res:=by
 subst hnt hts hrv;replace h:=h ah res _ F0 rfl rfl rfl rfl;replace hn:=YH hn;intro w vs ps hpre;have ix:=fun {r q}=>tq (p:=0) (r:=r) (q:=q) hpre.args
 have hlt:∀ {r q},iz 0 ds ps r=some q->q.hs.length<=999:=by
  intro r q e;obtain⟨k,e1,_⟩:=ix.1 e;have:=Yo.1 hl0 _ (Zw e1);exact YH this
 let anc:Nat->Value:=fun i=>((iz 0 ds ps ((match al with|true=>i%1000000000|false=>i)/1000)).map fun q=>q.val (i%1000)).getD undef
 have hlr:∀ {r q},al=true->iz 0 ds ps r=some q->r<=999:=by
  intro r q ha e;obtain⟨k,e1,_⟩:=ix.1 e;have:=Yo.1 (hl1 ha) _ (Zw e1);exact YH this
 have hanc:∀ r q j l,iz 0 ds ps r=some q->q.hs[j]?=some (.ro l)->anc (r*1000+j)=q.val j:=by
  intro r q j l e e1;have h1:=(ZF.1 e1).1;have h2:=hlt e;have h3:(r*1000+j)/1000=r:=by omega
  have h4:(r*1000+j)%1000=j:=by omega
  cases al with
  |false=>simp only[anc,h3,h4,e,Yf,Z0]
  | true=>
    have h5:=hlr rfl e;have h6:(r*1000+j)%1000000000=r*1000+j:=by omega
    simp only[anc,h6,h3,h4,e,Yf,Z0]
 have hanc2:∀ r q j l,al=true->iz 0 ds ps r=some q->q.hs[j]?=some (.own l)->anc (1000000000+(r*1000+j))=q.val j:=by
  intro r q j l ha e e1;have h1:=(ZF.1 e1).1;have h2:=hlt e;have h5:=hlr ha e;subst ha;have h3:(1000000000+(r*1000+j))%1000000000/1000=r:=by omega
  have h4:(1000000000+(r*1000+j))%1000=j:=by omega
  simp only[anc,h3,h4,e,Yf,Z0]
 refine calls_of_wp hf hb ?_;have hini:=K1 (al:=al) fn.ntmps w ds vs ps hpre hn anc hanc hanc2;refine Yz ?_ (de (fz:=[]) (cx:=⟨fn.ntmps,w,fun b=>¬ nK ps b/\¬ sG ps b,anc,fun r=>(iz 0 ds ps r).map fun(q:gF)=>(q.b,q.off),fun r=>((iz 0 ds ps r).map fun(q:gF)=>q.hs.length).getD 0,fun _=>True⟩) (fun q=>absurd rfl q) hT (ct:=⟨ctF F0,mtF F0,ptF F0,ntF F0,otF F0⟩) ⟨hct,hmt,hpt,hnw,hot⟩ hm rfl (an:=(mpL 0 ds).map (·.1)) (fun r x e=>by
  cases e0:iz 0 ds ps r with
  |none=>simp[e0]at e
  |some q=>obtain⟨k,e1,_⟩:=ix.1 e0;exact List.mem_map.2 ⟨_,Zw e1,rfl⟩) c _ _ _ w h hini)
 rintro e a' w' ⟨ex,σ',rfl,hq',G,hS⟩;have hq:KP T ah fn.resultTypes.toList fn.results.toList (mpL 0 ds) σ' res (fun i=>outs.getD i []):=by
  cases ex with
  |normal=>exact hq'
  |ret=>exact hq'
  |exit i=>exact hq'.elim
 have hex:ex=.normal\/ex=.ret:=by
  cases ex with
  |normal=>exact .inl rfl
  |ret=>exact .inr rfl
  |exit i=>exact hq'.elim
 unfold KP at hq;obtain⟨ls,u,t,h1,_⟩:=Rd.wpU_runs hq;obtain⟨ds',vs',srcs,Sr,ls',k1,k2,k3,k4,k5⟩:=iq hS _ _ _ _ _ (jN hT (fun _ _ _ h=>h) h1);split at k5
 case isFalse=>exact k5.elim
 rename_i hd;simp only[Zc]at hd;obtain⟨P8,hd2⟩:=hd;obtain⟨hres0,k5⟩:=k5;have hres0:ds'=res:=hres0;subst hres0;have o1:=xt _ _ _ _ _ k5;obtain⟨v,hrun,hres⟩:=pj k1 k2;have plen:ps.length=outs.length:=by
  rw[<-hlo];have key:∀ {ds:List DV} {vs:List Value} {ps:List gF} {p:Nat} {ok:Nat->Prop},gO w ok ds vs ps->ps.length=(mpL p ds).length:=by
   intro ds
   induction ds with
   |nil=>intro vs ps p ok h;simp only[gO]at h;simp[h.2,mpL]
   | cons d ds ih=>
     intro vs ps p ok h;cases d with
     |mp hs=>obtain⟨p0,ps',vs',rfl,rfl,_,h⟩:=h;simp[mpL,ih (p:=p+1) h]
     |one l=>obtain⟨v,vs',S,rfl,_,_,h⟩:=h;exact ih (p:=p+1) h
     |agg l=>obtain⟨v,vs',S,rfl,_,_,h⟩:=h;exact ih (p:=p+1) h
     |ptr l=>obtain⟨v,vs',S,rfl,_,_,h⟩:=h;exact ih (p:=p+1) h
     |fn f l=>obtain⟨v,vs',S,rfl,_,_,h⟩:=h;exact ih (p:=p+1) h
  exact key hpre.args
 let pst:Nat->gF:=fun k=>
  { b:=(ps.getD k ⟨0,0,[],fun _=>undef,fun _=>[]⟩).b,off:=(ps.getD k ⟨0,0,[],fun _=>undef,fun _=>[]⟩).off,hs:=outs.getD k [],
    val:=fun j=>G.val ((mpL 0 ds).getD k (0,[])).1 j,
    fp:=fun j=>match(outs.getD k [])[j]? with
     |some (.own _)=>G.fp ((mpL 0 ds).getD k (0,[])).1 j
     |_=>(ps.getD k ⟨0,0,[],fun _=>undef,fun _=>[]⟩).fp j}
 have info:∀ (k:Nat) q',((Zl ps.length).map pst)[k]?=some q'->∃ q r,ps[k]?=some q/\(mpL 0 ds)[k]?=some (r,q.hs)/\iz 0 ds ps r=some q/\q'=pst k/\q'.b=q.b/\q'.off=q.off/\outs[k]?=some q'.hs/\q'.hs.length=q.hs.length/\(∀ j,q'.val j=G.val r j)/\(∀ j l,q'.hs[j]?=some (.own l)->q'.fp j=G.fp r j)/\
  ∀ (j:Nat) c,q'.hs[j]?=some c->∃ hv,get σ' (.leaf r j)=some (.h hv)/\hv.c=c/\(match c with
   | .own _=>True
   | .ro l=>q.hs[j]?=some (.ro l)/\hv.org=some (r*1000+j)
   | .gone=>False):=by
  intro k q' e;rw[ZD,Option.map_eq_some_iff]at e;obtain⟨k',e1,rfl⟩:=e;obtain⟨hk,rfl⟩:=ZF.1 e1;simp only[List.length_range]at hk;simp only[List.getElem_range];have hq:ps[k]?=some ps[k]:=Zr hk;obtain⟨r,hr⟩:=rD (p:=0) hpre.args hq;have hpa:iz 0 ds ps r=some ps[k]:=ix.2 ⟨k,hr,hq⟩;have hout:outs[k]?=some outs[k]:=Zr Uc;have g1:ps.getD k ⟨0,0,[],fun _=>undef,fun _=>[]⟩=ps[k]:=by simp[Zv,hq]
  have g2:outs.getD k []=outs[k]:=by simp[Zv,hout]
  have g3:(mpL 0 ds).getD k (0,[])=(r,ps[k].hs):=by simp[Zv,hr]
  obtain⟨m1,m2⟩:=o1 k r _ hr;rw[Nat.zero_add]at m1 m2;refine⟨ps[k],r,hq,hr,hpa,trivial,by simp only[pst,g1],by simp only[pst,g1],by simp only[pst,g2];exact hout,by simp only[pst];exact m1,fun j=>by simp only[pst,g3],fun j l e=>?_,fun j c e=>?_⟩
  ·simp only[pst]at e ⊢;rw[e];simp only[g3]
  ·exact m2 j c e
 have meta_:∀ {r q},iz 0 ds ps r=some q->G.loc r=some (q.b,q.off)/\get σ' (.meta_ r)=some (.m q.hs.length true):=by
  intro r q e;have:=hS.aloc r (q.b,q.off) (by simp[e])
  simpa[e]using this
 have mem:∀ q'∈(Zl ps.length).map pst,∃ k:Nat,((Zl ps.length).map pst)[k]?=some q':=fun q' hq=>by
  obtain⟨k,hk⟩:=YG hq;exact⟨k,hk⟩
 have ownTok:∀ b,nK ((Zl ps.length).map pst) b->∃ r j q,iz 0 ds ps r=some q/\G.ow b=some (.leaf r j)/\eV w' b:=by
  rintro b ⟨q',hq,j,l,e1,e2⟩;obtain⟨k,hk⟩:=mem q' hq;obtain⟨q,r,i1,i2,i3,i4,i5,i6,i7,i8,i9,i10,i11⟩:=info k q' hk;obtain⟨hv,m1,m2,_⟩:=i11 j _ e1;rw[i10 j l e1]at e2;have:=hS.hok (av.2 m1);simp only[ew,m2]at this;exact⟨r,j,q,i3,this.2.2 b e2⟩
 have ptrTok:∀ b,sG ps b->∃ k,G.ow b=some (.box k):=by
  rintro b ⟨q,hq,rfl⟩;obtain⟨k,hk⟩:=YG hq;obtain⟨r,hr⟩:=rD (p:=0) hpre.args hk;obtain⟨f1,f2⟩:=meta_ (ix.2 ⟨k,hr,hk⟩);obtain⟨b',off',cur,ty,z1,z2,_⟩:=hS.boxes r _ f2;rw[f1]at z1;cases z1;exact⟨_,z2⟩
 have own:∀ b r j,eV w' b->G.ow b=some (.leaf r j)->eV w' b/\(w.heap.size<=b\/nK ps b):=by
  intro b r j hu ht;refine⟨hu,?_⟩;rcases ZY b w.heap.size with hlt|hge
  ·by_cases c1:nK ps b;exact .inr c1
   ·by_cases c2:sG ps b
    ·obtain⟨k,hk⟩:=ptrTok b c2;rw[hk]at ht;cases ht
    ·rcases hS.frow b hlt ⟨c1,c2⟩with e|e<;>rw[ht]at e<;>cases e
  ·exact .inl hge
 have post:LQ w ps outs w' ((Zl ps.length).map pst) Sr:=by
  refine⟨by simp,?_,?_,?_,?_,?_,?_,⟨k3 P8,?_⟩,?_,hS.frame,?_⟩
  ·intro k p p' hp hp';obtain⟨q,r,i1,i2,i3,i4,i5,i6,i7,i8,_⟩:=info k p' hp';rw[hp]at i1;cases i1;exact⟨i5,i6,i7,i8⟩
  ·intro q' hq;obtain⟨k,hk⟩:=mem q' hq;obtain⟨q,r,i1,i2,i3,i4,i5,i6,i7,i8,i9,_⟩:=info k q' hk;obtain⟨f1,f2⟩:=meta_ i3;obtain⟨b',off',cur,ty,z1,z2,z3,z4,z5⟩:=hS.boxes r _ f2;rw[f1]at z1;cases z1;exact⟨cur,ty,by rw[i5];exact z3,fun j hj=>by rw[i6,i9];exact z5 j Uc⟩
  ·intro q' hq j l e;obtain⟨k,hk⟩:=mem q' hq;obtain⟨q,r,i1,i2,i3,i4,i5,i6,i7,i8,i9,i10,i11⟩:=info k q' hk;obtain⟨hv,m1,m2,_⟩:=i11 j _ e;have:=hS.hok (av.2 m1);simp only[ew,m2]at this;rw[i9,i10 j l e];exact⟨this.1,this.2.1⟩
  ·intro k p p' j l hp hp' e;obtain⟨q,r,i1,i2,i3,i4,i5,i6,i7,i8,i9,i10,i11⟩:=info k p' hp';rw[hp]at i1;cases i1;obtain⟨hv,m1,m2,m3,m4⟩:=i11 j _ e;refine⟨m3,?_⟩;rw[i9,hS.anc r j hv (av.2 m1) _ m4];exact hanc r p j l i3 m3
  ·intro q' hq j e;obtain⟨k,hk⟩:=mem q' hq;obtain⟨q,r,i1,i2,i3,i4,i5,i6,i7,i8,i9,i10,i11⟩:=info k q' hk;obtain⟨hv,m1,m2,m3⟩:=i11 j _ e;exact m3
  ·intro k j k' j' p p' l l' hp hp' e e' hne b hb hb';obtain⟨q,r,i1,i2,i3,i4,i5,i6,i7,i8,i9,i10,i11⟩:=info k p hp;obtain⟨q2,r2,i1',i2',i3',i4',i5',i6',i7',i8',i9',i10',i11'⟩:=info k' p' hp';obtain⟨hv,m1,m2,_⟩:=i11 j _ e;obtain⟨hv',m1',m2',_⟩:=i11' j' _ e';rw[i10 j l e]at hb;rw[i10' j' l' e']at hb';have t1:=hS.hok (av.2 m1);simp only[ew,m2]at t1;have t2:=hS.hok (av.2 m1');simp only[ew,m2']at t2;have u1:=(t1.2.2 b hb).1;have u2:=(t2.2.2 b hb').1;rw[u1]at u2;cases u2;have hkk:k=k':=by
    rw[i3]at i3';cases i3';by_cases c:k=k';exact c
    ·have:=hpre.sep k k' q q c i1 i1' rfl;have:=(ZF.1 e).1;omega
   subst hkk;exact hne rfl
  ·intro b hb ho;obtain⟨r,j,q,e1,e2,_⟩:=ownTok b ho;obtain⟨_,r',j',m1,m2⟩:=k4 b hb;rw[m2]at e2;cases e2;obtain⟨k,e3,_⟩:=ix.1 e1;have:=Yo.1 (Yo.1 hd2 _ m1) _ (Zw e3);simp at this
  ·intro b hb;rcases hb with hb|hb
   ·obtain⟨hu,r,j,_,m2⟩:=k4 b hb;exact own b r j hu m2
   ·obtain⟨r,j,q,_,m2,hu⟩:=ownTok b hb;exact own b r j hu m2
  ·rintro b ⟨q,hq,rfl⟩;obtain⟨k,hk⟩:=YG hq;obtain⟨r,hr⟩:=rD (p:=0) hpre.args hk;have hpa:=ix.2 ⟨k,hr,hk⟩;obtain⟨c0,c1,ty,z1,z2,z3,z4⟩:=hS.afr r q.b q.off (by simp[hpa]);refine⟨c0,c1,ty,z1,z2,z3,fun i hi=>z4 i (fun r' off' e=>?_)⟩;cases e0:iz 0 ds ps r' with
   |none=>simp[e0]at e
   | some q2=>
     simp[e0]at e ⊢;obtain⟨e1,rfl⟩:=e;obtain⟨k2,_,hk2⟩:=ix.1 e0;exact hi q2 (Zw hk2) e1
 have fin:a'.defers=[]/\∃ v,(results fn a'.tmps).run P w'=.ok v w'/\∃ v' Sr ps',Xw v=.returned v'/\lK w' ds' v' Sr/\LQ w ps outs w' ps' Sr:=
  ⟨hS.defers,_,hrun,_,Sr,_,rfl,hres,post⟩
 rcases hex with rfl|rfl;exact fin;exact fin
end
end Go.V
namespace Go.V
def SS:(∀ a b:Int,(cM .eql a b=true)↔a=b)/\(∀ a b:Int,(cM .eql a b=false)↔a≠b)/\(∀ a b:Int,(cM .neq a b=true)↔a≠b)/\(∀ a b:Int,(cM .neq a b=false)↔a=b)/\
 (∀ a b:Int,(cM .lss a b=true)↔a<b)/\(∀ a b:Int,(cM .lss a b=false)↔b<=a)/\(∀ a b:Int,(cM .leq a b=true)↔a<=b)/\(∀ a b:Int,(cM .leq a b=false)↔b<a)/\
 (∀ a b:Int,(cM .gtr a b=true)↔b<a)/\(∀ a b:Int,(cM .gtr a b=false)↔a<=b)/\(∀ a b:Int,(cM .geq a b=true)↔b<=a)/\(∀ a b:Int,(cM .geq a b=false)↔a<b)/\
 (∀ b,(L4 b=true)↔b=false)/\(∀ b,(L4 b=false)↔b=true)/\(∀ a b,Fy true a b=a)/\(∀ a b,Fy false a b=b)/\
 (∀ a b,(F2 .eql a b=true)↔a=b)/\(∀ a b,(F2 .eql a b=false)↔a≠b)/\(∀ a b,(F2 .neq a b=true)↔a≠b)/\(∀ a b,(F2 .neq a b=false)↔a=b)/\
 (∀ n,ziI n=(n:Int))/\(∀ es,lnI es=es.length)/\(∀ f,prI f=f ())/\(∀ n:Nat,Ww n=(n:Int))/\(∀ a b,acL a b=a++b)/\(∀ i,nnI i=i.toNat):=
 ⟨fun _ _=>Pu,fun _ _=>Ps,fun _ _=>PG,fun _ _=>PF,fun _ _=>PE,fun _ _=>PD,fun _ _=>PC,fun _ _=>Pz,fun _ _=>Py,fun _ _=>Px,fun _ _=>Pw,fun _ _=>Pv,
   fun _=>ag2,fun _=>ag1,fun _ _=>rfl,fun _ _=>rfl,fun _ _=>L8,fun _ _=>L6,fun _ _=>Ma,fun _ _=>L9,fun _=>rfl,fun _=>rfl,fun _=>rfl,fun _=>rfl,fun _ _=>rfl,fun _=>rfl⟩
end Go.V
namespace Go.V
def onc (n:Nat):Ww n=(n:Int):=rfl
structure TB (P:Program) where
 Φ:Type
 F0:Φ
 ct:Φ->CT:=noC
 mt:Φ->MT:=aeT
 pt:Φ->PT:=aeW
 nt:Φ->NT:=aeU
 ot:Φ->OT:=aeV
 hc:Ch P (ct F0):=by exact abP
 hm:Gc P (mt F0):=by exact Qv
 hp:Gf P (pt F0):=by exact Qy
 hn:Gd P (nt F0):=by exact Qw
 ho:Ge P (ot F0):=by exact Qx
abbrev tb {P:Program}{Φ:Type}{F0:Φ}{ct:Φ->CT}(hc:Ch P (ct F0)):TB P:={Φ:=Φ,F0:=F0,ct:=ct,hc:=hc}
section
variable {P: Program} {T: y9} (B: TB P) (hT: bF P T) (hm: P.follows .mixedOrders = true) {f: FuncId} {fn: Func} {ds: List DV} (n: Nat) (c: Code) (ts: List TypeId) (rvs: List ResultVar)
include hT hm
def QD (al:Bool){res:List DV}{outs:List (List H)}(hf:P.funcs[f]?=some fn)(hb:fn.body=some c)(hnt:fn.ntmps=n)(hts:fn.resultTypes.toList=ts)(hrv:fn.results.toList=rvs)(hn:Ys ds.length n=true)(hlo:(mpL 0 ds).length=outs.length)(hl0:(mpL 0 ds).all (fun q=>q.2.length.ble 999)=true) 
 (hl1:al=true->(mpL 0 ds).all (fun q=>q.1.ble 999)=true) (h:∀ O r os F,O=ah->r=res->os=(fun i=>outs.getD i [])->F=B.F0->po T O ⟨B.ct F,B.mt F,B.pt F,B.nt F,B.ot F⟩ n ((mpL 0 ds).map (·.1)) [] c (aas T O ts rvs (mpL 0 ds) r os) (fZ al 0 ds)):Eo P f ds outs res:=
 GZ al hT B.hc B.hm B.hp B.hn B.ho hm n c ts rvs hf hb hnt hts hrv hn hlo hl0 hl1 h
end
end Go.V
namespace Go.V
mutual
def gW:L->Nat
 | .s _ es=>es.length+bO es
 |_=>0
def dO:ax->Nat
 |[]=>0
 |l::ls=>gW l+dO ls
def bO:ab->Nat
 |[]=>0
 |e::es=>dO e+bO es
end
def au (es:ab):Nat:=es.length+bO es
def aP:List ab->Nat
 |[]=>0
 |r::rs=>au r+aP rs
def dF (rs:List ab)(left:Int):Int:=if left<aP rs then-1 else left-aP rs
mutual
def iy:L->Int->L×Int
 | .v (.int kd _),k=>(.v (.int kd k),k+1)
 | .v (.bool _),k=>(.v (.bool (k.tmod 3==0)),k+1)
 | .s sz es,k=>(.s sz (dx es k).1,(dx es k).2)
 |l,k=>(l,k)
def gQ:ax->Int->ax×Int
 |[],k=>([],k)
 |l::ls,k=>((iy l k).1::(gQ ls (iy l k).2).1,(gQ ls (iy l k).2).2)
def dx:ab->Int->ab×Int
 |[],k=>([],k)
 |e::es,k=>((gQ e k).1::(dx es (gQ e k).2).1,(dx es (gQ e k).2).2)
end
def dL (es:ab)(k:Int):ab:=(dx es k).1
def bj:List ab->Int->Int
 |[],k=>k
 |r::rs,k=>bj rs (dx r k).2
def gK:∀ {a b:ab},bO (a++b)=bO a+bO b
 |[],b=>by simp[bO]
 |e::a,b=>by simp[bO,gK (a:=a),YD]
def pD:∀ {a b:List ab},aP (a++b)=aP a+aP b
 |[],b=>by simp[aP]
 |e::a,b=>by simp[aP,pD (a:=a),YD]
def eA {r:ab}:aP [r]=au r:=by simp[aP]
def JD:∀ {ls:ax} {j:Nat} {l:L},ls[j]?=some l->gW l<=dO ls
 |[],j,l,h=>by simp at h
 |x::ls,0,l,h=>by simp at h;subst h;simp[dO]
 |x::ls,j+1,l,h=>by simp at h;have:=JD h;simp[dO];omega
def qh {a:List ab}{left:Int}:dF a left<0↔left<aP a:=by
 unfold dF;split<;>omega
def vj {a:List ab}{left:Int}(h:0<=dF a left):dF a left=left-aP a:=by
 unfold dF at*;split at h
 ·omega
 ·rename_i c;rw[VF c]
def nH {a b:List ab}{left:Int}(h:0<=dF a left):dF b (dF a left)=dF (a++b) left:=by
 rw[vj h];unfold dF;rw[pD];split<;>split<;>omega
def gE {a b:List ab}{left:Int}(h:dF a left<0):dF (a++b) left= -1:=by
 rw[qh]at h;unfold dF;rw[pD,VE Uc]
def mU {a:List ab}{left:Int}(h:dF a left<0):dF a left= -1:=by
 rw[qh]at h;unfold dF;rw[VE Uc]
def BP {a:List ab}{left:Int}(h:0<=dF a left):dF a left<=left:=by rw[vj h];omega
def nC:∀ {a b:ab} {k:Int},dx (a++b) k=((dx a k).1++(dx b (dx a k).2).1,(dx b (dx a k).2).2)
 |[],b,k=>by simp[dx]
 |e::a,b,k=>by simp[dx,nC (a:=a)]
def jJ:∀ {a b:List ab} {k:Int},bj b (bj a k)=bj (a++b) k
 |[],b,k=>rfl
 |r::a,b,k=>by simp only[bj,List.cons_append];exact jJ
def io:∀ {es:ab} {k:Int},(dx es k).1.length=es.length
 |[],k=>rfl
 |e::es,k=>by simp[dx,io (es:=es)]
def cF {es:ab}{k:Int}:(dL es k).length=es.length:=io
def gA (es:ab)(k:Int)(n:Nat):ab:=(dx (es.take n) k).1++es.drop n
def fL (es:ab)(k:Int)(n:Nat):Int:=(dx (es.take n) k).2
def eO {es:ab}{k:Int}:gA es k 0=es:=by simp[gA,dx]
def bS {es:ab}{k:Int}:fL es k 0=k:=by simp[fL,dx]
def Br {es:ab}{k:Int}:gA es k es.length=dL es k:=by simp[gA,dL]
def rZ {es:ab}{k:Int}:fL es k es.length=bj [es] k:=by simp[fL,bj]
def rC {es:ab}{k:Int}{n:Nat}(hn:n<=es.length):(gA es k n).length=es.length:=by simp[gA,io];omega
def eN {es:ab}{k:Int}{n:Nat}(hn:n<=es.length):(gA es k n).getD n []=es.getD n []:=by
 unfold gA;simp only[Zn];have hl:(dx (es.take n) k).1.length=n:=by rw[io,Zm];omega
 rw[ZX Uc,hl];simp
def Bs {es:ab}{k:Int}{n:Nat}(hn:n<es.length):(gA es k n).set n (gQ (es.getD n []) (fL es k n)).1=gA es k (n+1):=by
 unfold gA fL;have hl:(dx (es.take n) k).1.length=n:=by rw[io,Zm];omega
 rw[List.set_append_right _ _ Uc,hl,fB (d:=[]) hn,nC];simp only[Nat.sub_self];rw[XA hn,List.set_cons_zero];simp[dx]
def dJ {es:ab}{k:Int}{n:Nat}(hn:n<es.length):fL es k (n+1)=(gQ (es.getD n []) (fL es k n)).2:=by
 unfold fL;rw[fB (d:=[]) hn,nC];simp[dx]
def kZ {es:ab}{k:Int}{n:Nat}(hn:n<es.length):(dL es k).getD n []=(gQ (es.getD n []) (fL es k n)).1:=by
 have h1:es=es.take n++(es.getD n []::es.drop (n+1)):=by
  conv=>lhs;rw[<-ZR n es,XA hn]
  simp[Zv,hn]
 unfold dL fL
 conv=>lhs;rw[h1]
 rw[nC];simp only[Zn];have hl:(dx (es.take n) k).1.length=n:=by rw[io,Zm];omega
 rw[ZX Uc,hl];simp[dx]
mutual
def aeu:∀ (l:L) (k:Int),(iy l k).2=k+(iy l 0).2
 | .v x,k=>by cases x<;>simp[iy]
 | .s sz es,k=>by simp only[iy];exact pV es k
 | .g,k=>by simp[iy]
 | .m _ _,k=>by simp[iy]
def DK:∀ (ls:ax) (k:Int),(gQ ls k).2=k+(gQ ls 0).2
 |[],k=>by simp[gQ]
 | l::ls,k=>by
   simp only[gQ];rw[DK ls (iy l k).2,aeu l k,DK ls (iy l 0).2];omega
def pV:∀ (es:ab) (k:Int),(dx es k).2=k+(dx es 0).2
 |[],k=>by simp[dx]
 | e::es,k=>by
   simp only[dx];rw[pV es (gQ e k).2,DK e k,pV es (gQ e 0).2];omega
end
mutual
def abI:∀ (l:L) (k k':Int),(iy (iy l k).1 k').2=(iy l k').2
 | .v x,k,k'=>by cases x<;>simp[iy]
 | .s sz es,k,k'=>by simp only[iy];exact fc es k k'
 | .g,k,k'=>by simp[iy]
 | .m _ _,k,k'=>by simp[iy]
def Nv:∀ (ls:ax) (k k':Int),(gQ (gQ ls k).1 k').2=(gQ ls k').2
 |[],k,k'=>rfl
 |l::ls,k,k'=>by simp only[gQ];rw[Nv ls _ _,abI l k k']
def fc:∀ (es:ab) (k k':Int),(dx (dx es k).1 k').2=(dx es k').2
 |[],k,k'=>rfl
 |e::es,k,k'=>by simp only[dx];rw[fc es _ _,Nv e k k']
end
def qH {es:ab}{k k':Int}:bj [dL es k] k'=bj [es] k':=fc es k k'
def jn {es:ab}{k:Int}{n:Nat}:fL es k n=k+fL es 0 n:=pV _ _
def K2:∀ {rs:List ab} {k:Int},bj rs k=k+bj rs 0
 |[],k=>by simp[bj]
 |r::rs,k=>by simp only[bj];rw[K2 (k:=(dx r k).2),pV r k,K2 (k:=(dx r 0).2)];omega
mutual
def aet:∀ (l:L),0<=(iy l 0).2
 | .v x=>by cases x<;>simp[iy]
 | .s sz es=>by simp only[iy];exact IB es
 | .g=>by simp[iy]
 | .m _ _=>by simp[iy]
def Nu:∀ (ls:ax),0<=(gQ ls 0).2
 |[]=>by simp[gQ]
 |l::ls=>by simp only[gQ];rw[DK];have:=aet l;have:=Nu ls;omega
def IB:∀ (es:ab),0<=(dx es 0).2
 |[]=>by simp[dx]
 |e::es=>by simp only[dx];rw[pV];have:=Nu e;have:=IB es;omega
end
def Qf:∀ {rs:List ab},0<=bj rs 0
 |[]=>by simp[bj]
 |r::rs=>by simp only[bj];rw[K2];have:=IB r;have:=Qf (rs:=rs);omega
def mM {es:ab}{n:Nat}(hn:n<es.length):fL es 0 n<=fL es 0 (n+1):=by
 rw[dJ hn,DK];have:=Nu (es.getD n []);omega
def fG {es:ab}:∀ {m n:Nat},n<=es.length->m<=n->fL es 0 m<=fL es 0 n
 |m,0,_,h=>by rw[show m=0 from by omega];exact Yh _
 | m,n+1,hn,h=>by
   rcases ZY m (n+1)with c|c
   ·have:=fG (es:=es) (m:=m) (n:=n) Uc Uc;have:=mM (es:=es) (n:=n) Uc;omega
   ·rw[show m=n+1 from by omega];exact Yh _
def wid:Ty->Nat
 | .sl _=>0
 |_=>1
end Go.V
namespace Go.V
abbrev Rw (fs:List Ty)(es:ab):Prop:=es.length<=maxLen/\∀ e∈es,bW fs e
abbrev tI:Ty:=.int .i64
abbrev tB:Ty:=.bool
mutual
def zL:Ty->L
 | .int k=>.v (.int k 0)
 | .bool=>.v (.bool false)
 | .str=>.v (.string .empty)
 | .sl fs=>.s fs.length []
def zR:List Ty->ax
 |[]=>[]
 |t::ts=>zL t::zR ts
end
def Gs:∀ {fs:List Ty} {e:ax},bW fs e->jZ (zR fs) e=true
 |[],[],_=>rfl
 |[],_::_,h=>h.elim
 |_::_,[],h=>h.elim
 | t::ts,l::ls,h=>by
   obtain⟨h1,h2⟩:=h;simp only[zR,jZ,Zc];refine⟨?_,Gs h2⟩;cases t with
   | int k=>cases l with
     | v x=>cases x with
       |int k' n=>simp only[dn]at h1;simp[zL,oY,h1.1]
       |_=>simp[dn]at h1
     |_=>simp[dn]at h1
   | bool=>cases l with
     | v x=>cases x with
       |bool b=>rfl
       |_=>simp[dn]at h1
     |_=>simp[dn]at h1
   | str=>cases l with
     | v x=>cases x with
       |string b=>rfl
       |_=>simp[dn]at h1
     |_=>simp[dn]at h1
   | sl fs=>cases l with
     |s sz es=>simp only[dn]at h1;simp[zL,oY,h1.1]
     |_=>simp[dn]at h1
def Rw.wf {fs:List Ty}{es:ab}(h:Rw fs es):Wf (zR fs) es:=fun e he=>Gs (h.2 e he)
def Rw.at {fs:List Ty}{es:ab}(h:Rw fs es){n:Nat}(hn:n<es.length):bW fs (es.getD n []):=by
 refine h.2 _ ?_;rw[Zn,Zr hn];exact List.getElem_mem _
def Rw.eta {fs:List Ty}{es:ab}(h:Rw fs es){i:Int}(h0:0<=i)(h1:i<es.length):es.getD i.toNat []=mZ ah es i 0 (zR fs):=(am h.wf h0 h1).symm
def Dj:∀ {fs:List Ty} {e:ax} {j:Nat} {gs:List Ty},bW fs e->fs[j]?=some (.sl gs)->∃ es',e[j]?=some (.s gs.length es')/\Rw gs es'
 |[],_,j,gs,_,h=>by simp at h
 |_::_,[],j,gs,h,_=>h.elim
 | t::ts,l::ls,0,gs,h,e=>by
   simp at e;subst e;have h1:=h.1;cases l with
   |s sz es=>simp only[dn]at h1;exact⟨es,by simp[h1.1],h1.2⟩
   |_=>simp[dn]at h1
 | t::ts,l::ls,j+1,gs,h,e=>by
   simp at e;obtain⟨es',h1,h2⟩:=Dj h.2 e;exact⟨es',by simpa using h1,h2⟩
def Rw.sub {fs:List Ty}{es:ab}(h:Rw fs es){i:Int}(hn:i.toNat<es.length){j:Nat}{gs:List Ty}(hj:fs[j]?=some (.sl gs)):Rw gs (aw es i j):=by
 obtain⟨es',h1,h2⟩:=Dj (h.at hn) hj;unfold aw;rw[Zn (l:=es.getD i.toNat []),h1];exact h2
def Rw.nil {fs:List Ty}:Rw fs []:=⟨Nat.zero_le _,by simp⟩
def Rw.take {fs:List Ty}{es:ab}(h:Rw fs es)(n:Nat):Rw fs (es.take n):=⟨by rw[Zm];exact Z8 (Nat.min_le_right _ _) h.1,fun e he=>h.2 e (List.mem_of_mem_take he)⟩
def Rw.drop {fs:List Ty}{es:ab}(h:Rw fs es)(n:Nat):Rw fs (es.drop n):=⟨by rw[List.length_drop];exact Z8 (Nat.sub_le _ _) h.1,fun e he=>h.2 e (List.mem_of_mem_drop he)⟩
def Rw.append {fs:List Ty}{a b:ab}(ha:Rw fs a)(hb:Rw fs b)(hl:a.length+b.length<=maxLen):Rw fs (a++b):=⟨by simpa using hl,fun e he=>by rcases Zg.1 he with q|q;exact ha.2 e q;exact hb.2 e q⟩
def Rw.one {fs:List Ty}{e:ax}(h:bW fs e):Rw fs [e]:=⟨by simp[maxLen],by simpa using h⟩
def Rw.set {fs:List Ty}{es:ab}(h:Rw fs es){e:ax}(he:bW fs e)(n:Nat):Rw fs (es.set n e):=⟨by simpa using h.1,fun x hx=>by rcases List.mem_or_eq_of_mem_set hx with q|q;exact h.2 x q;rw[q];exact he⟩
def Rw.replicate {fs:List Ty}{e:ax}(h:bW fs e){n:Nat}(hn:n<=maxLen):Rw fs (List.replicate n e):=⟨by simpa using hn,fun x hx=>by rw[List.eq_of_mem_replicate hx];exact h⟩
def wI:Ty->Bool
 | .sl _=>false
 |_=>true
def A1 {t:Ty}{l:L}(h:dn t l)(hs:wI t=true):∃ x,l=.v x:=by
 cases t with
 |sl fs=>cases hs
 | int k=>cases l with
   |v x=>exact⟨x,rfl⟩
   |_=>simp[dn]at h
 | bool=>cases l with
   |v x=>exact⟨x,rfl⟩
   |_=>simp[dn]at h
 | str=>cases l with
   |v x=>exact⟨x,rfl⟩
   |_=>simp[dn]at h
def Dt:∀ {fs:List Ty} {e:ax},fs.all wI=true->bW fs e->dO e=0
 |[],[],_,_=>rfl
 |[],_::_,_,h=>h.elim
 |_::_,[],_,h=>h.elim
 | t::ts,l::ls,hs,h=>by
   simp only[XN,Zc]at hs;obtain⟨x,rfl⟩:=A1 h.1 hs.1;simp only[dO,gW];rw[Dt hs.2 h.2]
def Gz {fs:List Ty}(hs:fs.all wI=true):∀ {es:ab},(∀ e∈es,bW fs e)->bO es=0
 |[],_=>rfl
 |e::es,h=>by simp only[bO];rw[Dt hs (h e (by simp)),Gz hs (fun x hx=>h x (by simp[hx]))]
def Rw.cnt {fs:List Ty}{es:ab}(h:Rw fs es)(hs:fs.all wI=true):au es=es.length:=by unfold au;rw[Gz hs h.2];rfl
def Rw.scal {fs:List Ty}{es:ab}(h:Rw fs es)(hs:fs.all wI=true):cG es:=by
 have key:∀ {fs:List Ty} {e:ax},fs.all wI=true->bW fs e->sn e:=by
  intro fs
  induction fs with
  | nil=>intro e _ h;cases e with
    |nil=>trivial
    |cons _ _=>exact h.elim
  | cons t ts ih=>
    intro e hs h;cases e with
    |nil=>exact h.elim
    | cons l ls=>
      simp only[XN,Zc]at hs;obtain⟨x,rfl⟩:=A1 h.1 hs.1;exact(ih hs.2 h.2:sn ls)
 have:∀ {es:ab},(∀ e∈es,bW fs e)->cG es:=by
  intro es
  induction es with
  |nil=>intro _;trivial
  |cons e es ih=>intro h;exact⟨key hs (h e (by simp)),ih (fun x hx=>h x (by simp[hx]))⟩
 exact this h.2
def dk {es:ab}{n:Nat}(hn:n<es.length):bO (es.take (n+1))=bO (es.take n)+dO (es.getD n []):=by
 rw[fB (d:=[]) hn,gK];simp[bO]
def bR {es:ab}{n:Nat}:bO (es.take n)<=bO es:=by
 conv=>rhs;rw[<-ZR n es,gK]
 omega
def BY {sz:Nat}{es:ab}{n o:Nat}{new:ax}:vk (.s sz es) [(n,o)] new=es.set n ((es.getD n []).take o++new++(es.getD n []).drop (o+new.length)):=rfl
def u9 {sz:Nat}{c:ab}{n j:Nat}:vy (.s sz c) [(n,j)]=LE ((c.getD n []).getD j .g):=by
 unfold vy lz;simp only[bT];cases h:c[n]? with
 |none=>simp[Zv,h,LE]
 | some rec=>
   simp only[Yf,Zv,h,Z0];cases h2:rec[j]? with
   |none=>simp[LE]
   |some l=>cases l<;>simp[LE]
def fa {c:ab}{n:Nat}{r:ax}(h:n<c.length):(c.set n r).getD n []=r:=by simp[Zv,h]
def uH {sz:Nat}{c:ab}{n j:Nat}{r:ax}(h:n<c.length):bT (.s sz (c.set n r)) [(n,j)]=some (r,j):=by simp[bT,h]
def zh {sz:Nat}{c:ab}{n j:Nat}(h:n<c.length):bT (.s sz c) [(n,j)]=some (c.getD n [],j):=by simp[bT,Zv,h]
def Ba {sz:Nat}{c:ab}{n j:Nat}{r:ax}(h:n<c.length):lz (.s sz (c.set n r)) [(n,j)]=match r[j]? with
 |some (.s sz es)=>some (sz,es)
 |_=>none:=by unfold lz;rw[uH h];rfl
def zk {sz:Nat}{c:ab}{n j:Nat}(h:n<c.length):lz (.s sz c) [(n,j)]=match(c.getD n [])[j]? with
 |some (.s sz es)=>some (sz,es)
 |_=>none:=by unfold lz;rw[zh h];rfl
def bG {a b:List ab}{k:Int}(hk:0<=k):bj a k<=bj (a++b) k/\0<=bj a k:=by
 rw[<-jJ,K2 (rs:=b),K2 (rs:=a)];have:=Qf (rs:=a);have:=Qf (rs:=b);omega
def PZ {l:L}{k:Int}{z:L}(h:oY z l=true):oY z (iy l k).1=true:=by
 cases l with
 |v x=>cases x<;>cases z<;>simp_all [iy,oY]<;>(rename_i y;cases y<;>simp_all [oY])
 |s sz es=>cases z<;>simp_all [iy,oY]
 |g=>exact h
 |m _ _=>exact h
def JH:∀ {z e:ax} {k:Int},jZ z e=true->jZ z (gQ e k).1=true
 |[],[],_,_=>rfl
 |[],_::_,_,h=>by simp[jZ]at h
 |_::_,[],_,h=>by simp[jZ]at h
 | z::zs,l::ls,k,h=>by
   simp only[jZ,Zc,gQ]at h ⊢;exact⟨PZ h.1,JH h.2⟩
def Gy:∀ {z:ax} {es:ab} {k:Int},Wf z es->Wf z (dx es k).1
 |z,[],_,_=>fun e he=>by cases he
 | z,e::es,k,h=>by
   intro x hx;simp only[dx,List.mem_cons]at hx;rcases hx with rfl|hx;exact JH (h e (by simp));exact Gy (fun y hy=>h y (by simp[hy])) x hx
def dC {fs:List Ty}{es:ab}{k:Int}(h:Rw fs es):Wf (zR fs) (dL es k):=Gy h.wf
end Go.V
namespace Go.V
mutual
def Re:Ty->Nat
 | .sl fs=>HP fs
 |_=>1
def HP:List Ty->Nat
 |[]=>0
 |t::ts=>Re t+HP ts
end
mutual
def aby:∀ (t:Ty) (l:L),dn t l->(iy l 0).2<=(Re t*(gW l+1):Nat)
 | .int k,.v x,h=>by cases x<;>simp[iy,gW,Re]
 | .int k,.s _ _,h=>by simp[dn]at h
 | .int k,.g,h=>by simp[dn]at h
 | .bool,.v x,h=>by cases x<;>simp[iy,gW,Re]
 | .bool,.s _ _,h=>by simp[dn]at h
 | .bool,.g,h=>by simp[dn]at h
 | .str,.v x,h=>by cases x<;>simp[iy,gW,Re]
 | .str,.s _ _,h=>by simp[dn]at h
 | .str,.g,h=>by simp[dn]at h
 | .sl fs,.v x,h=>by simp[dn]at h
 | .sl fs,.g,h=>by simp[dn]at h
 | .sl fs,.s sz es,h=>by
   have h1:=E6 fs es (by simp only[dn]at h;exact h.2.2);simp only[iy,gW,Re];have:HP fs*(es.length+bO es)<=HP fs*(es.length+bO es+1):=XW _ Uc;omega
def Nm:∀ (ts:List Ty) (ls:ax),bW ts ls->(gQ ls 0).2<=(HP ts*(dO ls+1):Nat)
 |[],[],_=>by simp only[gQ];exact Xn _
 |[],_::_,h=>h.elim
 |_::_,[],h=>h.elim
 | t::ts,l::ls,h=>by
   have h1:=aby t l h.1;have h2:=Nm ts ls h.2;simp only[gQ];rw[DK];have e1:Re t*(gW l+1)<=Re t*(dO (l::ls)+1):=XW _ (by simp[dO]);have e2:HP ts*(dO ls+1)<=HP ts*(dO (l::ls)+1):=XW _ (by simp[dO]);have e3:HP (t::ts)*(dO (l::ls)+1)=Re t*(dO (l::ls)+1)+HP ts*(dO (l::ls)+1):=by simp only[HP];rw[Nat.add_mul]
   omega
def E6:∀ (ts:List Ty) (es:ab),(∀ e∈es,bW ts e)->(dx es 0).2<=(HP ts*(es.length+bO es):Nat)
 |ts,[],_=>by simp only[dx];exact Xn _
 | ts,e::es,h=>by
   have h1:=Nm ts e (h e (by simp));have h2:=E6 ts es (fun x hx=>h x (by simp[hx]));simp only[dx];rw[pV];have e3:HP ts*((e::es).length+bO (e::es))=HP ts*(dO e+1)+HP ts*(es.length+bO es):=by
    rw[<-Vg];congr 1;simp[bO];omega
   omega
end
def Rw.marks {fs:List Ty}{es:ab}(h:Rw fs es)(hw:HP fs<=64):(dx es 0).2<=(64*au es:Nat):=by
 have:=E6 fs es h.2;have h2:HP fs*(es.length+bO es)<=64*(es.length+bO es):=Nat.mul_le_mul_right _ hw;unfold au;omega
def GM:∀ {rs:List ab} {k:Int},(∀ r∈rs,(dx r 0).2<=(64*au r:Nat))->bj rs k<=k+(64*aP rs:Nat)
 |[],k,_=>by simp[bj,aP]
 | r::rs,k,h=>by
   simp only[bj,aP];have h1:=h r (by simp);have h2:=GM (rs:=rs) (k:=(dx r k).2) (fun x hx=>h x (by simp[hx]));rw[pV]at h2;rw[pV r k];have:64*(au r+aP rs)=64*au r+64*aP rs:=Vg _ _ _;omega
def M1 {rs:List ab}{k:Int}(h:∀ r∈rs,(dx r 0).2<=(64*au r:Nat))(hk:0<=k/\k<=1000)(hc:aP rs<=1099511627776):bj rs k<=1152921504606846976:=by
 have:=GM (k:=k) h;have:64*aP rs<=64*1099511627776:=XW _ hc;omega
def E3 {rs:List ab}{k:Int}(hk:0<=k):¬ bj rs k<0:=by
 rw[K2];have:=Qf (rs:=rs);omega
def aco {rs:List ab}(h:aP rs<=1048576):¬ dF rs 1048576<0:=by rw[qh];omega
def Rc {es:ab}{k:Int}:BO (dL es k) 0 es.length=dL es k:=by
 rw[<-cF (es:=es) (k:=k),sa]
abbrev hpL (a0 a1 a2:ab)(a3:Int)(a4 a5 a6 a7 a8 a9 aA aB:ab)(aC:Int)(aD:ab)(aE aF aG aH:Int)(aI:Bool)(aJ aK:Int)(aL:ab)(aM aN:Int):ax:=[.s 1 a0,.s 1 a1,.s 2 a2,.i a3,.s 1 a4,.s 2 a5,.s 3 a6,.s 3 a7,.s 4 a8,.s 1 a9,.s 1 aA,.s 1 aB,.i aC,.s 3 aD,.i aE,.i aF,.i aG,.i aH,.v (.bool aI),.i aJ,.i aK,.s 1 aL,.i aM,.i aN]
abbrev hpM (a0 a1 a2:ab)(a3:Int)(a4 a5 a6 a7 a8 a9 aA aB:ab)(aC:Int)(aD:ab)(aE aF aG aH:Int)(aI:Bool)(aJ aK:Int)(aL:ab)(aM aN:Int):List H:=[.own (.s 1 a0),.own (.s 1 a1),.own (.s 2 a2),.own (.i a3),.own (.s 1 a4),.own (.s 2 a5),.own (.s 3 a6),.own (.s 3 a7),.own (.s 4 a8),.own (.s 1 a9),.own (.s 1 aA),.own (.s 1 aB),.own (.i aC),.own (.s 3 aD),.own (.i aE),.own (.i aF),.own (.i aG),.own (.i aH),.own (.v (.bool aI)),.own (.i aJ),.own (.i aK),.own (.s 1 aL),.own (.i aM),.own (.i aN)]
def d8 {es:ab}{n:Nat}(h:au es<=n):es.length<=n:=Z8 (Nat.le_add_right _ _) h
def zq0 {p:Prop}(h:p:=by
 try rw[eT (n:=es.length) g0 hlt Uc]
 try have hlt':i.toNat<es.length:=by omega
 try have hct:=dk (es:=es) (n:=i.toNat) Uc;rw[he]at hct;simp only[dO,gW,Nat.add_zero,Nat.zero_add]at hct
 try have hks:=dJ (es:=es) (k:=k) hlt';rw[he]at hks;simp only[gQ,iy]at hks
 try have hms:=Bs (es:=es) (k:=k) hlt';rw[he]at hms;simp only[gQ,iy]at hms
 try have hcl:i.toNat<cur.length:=by rw[hc,rC g1];exact hlt'
 have hk1:=jn (es:=es) (k:=k) (n:=i.toNat)
 have hk2:=jn (es:=es) (k:=k) (n:=i.toNat+1)
 have hk3:=rZ (es:=es) (k:=k)
 have hk4:=jn (es:=es) (k:=k) (n:=es.length)
 have hk5:=fG (es:=es) (m:=0) (n:=i.toNat) g1 (Nat.zero_le _)
 have hk6:=fG (es:=es) (m:=i.toNat) (n:=es.length) (Nat.le_refl _) g1
 try have hk7:=fG (es:=es) (m:=i.toNat+1) (n:=es.length) (Nat.le_refl _) hlt'
 have hle1:=bR (es:=es) (n:=i.toNat+1)
 have hcE:au es=es.length+bO es:=rfl
 rw[bS]at hk5
 try have hk8:=mM (es:=es) (n:=i.toNat) hlt'
 have ha1:bK .add .i64 k' 1=k'+1:=bD Uc
 have ha2:bK .add .i64 (k'+1) 1=k'+1+1:=bD Uc
 have ha3:bK .add .i64 (k'+1+1) 1=k'+1+1+1:=bD Uc
 have ha4:bK .add .i64 (k'+1+1+1) 1=k'+1+1+1+1:=bD Uc
 try simp only[ha1,ha2,ha3,ha4]
 try simp only[az]
 try simp only[BY,hcg,List.take,List.drop,List.length_cons,List.length_nil,List.nil_append,List.cons_append,List.append_nil,Nat.zero_add,Nat.reduceAdd,fa hcl,List.set_set,List.append_assoc]
 try simp only[u9,hcg,fa hcl,List.getD_cons_zero,List.getD_cons_succ,LE]
 try simp only[zh hcl,uH hcl,zk hcl,Ba hcl,hcg,List.getElem?_cons_zero,List.getElem?_cons_succ]
 first|exact⟨g0,hlt⟩|(refine⟨_,_,rfl,?_⟩;simp;done)|omega|(rw[hk',show i.toNat=es.length from by omega,hk3];done)|(rw[hc,show i.toNat=es.length from by omega,Br];rfl)|(rw[show(i+1).toNat=i.toNat+1 from by omega,hks,hk'];done)|(rw[show(i+1).toNat=i.toNat+1 from by omega, <-hms,hc,hk'];done)|trace_state):p:=h
def zq1 {p:Prop}(h:p:=by
 have hk1:=jn (es:=es) (k:=k) (n:=i.toNat)
 have hk2:=jn (es:=es) (k:=k) (n:=i.toNat+1)
 have hk3:=rZ (es:=es) (k:=k)
 have hk4:=jn (es:=es) (k:=k) (n:=es.length)
 have hk5:=fG (es:=es) (m:=0) (n:=i.toNat) g1 (Nat.zero_le _)
 have hk6:=fG (es:=es) (m:=i.toNat) (n:=es.length) (Nat.le_refl _) g1
 try have hk7:=fG (es:=es) (m:=i.toNat+1) (n:=es.length) (Nat.le_refl _) hlt'
 have hle1:=bR (es:=es) (n:=i.toNat+1)
 have hcE:au es=es.length+bO es:=rfl
 rw[bS]at hk5
 try have hk8:=mM (es:=es) (n:=i.toNat) hlt'
 try rw[<-hk']at hem hks
 have ha1:bK .add .i64 k' 1=k'+1:=bD Uc
 have ha2:bK .add .i64 (k'+1) 1=k'+1+1:=bD Uc
 have ha3:bK .add .i64 (k'+1+1) 1=k'+1+1+1:=bD Uc
 have ha4:bK .add .i64 (k'+1+1+1) 1=k'+1+1+1+1:=bD Uc
 try simp only[ha1,ha2,ha3,ha4]at*
 first|exact oK hwm g0 hltm|omega|(exfalso;revert hb;simp only[hem,cM,bK];simp;done)|(rw[hk',show i.toNat=es.length from by omega,hk3,hkk];done)|(rw[show(i+1).toNat=i.toNat+1 from by omega,hks];done)|(rw[show(i+1).toNat=i.toNat+1 from by omega,hks,hem];simp only[bj,fc];done)|(rw[show(i+1).toNat=i.toNat+1 from by omega,hks,hem.2];simp only[bj,fc];done)|(refine⟨_,by first|exact hem|exact hem.2|exact hem.1|rfl,?_,?_,?_⟩<;>(try simp only[bj,fc,au])<;>omega)|(refine⟨_,by first|exact hem|exact hem.2|exact hem.1|rfl,?_,?_,?_⟩<;>(try rw[hem])<;>(try rw[hem.2])<;>(try simp only[bj,fc,au])<;>omega)|(exfalso;simp only[bj,fc]at hb;omega)|(exfalso;(first|rw[hem]at hb|rw[hem.2]at hb);simp only[bj,fc]at hb;omega)|trivial|trace_state):p:=h
def Ro {p:Prop}(h:p:=by
 try rw[eT (n:=es.length) g0 hlt Uc]
 try have hct:=dk (es:=es) (n:=i.toNat) Uc;rw[he]at hct;simp only[dO,gW,Nat.add_zero,Nat.zero_add]at hct
 have hle1:=bR (es:=es) (n:=i.toNat+1)
 have hcE:au es=es.length+bO es:=rfl
 first|exact oK hwf g0 hlt|exact⟨g0,hlt⟩|(rw[hm];exact il (by rw[lr g1];omega) (by rw[pO Uc];exact Nat.le_refl _))|omega|(rw[show(i+1).toNat=i.toNat+1 from by omega, <-Dn Uc, <-hm,sx (by rw[hm,pO Uc];rfl),he])|(rw[hm,lr g1];exact⟨trivial,rfl⟩)|(rw[hm,show i.toNat=es.length from by omega,Dm])|trace_state):p:=h
def zq3 {p:Prop}(h:p:=by
 try have hct:=dk (es:=es) (n:=i.toNat) Uc;rw[he]at hct;simp only[dO,gW,Nat.add_zero,Nat.zero_add]at hct
 try have hks:=dJ (es:=es) (k:=k) hlt';rw[he]at hks;simp only[gQ,iy]at hks
 try have hms:=Bs (es:=es) (k:=k) hlt';rw[he]at hms;simp only[gQ,iy]at hms
 try have hcl:i.toNat<cur.length:=by rw[hc,rC g1];exact hlt'
 have hk1:=jn (es:=es) (k:=k) (n:=i.toNat)
 have hk2:=jn (es:=es) (k:=k) (n:=i.toNat+1)
 have hk3:=rZ (es:=es) (k:=k)
 have hk4:=jn (es:=es) (k:=k) (n:=es.length)
 have hk5:=fG (es:=es) (m:=0) (n:=i.toNat) g1 (Nat.zero_le _)
 have hk6:=fG (es:=es) (m:=i.toNat) (n:=es.length) (Nat.le_refl _) g1
 try have hk7:=fG (es:=es) (m:=i.toNat+1) (n:=es.length) (Nat.le_refl _) hlt'
 have hle1:=bR (es:=es) (n:=i.toNat+1)
 have hcE:au es=es.length+bO es:=rfl
 rw[bS]at hk5
 try have hk8:=mM (es:=es) (n:=i.toNat) hlt'
 have ha1:bK .add .i64 k' 1=k'+1:=bD Uc
 have ha2:bK .add .i64 (k'+1) 1=k'+1+1:=bD Uc
 have ha3:bK .add .i64 (k'+1+1) 1=k'+1+1+1:=bD Uc
 have ha4:bK .add .i64 (k'+1+1+1) 1=k'+1+1+1+1:=bD Uc
 try simp only[ha1,ha2,ha3,ha4]
 try simp only[az]
 try simp only[BY,hcg,List.take,List.drop,List.length_cons,List.length_nil,List.nil_append,List.cons_append,List.append_nil,Nat.zero_add,Nat.reduceAdd,fa hcl,List.set_set,List.append_assoc]
 try simp only[u9,hcg,fa hcl,List.getD_cons_zero,List.getD_cons_succ,LE]
 try simp only[zh hcl,uH hcl,zk hcl,Ba hcl,hcg,List.getElem?_cons_zero,List.getElem?_cons_succ]
 first|exact⟨g0,hlt⟩|(refine⟨_,_,rfl,by simp,?_⟩;show List.take _ (List.drop _ _)=[L.s _ (vy _ _)];simp only[xE,u9,hcg,fa hcl,List.getD_cons_zero,List.getD_cons_succ,Nat.add_zero,LE];rfl)|exact⟨trivial,_,rfl,rfl⟩|exact⟨_,rfl⟩|omega|(rw[hk',show i.toNat=es.length from by omega,hk3];done)|(rw[hc,show i.toNat=es.length from by omega,Br];rfl)|(rw[show(i+1).toNat=i.toNat+1 from by omega,hks,hk'];rfl)|(rw[show(i+1).toNat=i.toNat+1 from by omega, <-hms,hc,hk'];rfl)|(refine⟨hr0,?_,?_,?_⟩<;>(try simp only[au,bj])<;>first|omega|(rw[hk'];omega))|trace_state):p:=h
def y8 {p:Prop}(h:p:=by
 intro O r F hO hr hF;cbv
 repeat' first|apply And.intro|(apply bC<;>intro hb<;>cbv)
 all_goals(subst hO hr hF;(try simp only[nc]at*);(try simp only[ah,SS,sa,az]at*))
 all_goals first|trivial|trace_state):p:=h
def zq5 {p:Prop}(h:p:=by
 have hk1:=jn (es:=es) (k:=k) (n:=i.toNat)
 have hk2:=jn (es:=es) (k:=k) (n:=i.toNat+1)
 have hk3:=rZ (es:=es) (k:=k)
 have hk4:=jn (es:=es) (k:=k) (n:=es.length)
 have hk5:=fG (es:=es) (m:=0) (n:=i.toNat) g1 (Nat.zero_le _)
 have hk6:=fG (es:=es) (m:=i.toNat) (n:=es.length) (Nat.le_refl _) g1
 try have hk7:=fG (es:=es) (m:=i.toNat+1) (n:=es.length) (Nat.le_refl _) hlt'
 have hle1:=bR (es:=es) (n:=i.toNat+1)
 have hcE:au es=es.length+bO es:=rfl
 rw[bS]at hk5
 try have hk8:=mM (es:=es) (n:=i.toNat) hlt'
 try rw[<-hk']at hem hks
 have ha1:bK .add .i64 k' 1=k'+1:=bD Uc
 have ha2:bK .add .i64 (k'+1) 1=k'+1+1:=bD Uc
 have ha3:bK .add .i64 (k'+1+1) 1=k'+1+1+1:=bD Uc
 have ha4:bK .add .i64 (k'+1+1+1) 1=k'+1+1+1+1:=bD Uc
 try simp only[ha1,ha2,ha3,ha4]at*
 first|exact oK hwm g0 hltm|omega|(exfalso;revert hb;simp only[hem,cM,bK];simp;done)|(rw[hk',show i.toNat=es.length from by omega,hk3,hkk];done)|(rw[show(i+1).toNat=i.toNat+1 from by omega,hks];done)|(rw[show(i+1).toNat=i.toNat+1 from by omega,hks,hem];simp only[bj,fc];done)|(rw[show(i+1).toNat=i.toNat+1 from by omega,hks,hem.2];simp only[bj,fc];done)|(refine⟨_,by first|exact hem|exact hem.2|exact hem.1|rfl,hr0,?_,?_,?_⟩<;>(try simp only[bj,fc,au])<;>omega)|(refine⟨_,by first|exact hem|exact hem.2|exact hem.1|rfl,hr0,?_,?_,?_⟩<;>(try rw[hem])<;>(try rw[hem.2])<;>(try simp only[bj,fc,au])<;>omega)|(exfalso;simp only[bj,fc]at hb;omega)|(exfalso;(first|rw[hem]at hb|rw[hem.2]at hb);simp only[bj,fc]at hb;omega)|trivial|trace_state):p:=h
def zq6 {p:Prop}(h:p:=by
 (try have hl:((msS a2 a6).length:Int)<=16:=Ud)
 (try have hg:(16:Int)<(msS a2 a6).length:=Ud)
 (try have l2':=aeE hg)
 (try have ea:=abN (e:=a2) (s:=a6) Uc)
 (try simp only[ea]at*)
 (try simp only[aeH,aeD,aeI]at*)
 (try simp only[l2']at*)
 (try simp only[aeN]at*)
 (try have p0:(xj a2 a6 aE).length≠0:=Uc)
 (try have z0:(xj a2 a6 aE).length=0:=Uc)
 (try have I:=Td p0)
 (try simp only[pe (l:=xj a2 a6 aE) (sz:=2) (j:=0) (i:=0) (by decide),pe (l:=xj a2 a6 aE) (sz:=2) (j:=1) (i:=0) (by decide)]at*)
 (try simp only[acl]at*)
 (try simp only[pe (l:=msS a2 a6) (sz:=3) (j:=0) I.1.1,pe (l:=msS a2 a6) (sz:=3) (j:=1) I.1.1,pe (l:=msS a2 a6) (sz:=3) (j:=2) I.1.1,pe (l:=msS a2 a6) (sz:=3) (j:=0) I.2.1,pe (l:=msS a2 a6) (sz:=3) (j:=1) I.2.1,pe (l:=msS a2 a6) (sz:=3) (j:=2) I.2.1]at*)
 (try simp only[pe (l:=sf a2 a6) (sz:=3) (j:=0) I.1.1,pe (l:=sf a2 a6) (sz:=3) (j:=1) I.1.1,pe (l:=sf a2 a6) (sz:=3) (j:=2) I.1.1,pe (l:=sf a2 a6) (sz:=3) (j:=0) I.2.1,pe (l:=sf a2 a6) (sz:=3) (j:=1) I.2.1,pe (l:=sf a2 a6) (sz:=3) (j:=2) I.2.1]at*)
 (try simp only[Tj I.1.1 I.1.2,Tj I.2.1 I.2.2]at*)
 (try simp only[aeO]at*)
 (try simp only[aeL,aeM,aeK]at*)
 first
  | (show(_:List DV)=_
     first
      |(have g0:mtG (hpI a0 a1 a2 a3 a4 a5 a6 a7 a8 a9 aA aB aC aD aE aF aG aH aI aJ aK aL aM aN) aI=false:=(by rw[show aI=true by assumption];exact Tg);rw[g0];exact rfl)
      |(have g0:mtG (hpI a0 a1 a2 a3 a4 a5 a6 a7 a8 a9 aA aB aC aD aE aF aG aH aI aJ aK aL aM aN) aI=false:=Ti Ud;rw[g0];exact rfl)
      |(have g1:mtG (hpI a0 a1 a2 a3 a4 a5 a6 a7 a8 a9 aA aB aC aD aE aF aG aH aI aJ aK aL aM aN) aI=true:=Kc Ud Ud;have b0:mtB true a2 a6 aE=false:=NH z0;rw[g1];simp only[Fe b0,Ff b0,Fc b0,wo b0,Ka b0,b0];exact rfl)
      |(have g1:mtG (hpI a0 a1 a2 a3 a4 a5 a6 a7 a8 a9 aA aB aC aD aE aF aG aH aI aJ aK aL aM aN) aI=true:=Kc Ud Ud;have b1:mtB true a2 a6 aE=true:=NI rfl p0;rw[g1];simp only[IF b1,IG b1,IE b1,ID b1,ND b1,b1];exact rfl)
      |exact aj (NH z0).symm
      |exact aj (NI rfl p0).symm
      |done)
  | (show(_:List H)=_
     first
      |(have b0:mtB true a2 a6 aE=false:=NH z0;simp only[Fe b0,Ff b0,Fc b0,wo b0,Ka b0,b0];exact rfl)
      |(have b1:mtB true a2 a6 aE=true:=NI rfl p0;simp only[IF b1,IG b1,IE b1,ID b1,ND b1,b1];exact rfl)
      |done)
  |omega
  |exact iB
  |exact aeF
  |exact⟨mtr,Uc⟩
  |exact Ir Pr (by decide) Uc (by decide)
  |exact I.1
  |exact I.2
  |exact J0 mr I.1.1 Uc
  |exact J0 mr I.2.1 Uc
  |exact J0 mtr I.1.1 Uc
  |exact J0 mtr I.2.1 Uc
  |exact⟨IC.1,by have:=(IC (e:=a2) (s:=a6) (d:=aE)).2;omega⟩
  |exact⟨Uc,Uc,mr.eta I.1.1 Uc⟩
  |exact⟨Uc,Uc,mr.eta I.2.1 Uc⟩
  |exact⟨Uc,Uc,mtr.eta I.1.1 Uc⟩
  |exact⟨Uc,Uc,mtr.eta I.2.1 Uc⟩
  |exact hp
  |exact hp.hp
  |exact⟨hp.r2,hp.r6,Uc,Uc⟩
  |(show ay _ _=true;kernel_rfl)
  |exact⟨True.intro,True.intro⟩
  |exact True.intro
  |done):p:=h
def zq7 {p:Prop}(h:p:=by
 intro O r F hO hr hF;cbv
 repeat' first|apply And.intro|(apply bC<;>intro hb<;>cbv)|(refine⟨[0,1,6,7],[6],Int×ab,fun s_=>match s_ with|(i,o)=>[.reg 7 (.j i),.reg 6 (.one (.vw 6 0 0 0 (O.ln o))),.leaf 6 0 ⟨0,0,none,.own (.s 1 o)⟩],fun s_=>match s_ with|(i,o)=>0<=i/\i<=n/\IoP i o,fun s_=>match s_ with|(i,o)=>(n-i).toNat,⟨(0,[]),?_,?_⟩,?_⟩;rotate_left;(focus (cbv;done));intro s_ hi;obtain⟨i,o⟩:=s_;replace hi:0<=i/\i<=n/\IoP i o:=hi;obtain⟨i0,i1,i2⟩:=hi;cbv)|(refine⟨[0,6,8],[6],Int×ab×Int,fun s_=>match s_ with|(j,p,t)=>[.reg 0 (.j t),.reg 8 (.j j),.leaf 6 0 ⟨0,0,none,.own (.s 1 p)⟩],fun s_=>match s_ with|(j,p,t)=>j<n/\(-1<=j)/\ShP n s j p t,fun s_=>match s_ with|(j,p,t)=>(j+1).toNat,⟨(O.ar .sub .i64 n 1,o,s),?_,?_⟩,?_⟩;rotate_left;(focus (cbv;done));intro s_ hj;obtain⟨j,p,t⟩:=s_;replace hj:j<n/\(-1<=j)/\ShP n s j p t:=hj;obtain⟨j0,j1,j2⟩:=hj;cbv)|(refine af (O.ar .add .i64 i 1,O.cat o (O.sub [[.i i]] 0 (O.ln [[.i i]]))) ?_ ?_ ?_;focus (cbv;done))|(refine af (O.ar .sub .i64 j 1,O.up (.s 1 (O.up (.s 1 p) [(O.ad 0 j,0)] [.i (O.pi (.s 1 p) [(O.ad 0 (F.cuI t (O.ar .add .i64 j 1)),0)])])) [(O.ad 0 (F.cuI t (O.ar .add .i64 j 1)),0)] [.i (O.pi (.s 1 p) [(O.ad 0 j,0)])],F.cuS t (O.ar .add .i64 j 1)) ?_ ?_ ?_;focus (cbv;done))
 all_goals(subst hO hr hF;(try simp only[nc]at*);(try simp only[ah,SS,sa,az]at*))
 all_goals try rw[dd Uc Uc]
 all_goals(try have hn:=bz.1 (by assumption:inR n 0 64=true))
 all_goals(try have li:=JO Ud Ud)
 all_goals(try have e1:bK .add .i64 j 1=j+1:=bD Uc)
 all_goals(try have e2:bK .sub .i64 j 1=j-1:=dp Uc)
 all_goals(try have e3:bK .sub .i64 n 1=n-1:=dp Uc)
 all_goals(try have e0:bK .add .i64 i 1=i+1:=bD Uc)
 all_goals(try simp only[e1]at*)
 all_goals(try simp only[e2]at*)
 all_goals(try simp only[e3]at*)
 all_goals(try simp only[e0]at*)
 all_goals(try have S:=(by assumption:ShP n s j p t))
 all_goals(try have sl:=S.l)
 all_goals(try have sq:=JF (n:=j+1) S.k Uc Uc)
 all_goals first
  | (show(_:List DV)=_
     first
      |exact IZ (Ov (afT Ud)).1.symm (Ov (afT Ud)).2.symm
      |exact IZ (Ov (afU Ud)).1.symm (Ov (afU Ud)).2.symm
      |(have q:=QW S Uc (QU Ud Ud);exact IZ q.1 q.2)
      |done)
  |(show ay _ _=true;kernel_rfl)
  |omega
  |exact⟨True.intro,True.intro⟩
  |exact adG
  |exact aa1 Ud Ud
  |exact afV Ud Uc Uc Uc Ud
  |(rw[af9 S.r Uc Uc sq.1 Uc];exact acj S Uc Uc Uc)
  |exact nA S.r Uc Uc
  |exact Sw S.r Uc Uc
  |exact acn S.r Uc Uc sq.1 Uc
  |(constructor<;>(simp only[List.length_cons,List.length_nil];omega))
  |(constructor<;>omega)
  |exact True.intro
  |done):p:=h
def zq8 {p:Prop}(h:p:=by
 try rw[eT (n:=es.length) g0 hlt Uc]
 try have hct:=dk (es:=es) (n:=i.toNat) Uc;rw[he]at hct;simp only[dO,gW,Nat.add_zero,Nat.zero_add]at hct
 have hle1:=bR (es:=es) (n:=i.toNat+1)
 have hcE:au es=es.length+bO es:=rfl
 first|omega|exact oK hwf g0 hlt|trivial|trace_state):p:=h
def zq9 {p:Prop}(h:p:=by
 intro O r F hO hr hF;cbv
 repeat' first|apply And.intro|(apply bC<;>intro hb<;>cbv)
 all_goals(subst hO hr hF;(try simp only[nc]at*);(try simp only[ah,SS,sa,az]at*))
 all_goals first|exact hs|trivial|exact⟨trivial,trivial⟩|exact⟨hw,hl⟩|omega|(show ay _ _=true;kernel_rfl)|(simp only[List.length_nil];omega)|exact rfl|done):p:=h
def FZ {p:Prop}(h:p:=by
 intro O r F hO hr hF;cbv
 repeat' first|apply And.intro|(apply bC<;>intro hb<;>cbv)
 all_goals(subst hO hr hF;(try simp only[nc]at*);(try simp only[ah,SS,sa,az]at*))
 all_goals(try simp only[hs]at*)
 all_goals first|trivial|(rw[hn,VE Uc])|(rw[hn,VF Uc])):p:=h
def agl {p:Prop}(h:p:=by
 (subst hO hr hF;(try simp only[nc]at*);(try simp only[ah,SS,sa,az]at*))
 try rw[dd Uc Uc]
 try(have hol:out.length=i.toNat:=(by rw[i2,List.length_take];omega))
 try(have hok:ou2.length=k.toNat:=(by rw[k2,List.length_take];omega))
 try(have hsc:=sv wb i0 Ud;have hsl:=aS (es:=aw b i 0))
 try(have hsd:=sv wx k0 Ud;have hsm:=aS (es:=aw x k 0))
 first
  | (show(_:List DV)=_
     first
      |exact rfl
      |(rw[i2,jg Uc];rfl)
      |(rw[i2,k2,jg Uc,jg Uc];rfl)
      |done)
  |omega
  |exact iB
  |(show ay _ _=true;kernel_rfl)
  |exact Rw.scal (fs:=[tI]) (by(first|assumption|exact Rw.sub (by first|assumption|exact Rw.sub Ud Uc rfl) Uc rfl)) rfl
  |exact Rw.scal (fs:=[tI,tI]) (by(first|assumption|exact Rw.sub (by first|assumption|exact Rw.sub Ud Uc rfl) Uc rfl)) rfl
  |exact⟨by(first|assumption|exact Rw.sub (by first|assumption|exact Rw.sub Ud Uc rfl) Uc rfl),Uc⟩
  |(simp only[List.length_nil,List.length_cons];omega)
  |(rw[i2,List.nil_append];exact(jh wb i0 Ud).symm)
  |(rw[k2];exact(jh wx k0 Ud).symm)
  |(rw[k2,List.nil_append];exact(jh wx k0 Ud).symm)
  |exact⟨trivial,trivial⟩
  |trivial
  |exact rfl
  |done):p:=h
def acx {p:Prop}(h:p:=by
 try have hct:=dk (es:=es) (n:=i.toNat) Uc;rw[he]at hct;simp only[dO,gW,Nat.add_zero,Nat.zero_add]at hct
 have hle1:=bR (es:=es) (n:=i.toNat+1)
 have hcE:au es=es.length+bO es:=rfl
 first|exact oK hwf g0 hlt|exact⟨g0,hlt⟩|(rw[hm];exact il (by rw[lr g1];omega) (by rw[pO Uc];exact Nat.le_refl _))|omega|(rw[show(i+1).toNat=i.toNat+1 from by omega, <-Dn Uc, <-hm,sx (by rw[hm,pO Uc];rfl),he])|(rw[hm,lr g1];exact⟨trivial,rfl⟩)|(rw[hm,show i.toNat=es.length from by omega,Dm])|trivial|(refine⟨hr0,?_⟩;simp only[aP,au,Nat.add_zero];omega)|trace_state):p:=h
def agm {p:Prop}(h:p:=by
 (subst hO hr hF;(try simp only[nc]at*);(try simp only[ah,SS,sa,az]at*))
 try rw[dd Uc Uc]
 try(have hol:out.length=i.toNat:=(by rw[i2,List.length_take];omega))
 try(have hsc:=sv hc i0 Ud;have hsl:=aS (es:=aw ls i 0))
 first
  | (show(_:List DV)=_
     first
      |exact rfl
      |(rw[i2,jg Uc];rfl)
      |(rw[i2,k2,jg Uc,jg Uc];rfl)
      |done)
  |omega
  |exact iB
  |(show ay _ _=true;kernel_rfl)
  |exact Rw.scal (fs:=[tI]) (by(first|assumption|exact Rw.sub (by first|assumption|exact Rw.sub Ud Uc rfl) Uc rfl)) rfl
  |exact Rw.scal (fs:=[tI,tI]) (by(first|assumption|exact Rw.sub (by first|assumption|exact Rw.sub Ud Uc rfl) Uc rfl)) rfl
  |exact⟨by(first|assumption|exact Rw.sub (by first|assumption|exact Rw.sub Ud Uc rfl) Uc rfl),Uc⟩
  |(simp only[List.length_nil,List.length_cons];omega)
  |(rw[i2];exact(jh hc i0 Ud).symm)
  |(rw[i2,List.nil_append];exact(jh hc i0 Ud).symm)
  |exact⟨trivial,trivial⟩
  |trivial
  |exact rfl
  |done):p:=h
def Rl {p:Prop}(h:p:=by
 intro O r os F hO hr hos hF;cbv
 repeat' first|apply And.intro|(apply bC<;>intro hb<;>cbv)
 all_goals((try subst hos);subst hO hr hF;(try simp only[nc]at*);(try simp only[ah,SS,sa,az]at*))
 all_goals(try simp only[jJ,List.cons_append,List.nil_append,cF]at*)
 all_goals first|trivial|(refine⟨Ud,?_,?_,?_⟩<;>(try simp only[jJ,List.cons_append,List.nil_append,aP,Nat.add_zero])<;>omega)|trace_state):p:=h
def Rm {p:Prop}(h:p:=by
 intro O r F hO hr hF;cbv
 repeat' first|apply And.intro|(apply bC<;>intro hb<;>cbv)
 all_goals(subst hO hr hF;(try simp only[nc]at*);(try simp only[ah,SS,sa,az]at*))
 all_goals(try simp only[jJ,List.cons_append,List.nil_append]at*)
 all_goals first|trivial|(exfalso;omega)|(obtain⟨x,y1,y2,y3⟩:=e0;exact⟨x,y1,y2,y3,Uc,Uc⟩)|(refine⟨Ud,Uc,Uc⟩)|trace_state):p:=h
def acy {p:Prop}(h:p:=by
 try have hct:=dk (es:=es) (n:=i.toNat) Uc;rw[he]at hct;simp only[dO,gW,Nat.add_zero,Nat.zero_add]at hct
 have hle1:=bR (es:=es) (n:=i.toNat+1)
 simp only[aP,au,Nat.add_zero]at hsz hsz2
 first|exact oK hwf g0 hlt|exact⟨hr0,Uc,Uc⟩|trivial|omega|(rw[hn,VE];omega)|(rw[hn,VF (by rw[show i.toNat=es.length from by omega,List.take_length]at g3;omega),show l=left-au es from by rw[show i.toNat=es.length from by omega,List.take_length]at g3;omega])|(rw[show(i+1).toNat=i.toNat+1 from by omega,hct];omega)|trace_state):p:=h
def agn {p:Prop}(h:p:=by
 intro O r F hO hr hF;cbv
 repeat' first|apply And.intro|(apply bC<;>intro hb<;>cbv)|(refine⟨[0,3,4],[],Int×Int,fun s_=>match s_ with|(i,n)=>[.reg 4 (.j i),.reg 3 (.j n)],fun s_=>match s_ with|(i,n)=>0<=i/\i<=16/\n=LB b i.toNat,fun s_=>match s_ with|(i,n)=>(16-i).toNat,⟨(0,0),?_,?_⟩,?_⟩;rotate_left;(focus (cbv;done));intro s_ hi;obtain⟨i,n⟩:=s_;replace hi:0<=i/\i<=16/\n=LB b i.toNat:=hi;obtain⟨i0,i1,i2⟩:=hi;cbv)|(refine af (O.ar .add .i64 i 1,n) ?_ ?_ ?_;focus (cbv;done))|(refine af (O.ar .add .i64 i 1,O.ar .add .i64 n 1) ?_ ?_ ?_;focus (cbv;done))
 all_goals(subst hO hr hF;(try simp only[nc]at*);(try simp only[ah,SS,sa,az]at*))
 all_goals(try rw[dd (i:=i) Uc Uc])
 all_goals first
  | (show(_:List DV)=_
     first
      |exact dH (i2.trans (by rw[show i=16 by omega];rfl))
      |done)
  | (show(_:Int)=_
     first
      |(rw[aao i0 Ud, <-i2])
      |(rw[acU i0 Ud, <-i2])
      |exact(rfl:(0:Int)=LB b 0)
      |done)
  |omega
  |exact True.intro
  |exact⟨True.intro,True.intro⟩
  |trace_state):p:=h
def ago {p:Prop}(h:p:=by
 (subst hO hr hF;(try simp only[nc]at*);(try simp only[ah,SS,sa,az]at*))
 try rw[dd Uc Uc]
 try(have hol:out.length=i.toNat:=(by rw[i2,List.length_take];omega))
 try(have hsc:=sv hr9 i0 Ud;have hsl:=aS (es:=aw a9 i 0))
 first
  | (show(_:List DV)=_
     first
      |exact rfl
      |(rw[i2,jg Uc];rfl)
      |done)
  |omega
  |exact iB
  |(show ay _ _=true;kernel_rfl)
  |exact hs5
  |exact hs6
  |exact hs7
  |exact hs8
  |exact⟨hr0,hr1,hr2,hr4,Uc,Uc,Uc,Uc⟩
  |exact⟨hr5,Uc⟩
  |exact⟨hr10,hr11,Uc,Uc⟩
  |exact⟨hr13,Uc⟩
  |exact⟨hr21,Uc⟩
  |exact⟨OG hr9 i0 Ud,Uc⟩
  |(simp only[List.length_nil,List.length_cons];omega)
  |(rw[i2];exact(jh hr9 i0 Ud).symm)
  |exact⟨trivial,trivial⟩
  |trivial
  |exact rfl
  |done):p:=h
def Rn {p:Prop}(h:p:=by
 intro O r os F hO hr hos hF;cbv
 repeat' first|apply And.intro|(apply bC<;>intro hb<;>cbv)
 all_goals((try subst hos);subst hO hr hF;(try simp only[nc]at*);(try simp only[ah,SS,sa,az]at*))
 all_goals(try simp only[jJ,List.cons_append,List.nil_append,cF]at*)
 all_goals first|trivial|trace_state):p:=h
def agp {p:Prop}(h:p:=by
 (try have z:=abG Ud)
 (try have y2:=hp.xn j)
 (try have y1:=hp.bn i)
 (try have z6:bK .add .i64 k 1=k+1:=bD Uc)
 (try simp only[z6]at*)
 first
  | (show(_:List DV)=_
     first
      |(refine oL ?_;exact ahu Ud)
      |(refine oL ?_;exact aaA j2 Ud j1 Ud)
      |done)
  |omega
  |exact iB
  |exact Rw.scal (Rw.sub (fs:=[.sl [tI]]) hxw Uc rfl) rfl
  |(have q:=k2.l;constructor<;>(simp only[List.length_cons,List.length_nil];omega))
  |(have q:=j2.l;constructor<;>omega)
  |exact ac4 k2 k0
  |exact aau k2 i0 y1 k1 Uc
  |exact ahb i2
  |exact ahc i2 i1 Uc
  |exact ac7 j2 j0 y2
  |exact aha
  |exact⟨True.intro,True.intro⟩
  |done):p:=h
def agq {p:Prop}(h:p:=by
 (try simp only[z9]at*)
 first
  | (show(_:List DV)=_
     first
      |(refine aj ?_;symm;exact abD Ud)
      |(refine aj ?_;symm;exact abE Ud)
      |(refine aj ?_;symm;exact Nr i0 Uc k0 Ud (ae5 Ud))
      |(refine aj ?_;symm;exact Nr i0 Uc k0 Ud (ae6 Ud))
      |(refine aj ?_;symm;exact abF i0 Uc j0 Ud (agY Ud))
      |(refine aj ?_;rw[abC i2 Ud Uc i1 Uc];rfl)
      |done)
  |omega
  |exact iB
  |(show ay _ _=true;kernel_rfl)
  |exact bI
  |exact bu k2 (ae7 Ud Ud)
  |exact bu j2 (acJ Ud)
  |exact aep i2 i0 k2 Uc j2 Uc
  |exact ahV
  |done):p:=h
def agr {p:Prop}(h:p:=by
 (subst hO hr hF;(try simp only[nc]at*);(try simp only[ah,SS,sa,az]at*))
 try rw[dd Uc Uc]
 try(have hpl:=zx (es:=a2) (ss:=a6) (n:=i.toNat);rw[<-i2]at hpl)
 first
  | (show(_:List DV)=_
     first
      |exact Fu (by rw[i2,show i.toNat=a6.length by omega];rfl)
      |done)
  | (show(_:ab)=_
     first
      |(rw[abK i0 Uc Uc, <-i2];rfl)
      |(rw[aey i0 Uc, <-i2])
      |exact(rfl:[]=zw a2 a6 0)
      |done)
  |omega
  |(show ay _ _=true;kernel_rfl)
  |exact iB
  |exact⟨he,hm⟩
  |(simp[cG,sn,scal];done)
  |(simp only[List.length_cons,List.length_nil];omega)
  |exact⟨True.intro,True.intro⟩
  |exact True.intro
  |trace_state):p:=h
def ags {p:Prop}(h:p:=by
 (subst hO hr hF;(try simp only[nc]at*);(try simp only[ah,SS,sa,az]at*))
 try rw[dd Uc Uc]
 (try have z:=C9 i0 Uc)
 (try simp only[z]at*)
 first
  | (show(_:List DV)=_
     first
      |(refine aj ?_;symm;exact ab7 i0 Ud Ud)
      |(refine aj ?_;symm;exact ab8 i0 Ud Ud Ud)
      |(refine aj ?_;exact ab6 i2 Uc)
      |(have q:false=true:=Ud;cases q)
      |done)
  |omega
  |exact iB
  |(show ay _ _=true;kernel_rfl)
  |exact bI
  |exact bu i2 (QN Ud Uc)
  |exact bu i2 (QO Ud Ud)
  |done):p:=h
def agt {p:Prop}(h:p:=by
 (subst hO hr hF;(try simp only[nc]at*);(try simp only[ah,SS,sa,az]at*))
 try rw[dd Uc Uc]
 first|omega|exact iB|exact bI|contradiction|exact aj (aax Ud).symm|exact aj (aay Uc).symm|exact aj (aaz i0 Uc Uc).symm|exact aj (Mx i0 Uc k0 Uc (.inl Ud)).symm|exact aj (Mx i0 Uc k0 Uc (.inr ⟨Ud,Ud⟩)).symm|exact aj (My Ud Uc i2 Uc).symm|exact bu i2 (Sj Uc k2 Uc)|exact bu k2 (RV Ud (by first|exact .inl Ud|exact .inr Ud))|trace_state):p:=h
def agu {p:Prop}(h:p:=by
 intro O r os F hO hr hos hF;cbv
 repeat' first|apply And.intro|(apply bC<;>intro hb<;>cbv)
 all_goals((try subst hos);subst hO hr hF;(try simp only[nc]at*);(try simp only[ah,SS,sa,az]at*))
 all_goals first
  |(show(_:List DV)=_;exact rfl)
  | (show(_:List H)=_
     first
      |(have q:=ag6 (cs:=cs) (us:=us) (es:=es) (f:=f) Ud;first|(rw[q.1,q.2,T6 wc f0 f1,OJ wu f0 Uc];done)|(rw[q.1,q.2,T6 wc f0 f1,OJ wu f0 Uc];exact rfl))
      |(have q:=ag7 (cs:=cs) (us:=us) (es:=es) (f:=f) Ud;first|(rw[q.1,q.2];done)|(rw[q.1,q.2];exact rfl))
      |done)
  |omega
  |exact⟨we,el⟩
  |(show ay _ _=true;kernel_rfl)
  |exact af3 wu f0 Uc
  |exact af6 wc f0 f1
  |exact⟨True.intro,True.intro⟩
  |exact True.intro
  |done):p:=h
def acz {p:Prop}(h:p:=by
 try have hct:=dk (es:=es) (n:=i.toNat) Uc;rw[he]at hct;simp only[dO,gW,Nat.add_zero,Nat.zero_add]at hct
 have hle1:=bR (es:=es) (n:=i.toNat+1)
 have hcE:au es=es.length+bO es:=rfl
 first|omega|exact oK hwf g0 hlt|trivial|(refine⟨trivial,hr0,?_⟩;simp only[aP,au,Nat.add_zero];omega)|trace_state):p:=h
def agv {p:Prop}(h:p:=by
 (subst hO hr hF;(try simp only[nc]at*);(try simp only[ah,SS,sa,az]at*))
 try rw[dd Uc Uc]
 try(have hpl:=Fo (es:=es) (f:=f) (n:=i.toNat);rw[<-i2]at hpl)
 first|omega|exact iB|(exact⟨trivial,trivial⟩)|rfl|(simp only[List.length_cons,List.length_nil];omega)|(rw[QE i0 Ud Ud, <-i2])|(rw[N0 i0 (.inl Ud), <-i2])|(rw[N0 i0 (.inr Ud), <-i2])|exact Fu (by rw[i2,show i.toNat=es.length from by omega];rfl)|trace_state):p:=h
def agw {p:Prop}(h:p:=by
 intro O r F hO hr hF;cbv
 repeat' first|apply And.intro|(apply bC<;>intro hb<;>cbv)
 all_goals(subst hO hr hF;(try simp only[nc]at*);(try simp only[ah,SS,sa,az]at*))
 all_goals first
  | (show(_:List DV)=_
     first
      |(have z:=ah9 Ud;exact IU z.1.symm z.2.1.symm z.2.2.symm (by assumption:mshB p k b q l c=false).symm)
      |(have z:=ah7 Ud Uc;exact IU z.1.symm z.2.1.symm z.2.2.symm (by assumption:mshB p k b q l c=true).symm)
      |(have z:=ah8 Ud Uc;exact IU z.1.symm z.2.1.symm z.2.2.symm (by assumption:mshB p k b q l c=true).symm)
      |done)
  |(show ay _ _=true;kernel_rfl)
  |exact True.intro
  |exact⟨True.intro,True.intro⟩
  |done):p:=h
def agx {p:Prop}(h:p:=by
 intro O r F hO hr hF;cbv
 repeat' first|apply And.intro|(apply bC<;>intro hb<;>cbv)
 all_goals(subst hO hr hF;(try simp only[nc]at*);(try simp only[ah,SS,sa,az]at*))
 all_goals first
  | (show(_:List DV)=_
     first
      |exact sR (PP (acV Ud)).1.symm (PP (acV Ud)).2.symm
      |exact sR (PP (acW Ud)).1.symm (PP (acW Ud)).2.symm
      |exact sR (acX Ud Ud).1.symm (acX Ud Ud).2.symm
      |done)
  |(show ay _ _=true;kernel_rfl)
  |exact True.intro
  |exact⟨True.intro,True.intro⟩
  |omega
  |(have q:=bz.1 (by assumption:inR n 1 1000=true);omega)
  |done):p:=h
def agy {p:Prop}(h:p:=by
 intro O r F hO hr hF;cbv
 repeat' first|apply And.intro|(apply bC<;>intro hb<;>cbv)
 all_goals(subst hO hr hF;(try simp only[nc]at*);(try simp only[ah,SS,sa,az]at*))
 all_goals(try simp only[hsb]at*)
 all_goals(try simp only[bz,uJ]at*)
 all_goals first|exact Gg (uZ Uc).1.symm (uZ Uc).2.symm|exact Gg (k7 Uc).1.symm (k7 Uc).2.symm|exact iB|trace_state):p:=h
def agz {p:Prop}(h:p:=by
 intro O r F hO hr hF;cbv
 repeat' first|apply And.intro|(apply bC<;>intro hb<;>cbv)
 all_goals(subst hO hr hF;(try simp only[nc]at*);(try simp only[ah,SS,sa,az]at*))
 all_goals first
  | (show(_:List DV)=_
     first
      |(have z:=ahC Ud;exact MW z.1.symm z.2.1.symm z.2.2.symm rfl rfl (by assumption:plOk k m cs=false).symm)
      |(have z:=Qe Ud;exact MW z.1.symm z.2.1.symm z.2.2.symm rfl rfl (by assumption:plOk k m cs=true).symm)
      |done)
  |(show ay _ _=true;kernel_rfl)
  |exact True.intro
  |exact⟨True.intro,True.intro⟩
  |exact⟨hw,hl⟩
  |done):p:=h
def agA {p:Prop}(h:p:=by
 intro O r F hO hr hF;cbv
 repeat' first|apply And.intro|(apply bC<;>intro hb<;>cbv)
 all_goals(subst hO hr hF;(try simp only[nc]at*);(try simp only[ah,SS,sa,az]at*))
 all_goals(try simp only[jJ,List.cons_append,List.nil_append]at*)
 all_goals first|trivial|(exfalso;omega)|(obtain⟨x,y1,y2,y3⟩:=e0;exact⟨x,y1,y2,y3,Uc,Uc⟩)|(obtain⟨x,y1,y2,y3⟩:=e1;exact⟨x,y1,y2,y3,Uc,Uc⟩)|(refine⟨Ud,Uc,Uc⟩)|(refine⟨Ud,Ud,Uc,Uc⟩)|trace_state):p:=h
def agB {p:Prop}(h:p:=by
 intro O r F hO hr hF;cbv
 repeat' first|apply And.intro|(apply bC<;>intro hb<;>cbv)
 all_goals(subst hO hr hF;(try simp only[nc]at*);(try simp only[ah,SS,sa,az]at*))
 all_goals try(have hs:=aiD.1 (‹slB b i=true›);have hw:=OW hs.2.1 hs.2.2;simp only[hw]at*)
 all_goals first
  | (show(_:List DV)=_
     first
      |exact aj (ady Ud).symm
      |(refine aj (ij ?_);unfold hsB;rw[show slB b i=true from by assumption,Bool.true_and,VD];simp only[SS])
      |done)
  |omega
  |trace_state):p:=h
def agC {p:Prop}(h:p:=by
 (subst hO hr hF;(try simp only[nc]at*);(try simp only[ah,SS,sa,az]at*))
 try rw[dd Uc Uc]
 first|omega|exact iB|exact bI|contradiction|exact aj (OI i2 Uc).symm|(simp only[bz,uJ]at*;first|exact aj (aga i0 Uc Uc).symm|exact bu i2 (T5 Uc))|trace_state):p:=h
def agD {p:Prop}(h:p:=by
 intro O r F hO hr hF;cbv
 repeat' first|apply And.intro|(apply bC<;>intro hb<;>cbv)
 all_goals(subst hO hr hF;(try simp only[nc]at*);(try simp only[ah,SS,sa,az]at*))
 all_goals first
  | (show(_:List DV)=_
     first
      |exact dH (ahZ Ud).symm
      |exact dH (ahY Ud).symm
      |done)
  |(show ay _ _=true;kernel_rfl)
  | (show(_:Int)≠0
     decide)
  |omega
  |exact True.intro
  |done):p:=h
def agE {p:Prop}(h:p:=by
 (subst hO hr hF;(try simp only[nc]at*);(try simp only[ah,SS,sa,az]at*))
 try rw[dd Uc Uc]
 first|(show(_:List DV)=_;exact dH (ab4 i2 i1 Uc))|omega|exact iB|exact aib|exact aft i2 i0 Uc|done):p:=h
def agF {p:Prop}(h:p:=by
 intro O r F hO hr hF;cbv
 repeat' first|apply And.intro|(apply bC<;>intro hb<;>cbv)
 all_goals(subst hO hr hF;(try simp only[nc]at*);(try simp only[ah,SS,sa,az]at*))
 all_goals(try have t:=bz.1 hb)
 all_goals(try have z:bK .sub .i64 n l=n-l:=dp Uc)
 all_goals(try simp only[z]at*)
 all_goals first|(show(_:List DV)=_;refine aj ?_;unfold rngIn;simp[hb];done)|done):p:=h
def agG {p:Prop}(h:p:=by
 (try simp only[bz,uJ]at*)
 (try rw[dd Uc Uc])
 first|trivial|omega|exact R0 Uc Ud Uc|(have:=R0 (k:=k) (s:=s) Uc Ud Uc;omega)|exact dH (acS Uc).symm|exact dH (aan Uc Ud Uc Ud).symm|exact .inl trivial|(rw[show k+1-1=k by omega];exact .inr Ud)|trace_state):p:=h
def agH {p:Prop}(h:p:=by
 intro O r F hO hr hF;cbv
 repeat' first|apply And.intro|(apply bC<;>intro hb<;>cbv)
 all_goals(subst hO hr hF;(try simp only[nc]at*);(try simp only[ah,SS,sa,az]at*))
 all_goals first
  | (show(_:List DV)=_
     first
      |exact Fu (Mw Ud).symm
      |exact Fu (JI Ud).symm
      |done)
  |exact⟨hw,hn⟩
  |exact hw
  |exact⟨True.intro,True.intro⟩
  |trace_state):p:=h
def agI {p:Prop}(h:p:=by
 intro O r F hO hr hF;cbv
 repeat' first|apply And.intro|(apply bC<;>intro hb<;>cbv)
 all_goals(subst hO hr hF;(try simp only[nc]at*);(try simp only[ah,SS,sa,az]at*))
 all_goals first
  | (show(_:List DV)=_
     first
      |exact aj (by unfold slB;rw[VB Ud];rfl)
      |exact aj (by unfold slB;rw[VC Uc];rfl)
      |done)
  |trace_state):p:=h
def agJ {p:Prop}(h:p:=by
 intro O r F hO hr hF;cbv
 repeat' first|apply And.intro|(apply bC<;>intro hb<;>cbv)
 all_goals(subst hO hr hF;(try simp only[nc]at*);(try simp only[ah,SS,sa,az]at*))
 all_goals first|(show ay _ _=true;kernel_rfl)|exact hs|exact⟨hc,hu,he,hn,hm,hk⟩|exact⟨hr,Uc⟩|exact⟨trivial,trivial⟩|trivial|(simp only[List.length_nil];omega)|exact rfl|done):p:=h
def agK {p:Prop}(h:p:=by
 intro O r F hO hr hF;cbv
 repeat' first|apply And.intro|(apply bC<;>intro hb<;>cbv)
 all_goals(subst hO hr hF;(try simp only[nc]at*);(try simp only[ah,SS,sa,az]at*))
 all_goals first|(show(_:List DV)=_;refine aj ?_;unfold mshB;simp[*];done)|(show(_:List DV)=_;refine aj ?_;unfold mshB;subst_vars;rw[cmp_eq];simp[*];done)|done):p:=h
def agL {p:Prop}(h:p:=by
 intro O r F hO hr hF;cbv
 repeat' first|apply And.intro|(apply bC<;>intro hb<;>cbv)
 all_goals(subst hO hr hF;(try simp only[nc]at*);(try simp only[ah,SS,sa,az]at*))
 all_goals iterate 1 (try simp(disch:=assumption) only[nH,List.cons_append,List.nil_append]at*)
 all_goals first|trivial|(rw[mU Ud])|trace_state):p:=h
def agM {p:Prop}(h:p:=by
 intro O r F hO hr hF;cbv
 repeat' first|apply And.intro|(apply bC<;>intro hb<;>cbv)
 all_goals(subst hO hr hF;(try simp only[nc]at*);(try simp only[ah,SS,sa,az]at*))
 all_goals iterate 2 (try simp(disch:=assumption) only[nH,List.cons_append,List.nil_append]at*)
 all_goals first|trivial|(rw[mU Ud])|trace_state):p:=h
def agN {p:Prop}(h:p:=by
 intro O r F hO hr hF;cbv
 repeat' first|apply And.intro|(apply bC<;>intro hb<;>cbv)
 all_goals(subst hO hr hF;(try simp only[nc]at*);(try simp only[ah,SS,sa,az]at*))
 all_goals first|(show ay _ _=true;kernel_rfl)|exact⟨hc,hu,hn,hm⟩|exact⟨he,Uc⟩|exact⟨trivial,trivial⟩|trivial|exact rfl|trace_state):p:=h
def agO {p:Prop}(h:p:=by
 intro O r F hO hr hF;cbv
 repeat' first|apply And.intro|(apply bC<;>intro hb<;>cbv)
 all_goals(subst hO hr hF;(try simp only[nc]at*);(try simp only[ah,SS,sa,az]at*))
 all_goals first
  | (show(_:List DV)=_
     first
      |exact dH (abY Ud)
      |exact dH (Tw Ud).symm
      |done)
  |omega
  |done):p:=h
def acA {p:Prop}(h:p:=by
 (subst hO hr hF;(try simp only[nc]at*);(try simp only[ah,SS,sa,az]at*))
 (try simp only[hs]at*)
 first|trivial|(rw[hn,VE Uc])|trace_state):p:=h
def agP {p:Prop}(h:p:=by
 intro O r F hO hr hF;cbv
 repeat' first|apply And.intro|(apply bC<;>intro hb<;>cbv)
 all_goals(subst hO hr hF;(try simp only[nc]at*);(try simp only[ah,SS,sa,az]at*))
 all_goals first
  | (show(_:List DV)=_
     first
      |exact dH (ad5 Ud)
      |exact dH (ad6 Ud).symm
      |done)
  |done):p:=h
def agQ {p:Prop}(h:p:=by
 intro O r F hO hr hF;cbv
 repeat' first|apply And.intro|(apply bC<;>intro hb<;>cbv)
 all_goals(subst hO hr hF;(try simp only[nc]at*);(try simp only[ah,SS,sa,az]at*))
 all_goals first
  | (show(_:List DV)=_
     first
      |exact aj (ij (by unfold eqB;simp only[SS,VD]))
      |done)
  |done):p:=h
def agR {p:Prop}(h:p:=by
 intro O r F hO hr hF;cbv
 repeat' first|apply And.intro|(apply bC<;>intro hb<;>cbv)
 all_goals(subst hO hr hF;(try simp only[nc]at*);(try simp only[ah,SS,sa,az]at*))
 all_goals first|trivial|(refine⟨trivial,Ud,?_⟩;(try simp only[aP,Nat.add_zero]);omega)|trace_state):p:=h
def agS {p:Prop}(h:p:=by
 intro O r F hO hr hF;cbv
 repeat' first|apply And.intro|(apply bC<;>intro hb<;>cbv)
 all_goals(subst hO hr hF;(try simp only[nc]at*);(try simp only[ah,SS,sa,az]at*))
 all_goals first|trivial|(refine⟨Ud,?_⟩;(try simp only[aP,Nat.add_zero]);omega)|trace_state):p:=h
def agT {p:Prop}(h:p:=by
 intro O r F hO hr hF;cbv
 repeat' first|apply And.intro|(apply bC<;>intro hb<;>cbv)
 all_goals(subst hO hr hF;(try simp only[nc]at*);(try simp only[ah,SS,sa,az]at*))
 all_goals first|exact hp|(show(_:List DV)=_;refine aj ?_;unfold jbOk;simp[*];done)|done):p:=h
def agU {p:Prop}(h:p:=by
 first|trivial|(refine⟨Ud,Uc,by first|omega|exact Int.le_trans (BP Ud) h1⟩)|(rw[mU Ud])|exact congrArg (fun x=>[DV.one (L.v (Value.int IntKind.i64 x))]) (gE (a:=[a0]) (b:=[a1]) Ud).symm|trace_state):p:=h
def agV {p:Prop}(h:p:=by
 intro O r F hO hr hF;cbv
 repeat' first|apply And.intro|(apply bC<;>intro hb<;>cbv)
 all_goals(subst hO hr hF;(try simp only[nc]at*);(try simp only[ah,SS,sa,az]at*))
 all_goals first|exact hp|exact rfl|done):p:=h
def agW {p:Prop}(h:p:=by
 intro O r F hO hr hF;cbv
 repeat' first|apply And.intro|(apply bC<;>intro hb<;>cbv)
 all_goals(subst hO hr hF;(try simp only[nc]at*);(try simp only[ah,SS,sa,az]at*))
 all_goals first|exact rfl|done):p:=h
def agX {p:Prop}(h:p:=by
 first|exact dH (acT Ud).symm|(refine dH ?_;rw[RZ Ud])|(rw[bz]at*;omega)|trace_state):p:=h
def iB {p:Prop}(h:p:=by
 refine⟨Uc,Uc,(Rw.eta (by first|assumption|exact Rw.sub (by first|assumption|exact Rw.sub Ud Uc rfl) Uc rfl) Uc Uc).trans ?_⟩;rfl):p:=h
end Go.V