/-
  A condition generator for functions on trees of data, part 5 of 5: values in memory, contracts, soundness.
-/
import Derived.Test.YtcodmgmliopheaaGreatVD
set_option linter.all false
namespace Go.V
def xv {α:Type}(pr:(Unit->Prop)->Prop)(r:Nat):Nat->List H->(List H->Rd α)->Rd α
 |_,[],k=>k []
 | j,h0::hs,k=>d8 r j fun h=>match h.c with
   | .own l=>xv pr r (j+1) hs fun cs=>k (.own l::cs)
   | .ro l=>match h0 with
     | .ro l0=>match h.org with
       |some i=>if Nat.beq i (r*1000+j)then .req (pr fun _=>l=l0) (xv pr r (j+1) hs fun cs=>k (.ro l0::cs))else .fail
       |none=>.fail
     |_=>.fail
   | .gone=>.fail
def GP {α:Type}(pr:(Unit->Prop)->Prop)(os:Nat->List H):List (Nat×List H)->Nat->Rd α->Rd α
 |[],_,k=>k
 |(r,hs)::m,i,k=>xv pr r 0 hs fun cs=>.req (pr fun _=>cs=os i) (GP pr os m (i+1) k)
def DO (T:vN)(O:xM)(ts:List TypeId)(rvs:List ResultVar)(m:List (Nat×List H))(σ:VS)(res:List DV)(os:Nat->List H):Prop:=
 (u9 T O ts rvs fun ds srcs=>if aX srcs&&srcs.all (fun s=>m.all fun q=> !(s.1.beq q.1))then .req (O.pr fun _=>ds=res) (GP O.pr os m 0 (.ret ()))else .fail).wpU (get σ) [] fun _ _=>True
def Pf (T:vN)(O:xM)(ts:List TypeId)(rvs:List ResultVar)(m:List (Nat×List H))(res:List DV)(os:Nat->List H):Ex->VS->Prop
 | .normal,σ=>DO T O ts rvs m σ res os
 | .ret,σ=>DO T O ts rvs m σ res os
 | .exit _,_=>False
section
variable {P : Program} {T : vN} {cx : Cx} {G : Gh} {g : Gm} {a : Act} {w : World}
theorem Tw (fz:List (Nat×List Nat))(hT:bC P T){Φ:Type}{F0:Φ}{ctF:Φ->CT}{mtF:Φ->MT}{ptF:Φ->PT}{ntF:Φ->NT}{otF:Φ->OT}(hct:xJ P (ctF F0))(hmt:zA P (mtF F0))(hpt:zC P (ptF F0))(hnw:A7 P (ntF F0))(hot:A8 P (otF F0))(hm:P.follows .mixedOrders=true){f:FuncId}{fn:Func}{ds res:List DV}(n:Nat)(c:Code)(ts:List TypeId)(rvs:List ResultVar) 
 (hf:P.funcs[f]?=some fn) (hb:fn.body=some c) (hnt:fn.ntmps=n) (hts:fn.resultTypes.toList=ts) (hrv:fn.results.toList=rvs) (hn:Nat.ble ds.length n=true)
 (h:∀ O r F,O=ai->r=res->F=F0->ky T O ⟨ctF F,mtF F,ptF F,ntF F,otF F⟩ n [] fz c (IB T O ts rvs r) (fQ 0 ds)):EH P f ds res:=by
 subst hnt hts hrv;replace h:=h ai res F0 rfl rfl rfl;replace hn:=Nat.le_of_ble_eq_true hn;intro w vs hargs;refine calls_of_wp hf hb ?_;refine Code.wp_mono ?_ (cv (fz:=fz) (cx:=⟨fn.ntmps,w,fun _=>True,fun _=>undef,fun _=>none,fun _=>0,fun _=>True⟩) (fun _ _=>trivial) hT (ct:=⟨ctF F0,mtF F0,ptF F0,ntF F0,otF F0⟩) ⟨hct,hmt,hpt,hnw,hot⟩ hm rfl (an:=[]) (fun r x e=>by cases e) c _ _ _ w h (Ac fn.ntmps w ds vs hargs hn));rintro e a' w' ⟨ex,σ',rfl,hq',G,hS⟩;have hq:xH T ai fn.resultTypes.toList fn.results.toList σ' res:=by
  cases ex with
  |normal=>exact hq'
  |ret=>exact hq'
  |exit i=>exact hq'.elim
 have hex:ex=.normal\/ex=.ret:=by
  cases ex with
  |normal=>exact .inl rfl
  |ret=>exact .inr rfl
  |exit i=>exact hq'.elim
 unfold xH at hq;obtain⟨ls,u,t,h1,_⟩:=Rd.wpU_runs hq;obtain⟨ds',vs',srcs,S,ls',k1,k2,k3,k4,k5⟩:=fB hS _ _ _ _ _ (gz hT (fun _ _ _ h=>h) h1);split at k5
 case isFalse=>exact k5.elim
 rename_i hd;simp only[Rd.Runs]at k5;have hres0:ds'=res:=k5.1;subst hres0;obtain⟨v,hrun,hres⟩:=kJ k1 k2;have hfresh:∀ b∈S,w.heap.size<=b/\dk w' b:=by
  intro b hb;obtain⟨u,r,j,m1,m2⟩:=k4 b hb;refine⟨?_,u⟩;rcases Nat.lt_or_ge b w.heap.size with hlt|hge
  ·rcases hS.frow b hlt trivial with e|e<;>rw[m2]at e<;>cases e
  ·exact hge
 have fin:a'.defers=[]/\∃ v,(results fn a'.tmps).run P w'=.ok v w'/\∃ v' S,Ending.returned v=.returned v'/\im w' ds' v' S/\S.Nodup/\(∀ b∈S,w.heap.size<=b/\dk w' b)/\Same (fun _=>True) w w':=
  ⟨hS.defers,_,hrun,_,S,rfl,hres,k3 hd,hfresh,hS.frame⟩
 rcases hex with rfl|rfl
 ·exact fin
 ·exact fin
theorem I0 (hT:bC P T){Φ:Type}{F0:Φ}{ctF:Φ->CT}{mtF:Φ->MT}{ptF:Φ->PT}{ntF:Φ->NT}{otF:Φ->OT}(hct:xJ P (ctF F0))(hmt:zA P (mtF F0))(hpt:zC P (ptF F0))(hnw:A7 P (ntF F0))(hot:A8 P (otF F0))(hm:P.follows .mixedOrders=true){f:FuncId}{fn:Func}{ds res:List DV}{outs:ay}(n:Nat)(c:Code)(ts:List TypeId)(rvs:List ResultVar)(locs:List (Nat×Nat)) 
 (hf:P.funcs[f]?=some fn) (hb:fn.body=some c) (hnt:fn.ntmps=n) (hts:fn.resultTypes.toList=ts) (hrv:fn.results.toList=rvs) (hn:Nat.ble ds.length n=true) (hlo:(ds.flatMap fun d=>slL (aT d)).length=outs.length) (hlo2:locs.length=outs.length)
 (h:∀ O r os F,O=ai->r=res->os=(fun i=>outs.getD i .g)->F=F0->ky T O ⟨ctF F,mtF F,ptF F,ntF F,otF F⟩ n [] [] c (Pe T O ts rvs locs r os) (CI O ds)):zz P f ds outs res:=by
 subst hnt hts hrv;replace h:=h ai res _ F0 rfl rfl rfl rfl;replace hn:=Nat.le_of_ble_eq_true hn;intro w vs S hr hnd hunf;refine calls_of_wp hf hb ?_;refine Code.wp_mono ?_ (cv (fz:=[]) (cx:=⟨fn.ntmps,w,fun b=>b∉S,fun i=>(cy ds vs).getD i undef,fun _=>none,fun _=>0,fun _=>True⟩) (fun q=>absurd rfl q) hT (ct:=⟨ctF F0,mtF F0,ptF F0,ntF F0,otF F0⟩) ⟨hct,hmt,hpt,hnw,hot⟩ hm rfl (an:=[]) (fun r x e=>by cases e) c _ _ _ w h (D5 fn.ntmps w ds vs S hr hnd hunf hn));rintro e a' w' ⟨ex,σ',rfl,hq',G,hS⟩;have hq:DN T ai fn.resultTypes.toList fn.results.toList locs σ' res (fun i=>outs.getD i .g):=by
  cases ex with
  |normal=>exact hq'
  |ret=>exact hq'
  |exit i=>exact hq'.elim
 have hex:ex=.normal\/ex=.ret:=by
  cases ex with
  |normal=>exact .inl rfl
  |ret=>exact .inr rfl
  |exit i=>exact hq'.elim
 unfold DN at hq;obtain⟨ls,u,t,h1,_⟩:=Rd.wpU_runs hq;obtain⟨ds',vs',srcs,Sr,ls',k1,k2,k3,k4,k5⟩:=fB hS _ _ _ _ _ (gz hT (fun _ _ _ h=>h) h1);split at k5
 case isFalse=>exact k5.elim
 rename_i hd;obtain⟨hres0,k5⟩:=k5;have hres0:ds'=res:=hres0;subst hres0;obtain⟨d1,d2,d3⟩:=cu hd;obtain⟨o1,o2⟩:=qa hS locs 0 _ _ k5;rw[hlo2]at o2;have houts:(List.range' 0 outs.length).map (fun i=>outs.getD i .g)=outs:=by
  apply List.ext_getElem?;intro i;rw[List.getElem?_map];by_cases c:i<outs.length
  ·rw[List.getElem?_range' c];simp[List.getD,c]
  ·rw[List.getElem?_eq_none (by simp;omega),List.getElem?_eq_none (by omega)];rfl
 rw[houts]at o2;obtain⟨f1,f2⟩:=pS hS d2 o1;have hanc:(List.range' 0 outs.length).map (fun i=>(cy ds vs).getD i undef)=cy ds vs:=by
  have hl:=jQ hr;rw[hlo]at hl;rw[<-hl];apply List.ext_getElem?;intro i;rw[List.getElem?_map];by_cases c:i<(cy ds vs).length
  ·rw[List.getElem?_range' c];simp[List.getD,c]
  ·rw[List.getElem?_eq_none (by simp;omega),List.getElem?_eq_none (by omega)];rfl
 have o2:ak w' outs (cy ds vs) (iy G locs):=by rw[<-hanc];exact o2
 obtain⟨v,hrun,hres⟩:=kJ k1 k2;have tokL:∀ b∈iy G locs,dk w' b/\∃ r j,(r,j)∈locs/\G.ow b=some (.leaf r j):=by
  intro b hb;obtain⟨p,hp,hbp⟩:=xd hb;obtain⟨h,sz,es,e1,e2⟩:=o1 p hp;have:=hS.hok (av.2 e1);simp only[cL,e2]at this;exact⟨(this.2.2 b hbp).2,p.1,p.2,hp,(this.2.2 b hbp).1⟩
 have own:∀ b r j,dk w' b->G.ow b=some (.leaf r j)->dk w' b/\(w.heap.size<=b\/b∈S):=by
  intro b r j hu ht;refine⟨hu,?_⟩;rcases Nat.lt_or_ge b w.heap.size with hlt|hge
  ·by_cases c:b∈S
   ·exact .inr c
   ·rcases hS.frow b hlt c with e|e<;>rw[ht]at e<;>cases e
  ·exact .inl hge
 have fin:a'.defers=[]/\∃ v,(results fn a'.tmps).run P w'=.ok v w'/\∃ v' Sr S',Ending.returned v=.returned v'/\im w' ds' v' Sr/\ak w' outs (cy ds vs) S'/\(Sr++S').Nodup/\(∀ b∈Sr++S',dk w' b/\(w.heap.size<=b\/b∈S))/\Same (fun b=>b∉S) w w':=by
  refine⟨hS.defers,_,hrun,_,Sr,iy G locs,rfl,hres,o2,?_,?_,hS.frame⟩
  ·refine List.nodup_append.2 ⟨k3 d1,f1,fun x hx y hy e=>?_⟩;subst e;obtain⟨_,r,j,m1,m2⟩:=k4 x hx;obtain⟨_,r',j',m3,m4⟩:=tokL x hy;rw[m2]at m4;cases m4;exact d3 _ m1 m3
  ·intro b hb;rcases List.mem_append.1 hb with q|q
   ·obtain⟨hu,r,j,_,m2⟩:=k4 b q;exact own b r j hu m2
   ·obtain⟨hu,r,j,_,m2⟩:=tokL b q;exact own b r j hu m2
 rcases hex with rfl|rfl
 ·exact fin
 ·exact fin
theorem kj {α:Type}{r:Nat}:∀ (hs:List H) (j:Nat) (k:List H->Rd α) (ls:List Loc) (out:α),(xv jd r j hs k).Runs g ls out->
 ∃ cs ls',(k cs).Runs g ls' out/\cs.length=hs.length/\∀ (i:Nat) c,cs[i]?=some c->∃ hv,g (.leaf r (j+i))=some (.h hv)/\hv.c=c/\(match c with
  | .own _=>True
  | .ro l=>hs[i]?=some (.ro l)/\hv.org=some (r*1000+(j+i))
  | .gone=>False)
 |[],j,k,ls,out,h=>⟨[],ls,h,rfl,fun i c e=>by simp at e⟩
 | h0::hs,j,k,ls,out,h=>by
   obtain⟨hv,ls2,_,q2,hk⟩:=ba (k:=fun hh=>match hh.c with
    | .own l=>xv jd r (j+1) hs fun cs=>k (.own l::cs)
    | .ro l=>match(generalizing:=false) h0 with
      | .ro l0=>match hh.org with
        |some i=>if Nat.beq i (r*1000+j)then .req (jd fun _=>l=l0) (xv jd r (j+1) hs fun cs=>k (.ro l0::cs))else .fail
        |none=>.fail
      |_=>.fail
    | .gone=>.fail) h
   cases hc:hv.c with
   |gone=>simp[hc,Rd.Runs]at hk
   | own l=>
     simp only[hc]at hk;obtain⟨cs,ls3,e1,e2,e3⟩:=kj hs (j+1) _ _ _ hk;refine⟨_,ls3,e1,by simp[e2],fun i c e=>?_⟩;cases i with
     |zero=>simp at e;subst e;exact⟨hv,q2,hc,trivial⟩
     | succ i=>
       simp at e;obtain⟨hv',k1,k2,k3⟩:=e3 i c e;refine⟨hv',by rw[show j+(i+1)=j+1+i from by omega];exact k1,k2,?_⟩;cases c with
       |own l=>trivial
       |ro l=>exact⟨by simpa using k3.1,by rw[show j+(i+1)=j+1+i from by omega];exact k3.2⟩
       |gone=>exact k3
   | ro l=>
     simp only[hc]at hk;cases h0 with
     |own l0=>exact hk.elim
     |gone=>exact hk.elim
     | ro l0=>
       simp only at hk;cases ho:hv.org with
       |none=>simp[ho,Rd.Runs]at hk
       | some i0=>
         simp only[ho]at hk;split at hk
         ·rename_i hb;have hi:=Nat.eq_of_beq_eq_true hb;obtain⟨hl,hk⟩:=hk;have hl:l=l0:=hl;subst hl hi;obtain⟨cs,ls3,e1,e2,e3⟩:=kj hs (j+1) _ _ _ hk;refine⟨_,ls3,e1,by simp[e2],fun i c e=>?_⟩;cases i with
          |zero=>simp at e;subst e;exact⟨hv,q2,hc,by simp,ho⟩
          | succ i=>
            simp at e;obtain⟨hv',k1,k2,k3⟩:=e3 i c e;refine⟨hv',by rw[show j+(i+1)=j+1+i from by omega];exact k1,k2,?_⟩;cases c with
            |own l=>trivial
            |ro l=>exact⟨by simpa using k3.1,by rw[show j+(i+1)=j+1+i from by omega];exact k3.2⟩
            |gone=>exact k3
         ·exact hk.elim
theorem pZ {α:Type}{os:Nat->List H}:∀ (m:List (Nat×List H)) (i:Nat) (k:Rd α) (ls:List Loc) (out:α),(GP jd os m i k).Runs g ls out->
 ∀ (n r:Nat) hs,m[n]?=some (r,hs)->(os (i+n)).length=hs.length/\∀ (j:Nat) c,(os (i+n))[j]?=some c->∃ hv,g (.leaf r j)=some (.h hv)/\hv.c=c/\(match c with
  | .own _=>True
  | .ro l=>hs[j]?=some (.ro l)/\hv.org=some (r*1000+j)
  | .gone=>False)
 |[],i,k,ls,out,h=>fun n r hs e=>by simp at e
 | (r0,hs0)::m,i,k,ls,out,h=>by
  obtain⟨cs,ls2,h1,h2,h3⟩:=kj _ _ _ _ _ h;obtain⟨he,h1⟩:=h1;have he:cs=os i:=he;intro n r hs e;cases n with
  | zero=>
    simp at e;obtain⟨rfl,rfl⟩:=e;rw[Nat.add_zero, <-he];refine⟨h2,fun j c hc=>?_⟩;have:=h3 j c hc
    simpa using this
  | succ n=>
    simp at e;have:=pZ m (i+1) k _ _ h1 n r hs e;rw[show i+(n+1)=i+1+n from by omega];exact this
theorem kh {w:World}{ok:Nat->Prop}:∀ {ds:List DV} {vs:List Value} {ps:List dS} {p k:Nat} {q:dS},d5 w ok ds vs ps->ps[k]?=some q->∃ r,(mpL p ds)[k]?=some (r,q.hs)
 |[],vs,ps,p,k,q,h,e=>by simp only[d5]at h;rw[h.2]at e;simp at e
 | d::ds,vs,ps,p,k,q,h,e=>by
   cases d with
   | mp hs=>
     obtain⟨p0,ps',vs',rfl,rfl,e0,h⟩:=h;cases k with
     |zero=>simp at e;subst e;exact⟨p,by simp[mpL,e0]⟩
     |succ k=>simp at e;obtain⟨r,hr⟩:=kh (p:=p+1) h e;exact⟨r,by simpa[mpL]using hr⟩
   |one l=>obtain⟨v,vs',S,rfl,_,_,h⟩:=h;exact kh (p:=p+1) h e
   |agg l=>obtain⟨v,vs',S,rfl,_,_,h⟩:=h;exact kh (p:=p+1) h e
   |ptr l=>obtain⟨v,vs',S,rfl,_,_,h⟩:=h;exact kh (p:=p+1) h e
   |fn f l=>obtain⟨v,vs',S,rfl,_,_,h⟩:=h;exact kh (p:=p+1) h e
open Classical in
theorem Q4 (al:Bool)(hT:bC P T){Φ:Type}{F0:Φ}{ctF:Φ->CT}{mtF:Φ->MT}{ptF:Φ->PT}{ntF:Φ->NT}{otF:Φ->OT}(hct:xJ P (ctF F0))(hmt:zA P (mtF F0))(hpt:zC P (ptF F0))(hnw:A7 P (ntF F0))(hot:A8 P (otF F0))(hm:P.follows .mixedOrders=true){f:FuncId}{fn:Func}{ds res:List DV}{outs:List (List H)}(n:Nat)(c:Code)(ts:List TypeId)(rvs:List ResultVar) 
 (hf:P.funcs[f]?=some fn) (hb:fn.body=some c) (hnt:fn.ntmps=n) (hts:fn.resultTypes.toList=ts) (hrv:fn.results.toList=rvs) (hn:Nat.ble ds.length n=true) (hlo:(mpL 0 ds).length=outs.length) (hl0:(mpL 0 ds).all (fun q=>q.2.length.ble 999)=true) (hl1:al=true->(mpL 0 ds).all (fun q=>q.1.ble 999)=true)
 (h:∀ O r os F,O=ai->r=res->os=(fun i=>outs.getD i [])->F=F0->ky T O ⟨ctF F,mtF F,ptF F,ntF F,otF F⟩ n ((mpL 0 ds).map (·.1)) [] c (Pf T O ts rvs (mpL 0 ds) r os) (dJ al 0 ds)):zB P f ds outs res:=by
 subst hnt hts hrv;replace h:=h ai res _ F0 rfl rfl rfl rfl;replace hn:=Nat.le_of_ble_eq_true hn;intro w vs ps hpre;have ix:=fun {r q}=>lO (p:=0) (r:=r) (q:=q) hpre.args
 have hlt:∀ {r q},eB 0 ds ps r=some q->q.hs.length<=999:=by
  intro r q e;obtain⟨k,e1,_⟩:=ix.1 e;have:=List.all_eq_true.1 hl0 _ (List.mem_of_getElem? e1);exact Nat.le_of_ble_eq_true this
 let anc:Nat->Value:=fun i=>((eB 0 ds ps ((match al with|true=>i%1000000000|false=>i)/1000)).map fun q=>q.val (i%1000)).getD undef
 have hlr:∀ {r q},al=true->eB 0 ds ps r=some q->r<=999:=by
  intro r q ha e;obtain⟨k,e1,_⟩:=ix.1 e;have:=List.all_eq_true.1 (hl1 ha) _ (List.mem_of_getElem? e1);exact Nat.le_of_ble_eq_true this
 have hanc:∀ r q j l,eB 0 ds ps r=some q->q.hs[j]?=some (.ro l)->anc (r*1000+j)=q.val j:=by
  intro r q j l e e1;have h1:=(List.getElem?_eq_some_iff.1 e1).1;have h2:=hlt e;have h3:(r*1000+j)/1000=r:=by omega
  have h4:(r*1000+j)%1000=j:=by omega
  cases al with
  |false=>simp only[anc,h3,h4,e,Option.map_some,Option.getD_some]
  | true=>
    have h5:=hlr rfl e;have h6:(r*1000+j)%1000000000=r*1000+j:=by omega
    simp only[anc,h6,h3,h4,e,Option.map_some,Option.getD_some]
 have hanc2:∀ r q j l,al=true->eB 0 ds ps r=some q->q.hs[j]?=some (.own l)->anc (1000000000+(r*1000+j))=q.val j:=by
  intro r q j l ha e e1;have h1:=(List.getElem?_eq_some_iff.1 e1).1;have h2:=hlt e;have h5:=hlr ha e;subst ha;have h3:(1000000000+(r*1000+j))%1000000000/1000=r:=by omega
  have h4:(1000000000+(r*1000+j))%1000=j:=by omega
  simp only[anc,h3,h4,e,Option.map_some,Option.getD_some]
 refine calls_of_wp hf hb ?_;have hini:=D6 (al:=al) fn.ntmps w ds vs ps hpre hn anc hanc hanc2;refine Code.wp_mono ?_ (cv (fz:=[]) (cx:=⟨fn.ntmps,w,fun b=>¬ gX ps b/\¬ kT ps b,anc,fun r=>(eB 0 ds ps r).map fun(q:dS)=>(q.b,q.off),fun r=>((eB 0 ds ps r).map fun(q:dS)=>q.hs.length).getD 0,fun _=>True⟩) (fun q=>absurd rfl q) hT (ct:=⟨ctF F0,mtF F0,ptF F0,ntF F0,otF F0⟩) ⟨hct,hmt,hpt,hnw,hot⟩ hm rfl (an:=(mpL 0 ds).map (·.1)) (fun r x e=>by
  cases e0:eB 0 ds ps r with
  |none=>simp[e0]at e
  |some q=>obtain⟨k,e1,_⟩:=ix.1 e0;exact List.mem_map.2 ⟨_,List.mem_of_getElem? e1,rfl⟩) c _ _ _ w h hini)
 rintro e a' w' ⟨ex,σ',rfl,hq',G,hS⟩;have hq:DO T ai fn.resultTypes.toList fn.results.toList (mpL 0 ds) σ' res (fun i=>outs.getD i []):=by
  cases ex with
  |normal=>exact hq'
  |ret=>exact hq'
  |exit i=>exact hq'.elim
 have hex:ex=.normal\/ex=.ret:=by
  cases ex with
  |normal=>exact .inl rfl
  |ret=>exact .inr rfl
  |exit i=>exact hq'.elim
 unfold DO at hq;obtain⟨ls,u,t,h1,_⟩:=Rd.wpU_runs hq;obtain⟨ds',vs',srcs,Sr,ls',k1,k2,k3,k4,k5⟩:=fB hS _ _ _ _ _ (gz hT (fun _ _ _ h=>h) h1);split at k5
 case isFalse=>exact k5.elim
 rename_i hd;simp only[Bool.and_eq_true]at hd;obtain⟨IJ,hd2⟩:=hd;obtain⟨hres0,k5⟩:=k5;have hres0:ds'=res:=hres0;subst hres0;have o1:=pZ _ _ _ _ _ k5;obtain⟨v,hrun,hres⟩:=kJ k1 k2;have plen:ps.length=outs.length:=by
  rw[<-hlo];have key:∀ {ds:List DV} {vs:List Value} {ps:List dS} {p:Nat} {ok:Nat->Prop},d5 w ok ds vs ps->ps.length=(mpL p ds).length:=by
   intro ds
   induction ds with
   |nil=>intro vs ps p ok h;simp only[d5]at h;simp[h.2,mpL]
   | cons d ds ih=>
     intro vs ps p ok h;cases d with
     |mp hs=>obtain⟨p0,ps',vs',rfl,rfl,_,h⟩:=h;simp[mpL,ih (p:=p+1) h]
     |one l=>obtain⟨v,vs',S,rfl,_,_,h⟩:=h;exact ih (p:=p+1) h
     |agg l=>obtain⟨v,vs',S,rfl,_,_,h⟩:=h;exact ih (p:=p+1) h
     |ptr l=>obtain⟨v,vs',S,rfl,_,_,h⟩:=h;exact ih (p:=p+1) h
     |fn f l=>obtain⟨v,vs',S,rfl,_,_,h⟩:=h;exact ih (p:=p+1) h
  exact key hpre.args
 let pst:Nat->dS:=fun k=>
  { b:=(ps.getD k ⟨0,0,[],fun _=>undef,fun _=>[]⟩).b,off:=(ps.getD k ⟨0,0,[],fun _=>undef,fun _=>[]⟩).off,hs:=outs.getD k [],
    val:=fun j=>G.val ((mpL 0 ds).getD k (0,[])).1 j,
    fp:=fun j=>match(outs.getD k [])[j]? with
     |some (.own _)=>G.fp ((mpL 0 ds).getD k (0,[])).1 j
     |_=>(ps.getD k ⟨0,0,[],fun _=>undef,fun _=>[]⟩).fp j}
 have info:∀ (k:Nat) q',((List.range ps.length).map pst)[k]?=some q'->∃ q r,ps[k]?=some q/\(mpL 0 ds)[k]?=some (r,q.hs)/\eB 0 ds ps r=some q/\q'=pst k/\q'.b=q.b/\q'.off=q.off/\outs[k]?=some q'.hs/\q'.hs.length=q.hs.length/\(∀ j,q'.val j=G.val r j)/\(∀ j l,q'.hs[j]?=some (.own l)->q'.fp j=G.fp r j)/\
  ∀ (j:Nat) c,q'.hs[j]?=some c->∃ hv,get σ' (.leaf r j)=some (.h hv)/\hv.c=c/\(match c with
   | .own _=>True
   | .ro l=>q.hs[j]?=some (.ro l)/\hv.org=some (r*1000+j)
   | .gone=>False):=by
  intro k q' e;rw[List.getElem?_map,Option.map_eq_some_iff]at e;obtain⟨k',e1,rfl⟩:=e;obtain⟨hk,rfl⟩:=List.getElem?_eq_some_iff.1 e1;simp only[List.length_range]at hk;simp only[List.getElem_range];have hq:ps[k]?=some ps[k]:=List.getElem?_eq_getElem hk;obtain⟨r,hr⟩:=kh (p:=0) hpre.args hq;have hpa:eB 0 ds ps r=some ps[k]:=ix.2 ⟨k,hr,hq⟩;have hout:outs[k]?=some outs[k]:=List.getElem?_eq_getElem (by omega);have g1:ps.getD k ⟨0,0,[],fun _=>undef,fun _=>[]⟩=ps[k]:=by simp[List.getD,hq]
  have g2:outs.getD k []=outs[k]:=by simp[List.getD,hout]
  have g3:(mpL 0 ds).getD k (0,[])=(r,ps[k].hs):=by simp[List.getD,hr]
  obtain⟨m1,m2⟩:=o1 k r _ hr;rw[Nat.zero_add]at m1 m2;refine⟨ps[k],r,hq,hr,hpa,trivial,by simp only[pst,g1],by simp only[pst,g1],by simp only[pst,g2];exact hout,by simp only[pst];exact m1,fun j=>by simp only[pst,g3],fun j l e=>?_,fun j c e=>?_⟩
  ·simp only[pst]at e ⊢;rw[e];simp only[g3]
  ·exact m2 j c e
 have meta_:∀ {r q},eB 0 ds ps r=some q->G.loc r=some (q.b,q.off)/\get σ' (.meta_ r)=some (.m q.hs.length true):=by
  intro r q e;have:=hS.aloc r (q.b,q.off) (by simp[e])
  simpa[e]using this
 have mem:∀ q'∈(List.range ps.length).map pst,∃ k:Nat,((List.range ps.length).map pst)[k]?=some q':=fun q' hq=>by
  obtain⟨k,hk⟩:=List.getElem?_of_mem hq;exact⟨k,hk⟩
 have ownTok:∀ b,gX ((List.range ps.length).map pst) b->∃ r j q,eB 0 ds ps r=some q/\G.ow b=some (.leaf r j)/\dk w' b:=by
  rintro b ⟨q',hq,j,l,e1,e2⟩;obtain⟨k,hk⟩:=mem q' hq;obtain⟨q,r,i1,i2,i3,i4,i5,i6,i7,i8,i9,i10,i11⟩:=info k q' hk;obtain⟨hv,m1,m2,_⟩:=i11 j _ e1;rw[i10 j l e1]at e2;have:=hS.hok (av.2 m1);simp only[cL,m2]at this;exact⟨r,j,q,i3,this.2.2 b e2⟩
 have ptrTok:∀ b,kT ps b->∃ k,G.ow b=some (.box k):=by
  rintro b ⟨q,hq,rfl⟩;obtain⟨k,hk⟩:=List.getElem?_of_mem hq;obtain⟨r,hr⟩:=kh (p:=0) hpre.args hk;obtain⟨f1,f2⟩:=meta_ (ix.2 ⟨k,hr,hk⟩);obtain⟨b',off',cur,ty,z1,z2,_⟩:=hS.boxes r _ f2;rw[f1]at z1;cases z1;exact⟨_,z2⟩
 have own:∀ b r j,dk w' b->G.ow b=some (.leaf r j)->dk w' b/\(w.heap.size<=b\/gX ps b):=by
  intro b r j hu ht;refine⟨hu,?_⟩;rcases Nat.lt_or_ge b w.heap.size with hlt|hge
  ·by_cases c1:gX ps b
   ·exact .inr c1
   ·by_cases c2:kT ps b
    ·obtain⟨k,hk⟩:=ptrTok b c2;rw[hk]at ht;cases ht
    ·rcases hS.frow b hlt ⟨c1,c2⟩with e|e<;>rw[ht]at e<;>cases e
  ·exact .inl hge
 have post:EJ w ps outs w' ((List.range ps.length).map pst) Sr:=by
  refine⟨by simp,?_,?_,?_,?_,?_,?_,⟨k3 IJ,?_⟩,?_,hS.frame,?_⟩
  ·intro k p p' hp hp';obtain⟨q,r,i1,i2,i3,i4,i5,i6,i7,i8,_⟩:=info k p' hp';rw[hp]at i1;cases i1;exact⟨i5,i6,i7,i8⟩
  ·intro q' hq;obtain⟨k,hk⟩:=mem q' hq;obtain⟨q,r,i1,i2,i3,i4,i5,i6,i7,i8,i9,_⟩:=info k q' hk;obtain⟨f1,f2⟩:=meta_ i3;obtain⟨b',off',cur,ty,z1,z2,z3,z4,z5⟩:=hS.boxes r _ f2;rw[f1]at z1;cases z1;exact⟨cur,ty,by rw[i5];exact z3,fun j hj=>by rw[i6,i9];exact z5 j (by omega)⟩
  ·intro q' hq j l e;obtain⟨k,hk⟩:=mem q' hq;obtain⟨q,r,i1,i2,i3,i4,i5,i6,i7,i8,i9,i10,i11⟩:=info k q' hk;obtain⟨hv,m1,m2,_⟩:=i11 j _ e;have:=hS.hok (av.2 m1);simp only[cL,m2]at this;rw[i9,i10 j l e];exact⟨this.1,this.2.1⟩
  ·intro k p p' j l hp hp' e;obtain⟨q,r,i1,i2,i3,i4,i5,i6,i7,i8,i9,i10,i11⟩:=info k p' hp';rw[hp]at i1;cases i1;obtain⟨hv,m1,m2,m3,m4⟩:=i11 j _ e;refine⟨m3,?_⟩;rw[i9,hS.anc r j hv (av.2 m1) _ m4];exact hanc r p j l i3 m3
  ·intro q' hq j e;obtain⟨k,hk⟩:=mem q' hq;obtain⟨q,r,i1,i2,i3,i4,i5,i6,i7,i8,i9,i10,i11⟩:=info k q' hk;obtain⟨hv,m1,m2,m3⟩:=i11 j _ e;exact m3
  ·intro k j k' j' p p' l l' hp hp' e e' hne b hb hb';obtain⟨q,r,i1,i2,i3,i4,i5,i6,i7,i8,i9,i10,i11⟩:=info k p hp;obtain⟨q2,r2,i1',i2',i3',i4',i5',i6',i7',i8',i9',i10',i11'⟩:=info k' p' hp';obtain⟨hv,m1,m2,_⟩:=i11 j _ e;obtain⟨hv',m1',m2',_⟩:=i11' j' _ e';rw[i10 j l e]at hb;rw[i10' j' l' e']at hb';have t1:=hS.hok (av.2 m1);simp only[cL,m2]at t1;have t2:=hS.hok (av.2 m1');simp only[cL,m2']at t2;have u1:=(t1.2.2 b hb).1;have u2:=(t2.2.2 b hb').1;rw[u1]at u2;cases u2;have hkk:k=k':=by
    rw[i3]at i3';cases i3';by_cases c:k=k'
    ·exact c
    ·have:=hpre.sep k k' q q c i1 i1' rfl;have:=(List.getElem?_eq_some_iff.1 e).1;omega
   subst hkk;exact hne rfl
  ·intro b hb ho;obtain⟨r,j,q,e1,e2,_⟩:=ownTok b ho;obtain⟨_,r',j',m1,m2⟩:=k4 b hb;rw[m2]at e2;cases e2;obtain⟨k,e3,_⟩:=ix.1 e1;have:=List.all_eq_true.1 (List.all_eq_true.1 hd2 _ m1) _ (List.mem_of_getElem? e3);simp at this
  ·intro b hb;rcases hb with hb|hb
   ·obtain⟨hu,r,j,_,m2⟩:=k4 b hb;exact own b r j hu m2
   ·obtain⟨r,j,q,_,m2,hu⟩:=ownTok b hb;exact own b r j hu m2
  ·rintro b ⟨q,hq,rfl⟩;obtain⟨k,hk⟩:=List.getElem?_of_mem hq;obtain⟨r,hr⟩:=kh (p:=0) hpre.args hk;have hpa:=ix.2 ⟨k,hr,hk⟩;obtain⟨c0,c1,ty,z1,z2,z3,z4⟩:=hS.afr r q.b q.off (by simp[hpa]);refine⟨c0,c1,ty,z1,z2,z3,fun i hi=>z4 i (fun r' off' e=>?_)⟩;cases e0:eB 0 ds ps r' with
   |none=>simp[e0]at e
   | some q2=>
     simp[e0]at e ⊢;obtain⟨e1,rfl⟩:=e;obtain⟨k2,_,hk2⟩:=ix.1 e0;exact hi q2 (List.mem_of_getElem? hk2) e1
 have fin:a'.defers=[]/\∃ v,(results fn a'.tmps).run P w'=.ok v w'/\∃ v' Sr ps',Ending.returned v=.returned v'/\im w' ds' v' Sr/\EJ w ps outs w' ps' Sr:=
  ⟨hS.defers,_,hrun,_,Sr,_,rfl,hres,post⟩
 rcases hex with rfl|rfl
 ·exact fin
 ·exact fin
end
end Go.V
namespace Go.V
theorem SS :(∀ a b:Int,(cr .eql a b=true)↔a=b)/\(∀ a b:Int,(cr .eql a b=false)↔a≠b)/\(∀ a b:Int,(cr .neq a b=true)↔a≠b)/\(∀ a b:Int,(cr .neq a b=false)↔a=b)/\
 (∀ a b:Int,(cr .lss a b=true)↔a<b)/\(∀ a b:Int,(cr .lss a b=false)↔b<=a)/\(∀ a b:Int,(cr .leq a b=true)↔a<=b)/\(∀ a b:Int,(cr .leq a b=false)↔b<a)/\
 (∀ a b:Int,(cr .gtr a b=true)↔b<a)/\(∀ a b:Int,(cr .gtr a b=false)↔a<=b)/\(∀ a b:Int,(cr .geq a b=true)↔b<=a)/\(∀ a b:Int,(cr .geq a b=false)↔a<b)/\
 (∀ b,(LW b=true)↔b=false)/\(∀ b,(LW b=false)↔b=true)/\(∀ a b,NL true a b=a)/\(∀ a b,NL false a b=b)/\
 (∀ a b,(DU .eql a b=true)↔a=b)/\(∀ a b,(DU .eql a b=false)↔a≠b)/\(∀ a b,(DU .neq a b=true)↔a≠b)/\(∀ a b,(DU .neq a b=false)↔a=b)/\
 (∀ n,Lt n=(n:Int))/\(∀ es,VP es=es.length)/\(∀ f,V1 f=f ())/\(∀ n:Nat,Int.ofNat n=(n:Int))/\(∀ a b,OM a b=a++b)/\(∀ i,VR i=i.toNat):=
 ⟨fun _ _=>Ig,fun _ _=>Ie,fun _ _=>Is,fun _ _=>Ir,fun _ _=>Iq,fun _ _=>Io,fun _ _=>Im,fun _ _=>Il,fun _ _=>Ik,fun _ _=>Ij,fun _ _=>Ii,fun _ _=>Ih,
   fun _=>TM,fun _=>TL,fun _ _=>rfl,fun _ _=>rfl,fun _ _=>EY,fun _ _=>EX,fun _ _=>E0,fun _ _=>EZ,fun _=>rfl,fun _=>rfl,fun _=>rfl,fun _=>rfl,fun _ _=>rfl,fun _=>rfl⟩
end Go.V
namespace Go.V
theorem Xo (n:Nat):Int.ofNat n=(n:Int):=rfl
structure TB (P:Program) where
 Φ:Type
 F0:Φ
 ct:Φ->CT:=VT
 mt:Φ->MT:=QP
 pt:Φ->PT:=QS
 nt:Φ->NT:=QQ
 ot:Φ->OT:=QR
 hc:xJ P (ct F0):=by exact Nk
 hm:zA P (mt F0):=by exact I4
 hp:zC P (pt F0):=by exact I7
 hn:A7 P (nt F0):=by exact I5
 ho:A8 P (ot F0):=by exact I6
abbrev tb {P:Program}{Φ:Type}{F0:Φ}{ct:Φ->CT}(hc:xJ P (ct F0)):TB P:={Φ:=Φ,F0:=F0,ct:=ct,hc:=hc}
end Go.V
namespace Go.V
mutual
def dz :L->Nat
 | .s _ es=>es.length+bz es
 |_=>0
def cz :ay->Nat
 |[]=>0
 |l::ls=>dz l+cz ls
def bz :aa->Nat
 |[]=>0
 |e::es=>cz e+bz es
end
def ag (es:aa):Nat:=es.length+bz es
def aw :List aa->Nat
 |[]=>0
 |r::rs=>ag r+aw rs
def bJ (rs:List aa)(left:Int):Int:=if left<aw rs then-1 else left-aw rs
mutual
def eA :L->Int->L×Int
 | .v (.int kd _),k=>(.v (.int kd k),k+1)
 | .v (.bool _),k=>(.v (.bool (k.tmod 3==0)),k+1)
 | .s sz es,k=>(.s sz (cA es k).1,(cA es k).2)
 |l,k=>(l,k)
def d6 :ay->Int->ay×Int
 |[],k=>([],k)
 |l::ls,k=>((eA l k).1::(d6 ls (eA l k).2).1,(d6 ls (eA l k).2).2)
def cA :aa->Int->aa×Int
 |[],k=>([],k)
 |e::es,k=>((d6 e k).1::(cA es (d6 e k).2).1,(cA es (d6 e k).2).2)
end
def ao (es:aa)(k:Int):aa:=(cA es k).1
def am :List aa->Int->Int
 |[],k=>k
 |r::rs,k=>am rs (cA r k).2
theorem dp :∀ {a b:aa},bz (a++b)=bz a+bz b
 |[],b=>by simp[bz]
 |e::a,b=>by simp[bz,dp (a:=a),Nat.add_assoc]
theorem iM :∀ {a b:List aa},aw (a++b)=aw a+aw b
 |[],b=>by simp[aw]
 |e::a,b=>by simp[aw,iM (a:=a),Nat.add_assoc]
theorem cP {r:aa}:aw [r]=ag r:=by simp[aw]
theorem Cv :∀ {ls:ay} {j:Nat} {l:L},ls[j]?=some l->dz l<=cz ls
 |[],j,l,h=>by simp at h
 |x::ls,0,l,h=>by simp at h;subst h;simp[cz]
 |x::ls,j+1,l,h=>by simp at h;have:=Cv h;simp[cz];omega
theorem gV {a:List aa}{left:Int}:bJ a left<0↔left<aw a:=by
 unfold bJ;split<;>omega
theorem nT {a:List aa}{left:Int}(h:0<=bJ a left):bJ a left=left-aw a:=by
 unfold bJ at*;split at h
 ·omega
 ·rename_i c;rw[if_neg c]
theorem gU {a b:List aa}{left:Int}(h:0<=bJ a left):bJ b (bJ a left)=bJ (a++b) left:=by
 rw[nT h];unfold bJ;rw[iM];split<;>split<;>omega
theorem dQ {a b:List aa}{left:Int}(h:bJ a left<0):bJ (a++b) left= -1:=by
 rw[gV]at h;unfold bJ;rw[iM,if_pos (by omega)]
theorem gC {a:List aa}{left:Int}(h:bJ a left<0):bJ a left= -1:=by
 rw[gV]at h;unfold bJ;rw[if_pos (by omega)]
theorem vm {a:List aa}{left:Int}(h:0<=bJ a left):bJ a left<=left:=by rw[nT h];omega
theorem gP :∀ {a b:aa} {k:Int},cA (a++b) k=((cA a k).1++(cA b (cA a k).2).1,(cA b (cA a k).2).2)
 |[],b,k=>by simp[cA]
 |e::a,b,k=>by simp[cA,gP (a:=a)]
theorem fb :∀ {a b:List aa} {k:Int},am b (am a k)=am (a++b) k
 |[],b,k=>rfl
 |r::a,b,k=>by simp only[am,List.cons_append];exact fb
theorem eo :∀ {es:aa} {k:Int},(cA es k).1.length=es.length
 |[],k=>rfl
 |e::es,k=>by simp[cA,eo (es:=es)]
theorem b9 {es:aa}{k:Int}:(ao es k).length=es.length:=eo
def dM (es:aa)(k:Int)(n:Nat):aa:=(cA (es.take n) k).1++es.drop n
def du (es:aa)(k:Int)(n:Nat):Int:=(cA (es.take n) k).2
theorem cR {es:aa}{k:Int}:dM es k 0=es:=by simp[dM,cA]
theorem bG {es:aa}{k:Int}:du es k 0=k:=by simp[du,cA]
theorem uK {es:aa}{k:Int}:dM es k es.length=ao es k:=by simp[dM,ao]
theorem kD {es:aa}{k:Int}:du es k es.length=am [es] k:=by simp[du,am]
theorem kg {es:aa}{k:Int}{n:Nat}(hn:n<=es.length):(dM es k n).length=es.length:=by simp[dM,eo];omega
theorem cQ {es:aa}{k:Int}{n:Nat}(hn:n<=es.length):(dM es k n).getD n []=es.getD n []:=by
 unfold dM;simp only[List.getD_eq_getElem?_getD];have hl:(cA (es.take n) k).1.length=n:=by rw[eo,List.length_take];omega
 rw[List.getElem?_append_right (by omega),hl];simp
theorem uL {es:aa}{k:Int}{n:Nat}(hn:n<es.length):(dM es k n).set n (d6 (es.getD n []) (du es k n)).1=dM es k (n+1):=by
 unfold dM du;have hl:(cA (es.take n) k).1.length=n:=by rw[eo,List.length_take];omega
 rw[List.set_append_right _ _ (by omega),hl,di (d:=[]) hn,gP];simp only[Nat.sub_self];rw[List.drop_eq_getElem_cons hn,List.set_cons_zero];simp[cA]
theorem cF {es:aa}{k:Int}{n:Nat}(hn:n<es.length):du es k (n+1)=(d6 (es.getD n []) (du es k n)).2:=by
 unfold du;rw[di (d:=[]) hn,gP];simp[cA]
theorem fN {es:aa}{k:Int}{n:Nat}(hn:n<es.length):(ao es k).getD n []=(d6 (es.getD n []) (du es k n)).1:=by
 have h1:es=es.take n++(es.getD n []::es.drop (n+1)):=by
  conv=>lhs;rw[<-List.take_append_drop n es,List.drop_eq_getElem_cons hn]
  simp[List.getD,hn]
 unfold ao du
 conv=>lhs;rw[h1]
 rw[gP];simp only[List.getD_eq_getElem?_getD];have hl:(cA (es.take n) k).1.length=n:=by rw[eo,List.length_take];omega
 rw[List.getElem?_append_right (by omega),hl];simp[cA]
mutual
theorem Qw :∀ (l:L) (k:Int),(eA l k).2=k+(eA l 0).2
 | .v x,k=>by cases x<;>simp[eA]
 | .s sz es,k=>by simp only[eA];exact iW es k
 | .g,k=>by simp[eA]
 | .m _ _,k=>by simp[eA]
theorem xq :∀ (ls:ay) (k:Int),(d6 ls k).2=k+(d6 ls 0).2
 |[],k=>by simp[d6]
 | l::ls,k=>by
   simp only[d6];rw[xq ls (eA l k).2,Qw l k,xq ls (eA l 0).2];omega
theorem iW :∀ (es:aa) (k:Int),(cA es k).2=k+(cA es 0).2
 |[],k=>by simp[cA]
 | e::es,k=>by
   simp only[cA];rw[iW es (d6 e k).2,xq e k,iW es (d6 e 0).2];omega
end
mutual
theorem Nf :∀ (l:L) (k k':Int),(eA (eA l k).1 k').2=(eA l k').2
 | .v x,k,k'=>by cases x<;>simp[eA]
 | .s sz es,k,k'=>by simp only[eA];exact dd es k k'
 | .g,k,k'=>by simp[eA]
 | .m _ _,k,k'=>by simp[eA]
theorem Gt :∀ (ls:ay) (k k':Int),(d6 (d6 ls k).1 k').2=(d6 ls k').2
 |[],k,k'=>rfl
 |l::ls,k,k'=>by simp only[d6];rw[Gt ls _ _,Nf l k k']
theorem dd :∀ (es:aa) (k k':Int),(cA (cA es k).1 k').2=(cA es k').2
 |[],k,k'=>rfl
 |e::es,k,k'=>by simp only[cA];rw[dd es _ _,Gt e k k']
end
theorem jE {es:aa}{k k':Int}:am [ao es k] k'=am [es] k':=dd es k k'
theorem eT {es:aa}{k:Int}{n:Nat}:du es k n=k+du es 0 n:=iW _ _
theorem D7 :∀ {rs:List aa} {k:Int},am rs k=k+am rs 0
 |[],k=>by simp[am]
 |r::rs,k=>by simp only[am];rw[D7 (k:=(cA r k).2),iW r k,D7 (k:=(cA r 0).2)];omega
mutual
theorem Qv :∀ (l:L),0<=(eA l 0).2
 | .v x=>by cases x<;>simp[eA]
 | .s sz es=>by simp only[eA];exact BA es
 | .g=>by simp[eA]
 | .m _ _=>by simp[eA]
theorem Gs :∀ (ls:ay),0<=(d6 ls 0).2
 |[]=>by simp[d6]
 |l::ls=>by simp only[d6];rw[xq];have:=Qv l;have:=Gs ls;omega
theorem BA :∀ (es:aa),0<=(cA es 0).2
 |[]=>by simp[cA]
 |e::es=>by simp only[cA];rw[iW];have:=Gs e;have:=BA es;omega
end
theorem IR :∀ {rs:List aa},0<=am rs 0
 |[]=>by simp[am]
 |r::rs=>by simp only[am];rw[D7];have:=BA r;have:=IR (rs:=rs);omega
theorem gu {es:aa}{n:Nat}(hn:n<es.length):du es 0 n<=du es 0 (n+1):=by
 rw[cF hn,xq];have:=Gs (es.getD n []);omega
theorem dr {es:aa}:∀ {m n:Nat},n<=es.length->m<=n->du es 0 m<=du es 0 n
 |m,0,_,h=>by rw[show m=0 from by omega];exact Int.le_refl _
 | m,n+1,hn,h=>by
   rcases Nat.lt_or_ge m (n+1)with c|c
   ·have:=dr (es:=es) (m:=m) (n:=n) (by omega) (by omega);have:=gu (es:=es) (n:=n) (by omega);omega
   ·rw[show m=n+1 from by omega];exact Int.le_refl _
def wid :Ty->Nat
 | .sl _=>0
 |_=>1
end Go.V
namespace Go.V
abbrev Rw (fs:List Ty)(es:aa):Prop:=es.length<=maxLen/\∀ e∈es,bM fs e
abbrev tI :Ty:=.int .i64
abbrev tB :Ty:=.bool
mutual
def zL :Ty->L
 | .int k=>.v (.int k 0)
 | .bool=>.v (.bool false)
 | .str=>.v (.string .empty)
 | .sl fs=>.s fs.length []
def zR :List Ty->ay
 |[]=>[]
 |t::ts=>zL t::zR ts
end
theorem zN :∀ {fs:List Ty} {e:ay},bM fs e->fy (zR fs) e=true
 |[],[],_=>rfl
 |[],_::_,h=>h.elim
 |_::_,[],h=>h.elim
 | t::ts,l::ls,h=>by
   obtain⟨h1,h2⟩:=h;simp only[zR,fy,Bool.and_eq_true];refine⟨?_,zN h2⟩;cases t with
   | int k=>cases l with
     | v x=>cases x with
       |int k' n=>simp only[cn]at h1;simp[zL,iw,h1.1]
       |_=>simp[cn]at h1
     |_=>simp[cn]at h1
   | bool=>cases l with
     | v x=>cases x with
       |bool b=>rfl
       |_=>simp[cn]at h1
     |_=>simp[cn]at h1
   | str=>cases l with
     | v x=>cases x with
       |string b=>rfl
       |_=>simp[cn]at h1
     |_=>simp[cn]at h1
   | sl fs=>cases l with
     |s sz es=>simp only[cn]at h1;simp[zL,iw,h1.1]
     |_=>simp[cn]at h1
theorem Rw.wf {fs:List Ty}{es:aa}(h:Rw fs es):Wf (zR fs) es:=fun e he=>zN (h.2 e he)
theorem Rw.at {fs:List Ty}{es:aa}(h:Rw fs es){n:Nat}(hn:n<es.length):bM fs (es.getD n []):=by
 refine h.2 _ ?_;rw[List.getD_eq_getElem?_getD,List.getElem?_eq_getElem hn];exact List.getElem_mem _
theorem Rw.eta {fs:List Ty}{es:aa}(h:Rw fs es){i:Int}(h0:0<=i)(h1:i<es.length):es.getD i.toNat []=gH ai es i 0 (zR fs):=(au h.wf h0 h1).symm
theorem wP :∀ {fs:List Ty} {e:ay} {j:Nat} {gs:List Ty},bM fs e->fs[j]?=some (.sl gs)->∃ es',e[j]?=some (.s gs.length es')/\Rw gs es'
 |[],_,j,gs,_,h=>by simp at h
 |_::_,[],j,gs,h,_=>h.elim
 | t::ts,l::ls,0,gs,h,e=>by
   simp at e;subst e;have h1:=h.1;cases l with
   |s sz es=>simp only[cn]at h1;exact⟨es,by simp[h1.1],h1.2⟩
   |_=>simp[cn]at h1
 | t::ts,l::ls,j+1,gs,h,e=>by
   simp at e;obtain⟨es',h1,h2⟩:=wP h.2 e;exact⟨es',by simpa using h1,h2⟩
theorem Rw.sub {fs:List Ty}{es:aa}(h:Rw fs es){i:Int}(hn:i.toNat<es.length){j:Nat}{gs:List Ty}(hj:fs[j]?=some (.sl gs)):Rw gs (ax es i j):=by
 obtain⟨es',h1,h2⟩:=wP (h.at hn) hj;unfold ax;rw[List.getD_eq_getElem?_getD (l:=es.getD i.toNat []),h1];exact h2
theorem Rw.nil {fs:List Ty}:Rw fs []:=⟨Nat.zero_le _,by simp⟩
theorem Rw.take {fs:List Ty}{es:aa}(h:Rw fs es)(n:Nat):Rw fs (es.take n):=⟨by rw[List.length_take];exact Nat.le_trans (Nat.min_le_right _ _) h.1,fun e he=>h.2 e (List.mem_of_mem_take he)⟩
theorem Rw.drop {fs:List Ty}{es:aa}(h:Rw fs es)(n:Nat):Rw fs (es.drop n):=⟨by rw[List.length_drop];exact Nat.le_trans (Nat.sub_le _ _) h.1,fun e he=>h.2 e (List.mem_of_mem_drop he)⟩
theorem Rw.append {fs:List Ty}{a b:aa}(ha:Rw fs a)(hb:Rw fs b)(hl:a.length+b.length<=maxLen):Rw fs (a++b):=⟨by simpa using hl,fun e he=>by rcases List.mem_append.1 he with q|q;exact ha.2 e q;exact hb.2 e q⟩
theorem Rw.one {fs:List Ty}{e:ay}(h:bM fs e):Rw fs [e]:=⟨by simp[maxLen],by simpa using h⟩
theorem Rw.set {fs:List Ty}{es:aa}(h:Rw fs es){e:ay}(he:bM fs e)(n:Nat):Rw fs (es.set n e):=⟨by simpa using h.1,fun x hx=>by rcases List.mem_or_eq_of_mem_set hx with q|q;exact h.2 x q;rw[q];exact he⟩
theorem Rw.replicate {fs:List Ty}{e:ay}(h:bM fs e){n:Nat}(hn:n<=maxLen):Rw fs (List.replicate n e):=⟨by simpa using hn,fun x hx=>by rw[List.eq_of_mem_replicate hx];exact h⟩
def pz :Ty->Bool
 | .sl _=>false
 |_=>true
theorem t6 {t:Ty}{l:L}(h:cn t l)(hs:pz t=true):∃ x,l=.v x:=by
 cases t with
 |sl fs=>cases hs
 | int k=>cases l with
   |v x=>exact⟨x,rfl⟩
   |_=>simp[cn]at h
 | bool=>cases l with
   |v x=>exact⟨x,rfl⟩
   |_=>simp[cn]at h
 | str=>cases l with
   |v x=>exact⟨x,rfl⟩
   |_=>simp[cn]at h
theorem xc :∀ {fs:List Ty} {e:ay},fs.all pz=true->bM fs e->cz e=0
 |[],[],_,_=>rfl
 |[],_::_,_,h=>h.elim
 |_::_,[],_,h=>h.elim
 | t::ts,l::ls,hs,h=>by
   simp only[List.all_cons,Bool.and_eq_true]at hs;obtain⟨x,rfl⟩:=t6 h.1 hs.1;simp only[cz,dz];rw[xc hs.2 h.2]
theorem zS {fs:List Ty}(hs:fs.all pz=true):∀ {es:aa},(∀ e∈es,bM fs e)->bz es=0
 |[],_=>rfl
 |e::es,h=>by simp only[bz];rw[xc hs (h e (by simp)),zS hs (fun x hx=>h x (by simp[hx]))]
theorem Rw.cnt {fs:List Ty}{es:aa}(h:Rw fs es)(hs:fs.all pz=true):ag es=es.length:=by unfold ag;rw[zS hs h.2];rfl
theorem Rw.scal {fs:List Ty}{es:aa}(h:Rw fs es)(hs:fs.all pz=true):bI es:=by
 have key:∀ {fs:List Ty} {e:ay},fs.all pz=true->bM fs e->kK e:=by
  intro fs
  induction fs with
  | nil=>intro e _ h;cases e with
    |nil=>trivial
    |cons _ _=>exact h.elim
  | cons t ts ih=>
    intro e hs h;cases e with
    |nil=>exact h.elim
    | cons l ls=>
      simp only[List.all_cons,Bool.and_eq_true]at hs;obtain⟨x,rfl⟩:=t6 h.1 hs.1;exact(ih hs.2 h.2:kK ls)
 have:∀ {es:aa},(∀ e∈es,bM fs e)->bI es:=by
  intro es
  induction es with
  |nil=>intro _;trivial
  |cons e es ih=>intro h;exact⟨key hs (h e (by simp)),ih (fun x hx=>h x (by simp[hx]))⟩
 exact this h.2
theorem cg {es:aa}{n:Nat}(hn:n<es.length):bz (es.take (n+1))=bz (es.take n)+cz (es.getD n []):=by
 rw[di (d:=[]) hn,dp];simp[bz]
theorem bF {es:aa}{n:Nat}:bz (es.take n)<=bz es:=by
 conv=>rhs;rw[<-List.take_append_drop n es,dp]
 omega
theorem vp {sz:Nat}{es:aa}{n o:Nat}{new:ay}:lV (.s sz es) [(n,o)] new=es.set n ((es.getD n []).take o++new++(es.getD n []).drop (o+new.length)):=rfl
theorem nM {sz:Nat}{c:aa}{n j:Nat}:fO (.s sz c) [(n,j)]=F1 ((c.getD n []).getD j .g):=by
 unfold fO dH;simp only[bL];cases h:c[n]? with
 |none=>simp[List.getD,h,F1]
 | some rec=>
   simp only[Option.map_some,List.getD,h,Option.getD_some];cases h2:rec[j]? with
   |none=>simp[F1]
   |some l=>cases l<;>simp[F1]
theorem cX {c:aa}{n:Nat}{r:ay}(h:n<c.length):(c.set n r).getD n []=r:=by simp[List.getD,h]
theorem np {sz:Nat}{c:aa}{n j:Nat}{r:ay}(h:n<c.length):bL (.s sz (c.set n r)) [(n,j)]=some (r,j):=by simp[bL,h]
theorem sc {sz:Nat}{c:aa}{n j:Nat}(h:n<c.length):bL (.s sz c) [(n,j)]=some (c.getD n [],j):=by simp[bL,List.getD,h]
theorem um {sz:Nat}{c:aa}{n j:Nat}{r:ay}(h:n<c.length):dH (.s sz (c.set n r)) [(n,j)]=match r[j]? with
 |some (.s sz es)=>some (sz,es)
 |_=>none:=by unfold dH;rw[np h];rfl
theorem sd {sz:Nat}{c:aa}{n j:Nat}(h:n<c.length):dH (.s sz c) [(n,j)]=match(c.getD n [])[j]? with
 |some (.s sz es)=>some (sz,es)
 |_=>none:=by unfold dH;rw[sc h];rfl
theorem bh {a b:List aa}{k:Int}(hk:0<=k):am a k<=am (a++b) k/\0<=am a k:=by
 rw[<-fb,D7 (rs:=b),D7 (rs:=a)];have:=IR (rs:=a);have:=IR (rs:=b);omega
theorem ID {l:L}{k:Int}{z:L}(h:iw z l=true):iw z (eA l k).1=true:=by
 cases l with
 |v x=>cases x<;>cases z<;>simp_all [eA,iw]<;>(rename_i y;cases y<;>simp_all [iw])
 |s sz es=>cases z<;>simp_all [eA,iw]
 |g=>exact h
 |m _ _=>exact h
theorem CC :∀ {z e:ay} {k:Int},fy z e=true->fy z (d6 e k).1=true
 |[],[],_,_=>rfl
 |[],_::_,_,h=>by simp[fy]at h
 |_::_,[],_,h=>by simp[fy]at h
 | z::zs,l::ls,k,h=>by
   simp only[fy,Bool.and_eq_true,d6]at h ⊢;exact⟨ID h.1,CC h.2⟩
theorem zQ :∀ {z:ay} {es:aa} {k:Int},Wf z es->Wf z (cA es k).1
 |z,[],_,_=>fun e he=>by cases he
 | z,e::es,k,h=>by
   intro x hx;simp only[cA,List.mem_cons]at hx;rcases hx with rfl|hx
   ·exact CC (h e (by simp))
   ·exact zQ (fun y hy=>h y (by simp[hy])) x hx
theorem cD {fs:List Ty}{es:aa}{k:Int}(h:Rw fs es):Wf (zR fs) (ao es k):=zQ h.wf
end Go.V
namespace Go.V
mutual
def JD :Ty->Nat
 | .sl fs=>A3 fs
 |_=>1
def A3 :List Ty->Nat
 |[]=>0
 |t::ts=>JD t+A3 ts
end
mutual
theorem M4 :∀ (t:Ty) (l:L),cn t l->(eA l 0).2<=(JD t*(dz l+1):Nat)
 | .int k,.v x,h=>by cases x<;>simp[eA,dz,JD]
 | .int k,.s _ _,h=>by simp[cn]at h
 | .int k,.g,h=>by simp[cn]at h
 | .bool,.v x,h=>by cases x<;>simp[eA,dz,JD]
 | .bool,.s _ _,h=>by simp[cn]at h
 | .bool,.g,h=>by simp[cn]at h
 | .str,.v x,h=>by cases x<;>simp[eA,dz,JD]
 | .str,.s _ _,h=>by simp[cn]at h
 | .str,.g,h=>by simp[cn]at h
 | .sl fs,.v x,h=>by simp[cn]at h
 | .sl fs,.g,h=>by simp[cn]at h
 | .sl fs,.s sz es,h=>by
   have h1:=yu fs es (by simp only[cn]at h;exact h.2.2);simp only[eA,dz,JD];have:A3 fs*(es.length+bz es)<=A3 fs*(es.length+bz es+1):=Nat.mul_le_mul_left _ (by omega);omega
theorem Gf :∀ (ts:List Ty) (ls:ay),bM ts ls->(d6 ls 0).2<=(A3 ts*(cz ls+1):Nat)
 |[],[],_=>by simp only[d6];exact Int.natCast_nonneg _
 |[],_::_,h=>h.elim
 |_::_,[],h=>h.elim
 | t::ts,l::ls,h=>by
   have h1:=M4 t l h.1;have h2:=Gf ts ls h.2;simp only[d6];rw[xq];have e1:JD t*(dz l+1)<=JD t*(cz (l::ls)+1):=Nat.mul_le_mul_left _ (by simp[cz]);have e2:A3 ts*(cz ls+1)<=A3 ts*(cz (l::ls)+1):=Nat.mul_le_mul_left _ (by simp[cz]);have e3:A3 (t::ts)*(cz (l::ls)+1)=JD t*(cz (l::ls)+1)+A3 ts*(cz (l::ls)+1):=by simp only[A3];rw[Nat.add_mul]
   omega
theorem yu :∀ (ts:List Ty) (es:aa),(∀ e∈es,bM ts e)->(cA es 0).2<=(A3 ts*(es.length+bz es):Nat)
 |ts,[],_=>by simp only[cA];exact Int.natCast_nonneg _
 | ts,e::es,h=>by
   have h1:=Gf ts e (h e (by simp));have h2:=yu ts es (fun x hx=>h x (by simp[hx]));simp only[cA];rw[iW];have e3:A3 ts*((e::es).length+bz (e::es))=A3 ts*(cz e+1)+A3 ts*(es.length+bz es):=by
    rw[<-Nat.mul_add];congr 1;simp[bz];omega
   omega
end
theorem Rw.marks {fs:List Ty}{es:aa}(h:Rw fs es)(hw:A3 fs<=64):(cA es 0).2<=(64*ag es:Nat):=by
 have:=yu fs es h.2;have h2:A3 fs*(es.length+bz es)<=64*(es.length+bz es):=Nat.mul_le_mul_right _ hw;unfold ag;omega
theorem Ae :∀ {rs:List aa} {k:Int},(∀ r∈rs,(cA r 0).2<=(64*ag r:Nat))->am rs k<=k+(64*aw rs:Nat)
 |[],k,_=>by simp[am,aw]
 | r::rs,k,h=>by
   simp only[am,aw];have h1:=h r (by simp);have h2:=Ae (rs:=rs) (k:=(cA r k).2) (fun x hx=>h x (by simp[hx]));rw[iW]at h2;rw[iW r k];have:64*(ag r+aw rs)=64*ag r+64*aw rs:=Nat.mul_add _ _ _;omega
theorem FQ {rs:List aa}{k:Int}(h:∀ r∈rs,(cA r 0).2<=(64*ag r:Nat))(hk:0<=k/\k<=1000)(hc:aw rs<=1099511627776):am rs k<=1152921504606846976:=by
 have:=Ae (k:=k) h;have:64*aw rs<=64*1099511627776:=Nat.mul_le_mul_left _ hc;omega
theorem FP {rs:List aa}{k:Int}(hk:0<=k):¬ am rs k<0:=by
 rw[D7];have:=IR (rs:=rs);omega
theorem HF {rs:List aa}(h:aw rs<=1048576):¬ bJ rs 1048576<0:=by rw[gV];omega
theorem JC {es:aa}{k:Int}:lU (ao es k) 0 es.length=ao es k:=by
 rw[<-b9 (es:=es) (k:=k),sa]
abbrev fU (a0 a1 a2:aa)(a3:Int)(a4 a5 a6 a7 a8 a9 aA aB:aa)(aC:Int)(aD:aa)(aE aF aG aH:Int)(aI:Bool)(aJ aK:Int)(aL:aa)(aM aN:Int):ay:=[.s 1 a0,.s 1 a1,.s 2 a2,.i a3,.s 1 a4,.s 2 a5,.s 3 a6,.s 3 a7,.s 4 a8,.s 1 a9,.s 1 aA,.s 1 aB,.i aC,.s 3 aD,.i aE,.i aF,.i aG,.i aH,.v (.bool aI),.i aJ,.i aK,.s 1 aL,.i aM,.i aN]
abbrev Uj (a0 a1 a2:aa)(a3:Int)(a4 a5 a6 a7 a8 a9 aA aB:aa)(aC:Int)(aD:aa)(aE aF aG aH:Int)(aI:Bool)(aJ aK:Int)(aL:aa)(aM aN:Int):List H:=[.own (.s 1 a0),.own (.s 1 a1),.own (.s 2 a2),.own (.i a3),.own (.s 1 a4),.own (.s 2 a5),.own (.s 3 a6),.own (.s 3 a7),.own (.s 4 a8),.own (.s 1 a9),.own (.s 1 aA),.own (.s 1 aB),.own (.i aC),.own (.s 3 aD),.own (.i aE),.own (.i aF),.own (.i aG),.own (.i aH),.own (.v (.bool aI)),.own (.i aJ),.own (.i aK),.own (.s 1 aL),.own (.i aM),.own (.i aN)]
abbrev aQ :=Unit
abbrev F0 :aQ:=()
abbrev nB {P:Program}:TB P:={Φ:=Unit,F0:=()}
theorem cK {es:aa}{n:Nat}(h:ag es<=n):es.length<=n:=Nat.le_trans (Nat.le_add_right _ _) h
theorem Lu {p:Prop}(h:p:=by
 try rw[cS (n:=es.length) g0 hlt (by omega)]
 try have hlt':i.toNat<es.length:=by omega
 try have hct:=cg (es:=es) (n:=i.toNat) (by omega);rw[he]at hct;simp only[cz,dz,Nat.add_zero,Nat.zero_add]at hct
 try have hks:=cF (es:=es) (k:=k) hlt';rw[he]at hks;simp only[d6,eA]at hks
 try have hms:=uL (es:=es) (k:=k) hlt';rw[he]at hms;simp only[d6,eA]at hms
 try have hcl:i.toNat<cur.length:=by rw[hc,kg g1];exact hlt'
 have hk1:=eT (es:=es) (k:=k) (n:=i.toNat)
 have hk2:=eT (es:=es) (k:=k) (n:=i.toNat+1)
 have hk3:=kD (es:=es) (k:=k)
 have hk4:=eT (es:=es) (k:=k) (n:=es.length)
 have hk5:=dr (es:=es) (m:=0) (n:=i.toNat) g1 (Nat.zero_le _)
 have hk6:=dr (es:=es) (m:=i.toNat) (n:=es.length) (Nat.le_refl _) g1
 try have hk7:=dr (es:=es) (m:=i.toNat+1) (n:=es.length) (Nat.le_refl _) hlt'
 have hle1:=bF (es:=es) (n:=i.toNat+1)
 have hcE:ag es=es.length+bz es:=rfl
 rw[bG]at hk5
 try have hk8:=gu (es:=es) (n:=i.toNat) hlt'
 have ha1:bH .add .i64 k' 1=k'+1:=bA (by omega)
 have ha2:bH .add .i64 (k'+1) 1=k'+1+1:=bA (by omega)
 have ha3:bH .add .i64 (k'+1+1) 1=k'+1+1+1:=bA (by omega)
 have ha4:bH .add .i64 (k'+1+1+1) 1=k'+1+1+1+1:=bA (by omega)
 try simp only[ha1,ha2,ha3,ha4]
 try simp only[az]
 try simp only[vp,hcg,List.take,List.drop,List.length_cons,List.length_nil,List.nil_append,List.cons_append,List.append_nil,Nat.zero_add,Nat.reduceAdd,cX hcl,List.set_set,List.append_assoc]
 try simp only[nM,hcg,cX hcl,List.getD_cons_zero,List.getD_cons_succ,F1]
 try simp only[sc hcl,np hcl,sd hcl,um hcl,hcg,List.getElem?_cons_zero,List.getElem?_cons_succ]
 first|exact⟨g0,hlt⟩|(refine⟨_,_,rfl,?_⟩;simp;done)|omega|(rw[hk',show i.toNat=es.length from by omega,hk3];done)|(rw[hc,show i.toNat=es.length from by omega,uK];rfl)|(rw[show(i+1).toNat=i.toNat+1 from by omega,hks,hk'];done)|(rw[show(i+1).toNat=i.toNat+1 from by omega, <-hms,hc,hk'];done)|trace_state):p:=h
theorem Lv {p:Prop}(h:p:=by
 have hk1:=eT (es:=es) (k:=k) (n:=i.toNat)
 have hk2:=eT (es:=es) (k:=k) (n:=i.toNat+1)
 have hk3:=kD (es:=es) (k:=k)
 have hk4:=eT (es:=es) (k:=k) (n:=es.length)
 have hk5:=dr (es:=es) (m:=0) (n:=i.toNat) g1 (Nat.zero_le _)
 have hk6:=dr (es:=es) (m:=i.toNat) (n:=es.length) (Nat.le_refl _) g1
 try have hk7:=dr (es:=es) (m:=i.toNat+1) (n:=es.length) (Nat.le_refl _) hlt'
 have hle1:=bF (es:=es) (n:=i.toNat+1)
 have hcE:ag es=es.length+bz es:=rfl
 rw[bG]at hk5
 try have hk8:=gu (es:=es) (n:=i.toNat) hlt'
 try rw[<-hk']at hem hks
 have ha1:bH .add .i64 k' 1=k'+1:=bA (by omega)
 have ha2:bH .add .i64 (k'+1) 1=k'+1+1:=bA (by omega)
 have ha3:bH .add .i64 (k'+1+1) 1=k'+1+1+1:=bA (by omega)
 have ha4:bH .add .i64 (k'+1+1+1) 1=k'+1+1+1+1:=bA (by omega)
 try simp only[ha1,ha2,ha3,ha4]at*
 first|exact ib hwm g0 hltm|omega|(exfalso;revert hb;simp only[hem,cr,bH];simp;done)|(rw[hk',show i.toNat=es.length from by omega,hk3,hkk];done)|(rw[show(i+1).toNat=i.toNat+1 from by omega,hks];done)|(rw[show(i+1).toNat=i.toNat+1 from by omega,hks,hem];simp only[am,dd];done)|(rw[show(i+1).toNat=i.toNat+1 from by omega,hks,hem.2];simp only[am,dd];done)|(refine⟨_,by first|exact hem|exact hem.2|exact hem.1|rfl,?_,?_,?_⟩<;>(try simp only[am,dd,ag])<;>omega)|(refine⟨_,by first|exact hem|exact hem.2|exact hem.1|rfl,?_,?_,?_⟩<;>(try rw[hem])<;>(try rw[hem.2])<;>(try simp only[am,dd,ag])<;>omega)|(exfalso;simp only[am,dd]at hb;omega)|(exfalso;(first|rw[hem]at hb|rw[hem.2]at hb);simp only[am,dd]at hb;omega)|trivial|trace_state):p:=h
theorem JJ {p:Prop}(h:p:=by
 try rw[cS (n:=es.length) g0 hlt (by omega)]
 try have hct:=cg (es:=es) (n:=i.toNat) (by omega);rw[he]at hct;simp only[cz,dz,Nat.add_zero,Nat.zero_add]at hct
 have hle1:=bF (es:=es) (n:=i.toNat+1)
 have hcE:ag es=es.length+bz es:=rfl
 first|exact ib hwf g0 hlt|exact⟨g0,hlt⟩|(rw[hm];exact fa (by rw[fT g1];omega) (by rw[iO (by omega)];exact Nat.le_refl _))|omega|(rw[show(i+1).toNat=i.toNat+1 from by omega, <-wV (by omega), <-hm,jo (by rw[hm,iO (by omega)];rfl),he])|(rw[hm,fT g1];exact⟨trivial,rfl⟩)|(rw[hm,show i.toNat=es.length from by omega,wU])|trace_state):p:=h
theorem Vy {p:Prop}(h:p:=by
 try have hct:=cg (es:=es) (n:=i.toNat) (by omega);rw[he]at hct;simp only[cz,dz,Nat.add_zero,Nat.zero_add]at hct
 try have hks:=cF (es:=es) (k:=k) hlt';rw[he]at hks;simp only[d6,eA]at hks
 try have hms:=uL (es:=es) (k:=k) hlt';rw[he]at hms;simp only[d6,eA]at hms
 try have hcl:i.toNat<cur.length:=by rw[hc,kg g1];exact hlt'
 have hk1:=eT (es:=es) (k:=k) (n:=i.toNat)
 have hk2:=eT (es:=es) (k:=k) (n:=i.toNat+1)
 have hk3:=kD (es:=es) (k:=k)
 have hk4:=eT (es:=es) (k:=k) (n:=es.length)
 have hk5:=dr (es:=es) (m:=0) (n:=i.toNat) g1 (Nat.zero_le _)
 have hk6:=dr (es:=es) (m:=i.toNat) (n:=es.length) (Nat.le_refl _) g1
 try have hk7:=dr (es:=es) (m:=i.toNat+1) (n:=es.length) (Nat.le_refl _) hlt'
 have hle1:=bF (es:=es) (n:=i.toNat+1)
 have hcE:ag es=es.length+bz es:=rfl
 rw[bG]at hk5
 try have hk8:=gu (es:=es) (n:=i.toNat) hlt'
 have ha1:bH .add .i64 k' 1=k'+1:=bA (by omega)
 have ha2:bH .add .i64 (k'+1) 1=k'+1+1:=bA (by omega)
 have ha3:bH .add .i64 (k'+1+1) 1=k'+1+1+1:=bA (by omega)
 have ha4:bH .add .i64 (k'+1+1+1) 1=k'+1+1+1+1:=bA (by omega)
 try simp only[ha1,ha2,ha3,ha4]
 try simp only[az]
 try simp only[vp,hcg,List.take,List.drop,List.length_cons,List.length_nil,List.nil_append,List.cons_append,List.append_nil,Nat.zero_add,Nat.reduceAdd,cX hcl,List.set_set,List.append_assoc]
 try simp only[nM,hcg,cX hcl,List.getD_cons_zero,List.getD_cons_succ,F1]
 try simp only[sc hcl,np hcl,sd hcl,um hcl,hcg,List.getElem?_cons_zero,List.getElem?_cons_succ]
 first|exact⟨g0,hlt⟩|(refine⟨_,_,rfl,by simp,?_⟩;show List.take _ (List.drop _ _)=[L.s _ (fO _ _)];simp only[sH,nM,hcg,cX hcl,List.getD_cons_zero,List.getD_cons_succ,Nat.add_zero,F1];rfl)|exact⟨trivial,_,rfl,rfl⟩|exact⟨_,rfl⟩|omega|(rw[hk',show i.toNat=es.length from by omega,hk3];done)|(rw[hc,show i.toNat=es.length from by omega,uK];rfl)|(rw[show(i+1).toNat=i.toNat+1 from by omega,hks,hk'];rfl)|(rw[show(i+1).toNat=i.toNat+1 from by omega, <-hms,hc,hk'];rfl)|(refine⟨hr0,?_,?_,?_⟩<;>(try simp only[ag,am])<;>first|omega|(rw[hk'];omega))|trace_state):p:=h
theorem rT {p:Prop}(h:p:=by
 intro O r F hO hr hF;cbv
 repeat' first|apply And.intro|(apply bi<;>intro hb<;>cbv)
 all_goals(subst hO hr hF;(try simp only[nc]at*);(try simp only[ai,SS,sa,az]at*))
 all_goals first|trivial|trace_state):p:=h
theorem Vz {p:Prop}(h:p:=by
 have hk1:=eT (es:=es) (k:=k) (n:=i.toNat)
 have hk2:=eT (es:=es) (k:=k) (n:=i.toNat+1)
 have hk3:=kD (es:=es) (k:=k)
 have hk4:=eT (es:=es) (k:=k) (n:=es.length)
 have hk5:=dr (es:=es) (m:=0) (n:=i.toNat) g1 (Nat.zero_le _)
 have hk6:=dr (es:=es) (m:=i.toNat) (n:=es.length) (Nat.le_refl _) g1
 try have hk7:=dr (es:=es) (m:=i.toNat+1) (n:=es.length) (Nat.le_refl _) hlt'
 have hle1:=bF (es:=es) (n:=i.toNat+1)
 have hcE:ag es=es.length+bz es:=rfl
 rw[bG]at hk5
 try have hk8:=gu (es:=es) (n:=i.toNat) hlt'
 try rw[<-hk']at hem hks
 have ha1:bH .add .i64 k' 1=k'+1:=bA (by omega)
 have ha2:bH .add .i64 (k'+1) 1=k'+1+1:=bA (by omega)
 have ha3:bH .add .i64 (k'+1+1) 1=k'+1+1+1:=bA (by omega)
 have ha4:bH .add .i64 (k'+1+1+1) 1=k'+1+1+1+1:=bA (by omega)
 try simp only[ha1,ha2,ha3,ha4]at*
 first|exact ib hwm g0 hltm|omega|(exfalso;revert hb;simp only[hem,cr,bH];simp;done)|(rw[hk',show i.toNat=es.length from by omega,hk3,hkk];done)|(rw[show(i+1).toNat=i.toNat+1 from by omega,hks];done)|(rw[show(i+1).toNat=i.toNat+1 from by omega,hks,hem];simp only[am,dd];done)|(rw[show(i+1).toNat=i.toNat+1 from by omega,hks,hem.2];simp only[am,dd];done)|(refine⟨_,by first|exact hem|exact hem.2|exact hem.1|rfl,hr0,?_,?_,?_⟩<;>(try simp only[am,dd,ag])<;>omega)|(refine⟨_,by first|exact hem|exact hem.2|exact hem.1|rfl,hr0,?_,?_,?_⟩<;>(try rw[hem])<;>(try rw[hem.2])<;>(try simp only[am,dd,ag])<;>omega)|(exfalso;simp only[am,dd]at hb;omega)|(exfalso;(first|rw[hem]at hb|rw[hem.2]at hb);simp only[am,dd]at hb;omega)|trivial|trace_state):p:=h
theorem V7 {p:Prop}(h:p:=by
 (try have hl:((msS a2 a6).length:Int)<=16:=(by assumption))
 (try have hg:(16:Int)<(msS a2 a6).length:=(by assumption))
 (try have l2':=QD hg)
 (try have ea:=Ni (e:=a2) (s:=a6) (by omega))
 (try simp only[ea]at*)
 (try simp only[QF,QC,QG]at*)
 (try simp only[l2']at*)
 (try simp only[QK]at*)
 (try have p0:(wA a2 a6 aE).length≠0:=(by omega))
 (try have z0:(wA a2 a6 aE).length=0:=(by omega))
 (try have I:=QB p0)
 (try simp only[nL (l:=wA a2 a6 aE) (sz:=2) (j:=0) (i:=0) (by decide),nL (l:=wA a2 a6 aE) (sz:=2) (j:=1) (i:=0) (by decide)]at*)
 (try simp only[NR]at*)
 (try simp only[nL (l:=msS a2 a6) (sz:=3) (j:=0) I.1.1,nL (l:=msS a2 a6) (sz:=3) (j:=1) I.1.1,nL (l:=msS a2 a6) (sz:=3) (j:=2) I.1.1,nL (l:=msS a2 a6) (sz:=3) (j:=0) I.2.1,nL (l:=msS a2 a6) (sz:=3) (j:=1) I.2.1,nL (l:=msS a2 a6) (sz:=3) (j:=2) I.2.1]at*)
 (try simp only[nL (l:=nG a2 a6) (sz:=3) (j:=0) I.1.1,nL (l:=nG a2 a6) (sz:=3) (j:=1) I.1.1,nL (l:=nG a2 a6) (sz:=3) (j:=2) I.1.1,nL (l:=nG a2 a6) (sz:=3) (j:=0) I.2.1,nL (l:=nG a2 a6) (sz:=3) (j:=1) I.2.1,nL (l:=nG a2 a6) (sz:=3) (j:=2) I.2.1]at*)
 (try simp only[KQ I.1.1 I.1.2,KQ I.2.1 I.2.2]at*)
 (try simp only[QL]at*)
 (try simp only[QI,QJ,QH]at*)
 first
  | (show(_:List DV)=_
     first
      |(have g0:mtG (hpI a0 a1 a2 a3 a4 a5 a6 a7 a8 a9 aA aB aC aD aE aF aG aH aI aJ aK aL aM aN) aI=false:=(by rw[show aI=true by assumption];exact KO);rw[g0];exact rfl)
      |(have g0:mtG (hpI a0 a1 a2 a3 a4 a5 a6 a7 a8 a9 aA aB aC aD aE aF aG aH aI aJ aK aL aM aN) aI=false:=KP (by assumption);rw[g0];exact rfl)
      |(have g1:mtG (hpI a0 a1 a2 a3 a4 a5 a6 a7 a8 a9 aA aB aC aD aE aF aG aH aI aJ aK aL aM aN) aI=true:=GH (by assumption) (by assumption);have b0:mtB true a2 a6 aE=false:=GF z0;rw[g1];simp only[Gz b0,GB b0,Gx b0,Gv b0,KM b0,b0];exact rfl)
      |(have g1:mtG (hpI a0 a1 a2 a3 a4 a5 a6 a7 a8 a9 aA aB aC aD aE aF aG aH aI aJ aK aL aM aN) aI=true:=GH (by assumption) (by assumption);have b1:mtB true a2 a6 aE=true:=GG rfl p0;rw[g1];simp only[GA b1,GC b1,Gy b1,Gw b1,KN b1,b1];exact rfl)
      |exact aj (GF z0).symm
      |exact aj (GG rfl p0).symm
      |done)
  | (show(_:List H)=_
     first
      |(have b0:mtB true a2 a6 aE=false:=GF z0;simp only[Gz b0,GB b0,Gx b0,Gv b0,KM b0,b0];exact rfl)
      |(have b1:mtB true a2 a6 aE=true:=GG rfl p0;simp only[GA b1,GC b1,Gy b1,Gw b1,KN b1,b1];exact rfl)
      |done)
  |omega
  |exact eQ
  |exact QE
  |exact⟨mtr,by omega⟩
  |exact Uz Pr (by decide) (by omega) (by decide)
  |exact I.1
  |exact I.2
  |exact CU mr I.1.1 (by omega)
  |exact CU mr I.2.1 (by omega)
  |exact CU mtr I.1.1 (by omega)
  |exact CU mtr I.2.1 (by omega)
  |exact⟨BC.1,by have:=(BC (e:=a2) (s:=a6) (d:=aE)).2;omega⟩
  |exact⟨by omega,by omega,mr.eta I.1.1 (by omega)⟩
  |exact⟨by omega,by omega,mr.eta I.2.1 (by omega)⟩
  |exact⟨by omega,by omega,mtr.eta I.1.1 (by omega)⟩
  |exact⟨by omega,by omega,mtr.eta I.2.1 (by omega)⟩
  |exact hp
  |exact hp.hp
  |exact⟨hp.r2,hp.r6,by omega,by omega⟩
  |(show aZ _ _=true;kernel_rfl)
  |exact⟨True.intro,True.intro⟩
  |exact True.intro
  |done):p:=h
theorem V8 {p:Prop}(h:p:=by
 intro O r F hO hr hF;cbv
 repeat' first|apply And.intro|(apply bi<;>intro hb<;>cbv)|(refine⟨[0,1,6,7],[6],Int×aa,fun s_=>match s_ with|(i,o)=>[.reg 7 (.j i),.reg 6 (.one (.vw 6 0 0 0 (O.ln o))),.leaf 6 0 ⟨0,0,none,.own (.s 1 o)⟩],fun s_=>match s_ with|(i,o)=>0<=i/\i<=n/\LE i o,fun s_=>match s_ with|(i,o)=>(n-i).toNat,⟨(0,[]),?_,?_⟩,?_⟩;rotate_left;(focus (cbv;done));intro s_ hi;obtain⟨i,o⟩:=s_;replace hi:0<=i/\i<=n/\LE i o:=hi;obtain⟨i0,i1,i2⟩:=hi;cbv)|(refine⟨[0,6,8],[6],Int×aa×Int,fun s_=>match s_ with|(j,p,t)=>[.reg 0 (.j t),.reg 8 (.j j),.leaf 6 0 ⟨0,0,none,.own (.s 1 p)⟩],fun s_=>match s_ with|(j,p,t)=>j<n/\(-1<=j)/\LP n s j p t,fun s_=>match s_ with|(j,p,t)=>(j+1).toNat,⟨(O.ar .sub .i64 n 1,o,s),?_,?_⟩,?_⟩;rotate_left;(focus (cbv;done));intro s_ hj;obtain⟨j,p,t⟩:=s_;replace hj:j<n/\(-1<=j)/\LP n s j p t:=hj;obtain⟨j0,j1,j2⟩:=hj;cbv)|(refine ab (O.ar .add .i64 i 1,O.cat o (O.sub [[.i i]] 0 (O.ln [[.i i]]))) ?_ ?_ ?_;focus (cbv;done))|(refine ab (O.ar .sub .i64 j 1,O.up (.s 1 (O.up (.s 1 p) [(O.ad 0 j,0)] [.i (O.pi (.s 1 p) [(O.ad 0 (F.cuI t (O.ar .add .i64 j 1)),0)])])) [(O.ad 0 (F.cuI t (O.ar .add .i64 j 1)),0)] [.i (O.pi (.s 1 p) [(O.ad 0 j,0)])],F.cuS t (O.ar .add .i64 j 1)) ?_ ?_ ?_;focus (cbv;done))
 all_goals(subst hO hr hF;(try simp only[nc]at*);(try simp only[ai,SS,sa,az]at*))
 all_goals try rw[cp (by omega) (by omega)]
 all_goals(try have hn:=bE.1 (by assumption:inR n 0 64=true))
 all_goals(try have li:=CJ (by assumption) (by assumption))
 all_goals(try have e1:bH .add .i64 j 1=j+1:=bA (by omega))
 all_goals(try have e2:bH .sub .i64 j 1=j-1:=cB (by omega))
 all_goals(try have e3:bH .sub .i64 n 1=n-1:=cB (by omega))
 all_goals(try have e0:bH .add .i64 i 1=i+1:=bA (by omega))
 all_goals(try simp only[e1]at*)
 all_goals(try simp only[e2]at*)
 all_goals(try simp only[e3]at*)
 all_goals(try simp only[e0]at*)
 all_goals(try have S:=(by assumption:LP n s j p t))
 all_goals(try have sl:=S.l)
 all_goals(try have sq:=Cw (n:=j+1) S.k (by omega) (by omega))
 all_goals first
  | (show(_:List DV)=_
     first
      |exact BV (Hr (RV (by assumption))).1.symm (Hr (RV (by assumption))).2.symm
      |exact BV (Hr (RX (by assumption))).1.symm (Hr (RX (by assumption))).2.symm
      |(have q:=Jp S (by omega) (Jm (by assumption) (by assumption));exact BV q.1 q.2)
      |done)
  |(show aZ _ _=true;kernel_rfl)
  |omega
  |exact⟨True.intro,True.intro⟩
  |exact P4
  |exact MN (by assumption) (by assumption)
  |exact RY (by assumption) (by omega) (by omega) (by omega) (by assumption)
  |(rw[R8 S.r (by omega) (by omega) sq.1 (by omega)];exact NP S (by omega) (by omega) (by omega))
  |exact nq S.r (by omega) (by omega)
  |exact Ks S.r (by omega) (by omega)
  |exact NS S.r (by omega) (by omega) sq.1 (by omega)
  |(constructor<;>(simp only[List.length_cons,List.length_nil];omega))
  |(constructor<;>omega)
  |exact True.intro
  |done):p:=h
theorem Lw {p:Prop}(h:p:=by
 try rw[cS (n:=es.length) g0 hlt (by omega)]
 try have hct:=cg (es:=es) (n:=i.toNat) (by omega);rw[he]at hct;simp only[cz,dz,Nat.add_zero,Nat.zero_add]at hct
 have hle1:=bF (es:=es) (n:=i.toNat+1)
 have hcE:ag es=es.length+bz es:=rfl
 first|omega|exact ib hwf g0 hlt|trivial|trace_state):p:=h
theorem Lx {p:Prop}(h:p:=by
 intro O r F hO hr hF;cbv
 repeat' first|apply And.intro|(apply bi<;>intro hb<;>cbv)
 all_goals(subst hO hr hF;(try simp only[nc]at*);(try simp only[ai,SS,sa,az]at*))
 all_goals first|exact hs|trivial|exact⟨trivial,trivial⟩|exact⟨hw,hl⟩|omega|(show aZ _ _=true;kernel_rfl)|(simp only[List.length_nil];omega)|exact rfl|done):p:=h
theorem zo {p:Prop}(h:p:=by
 intro O r F hO hr hF;cbv
 repeat' first|apply And.intro|(apply bi<;>intro hb<;>cbv)
 all_goals(subst hO hr hF;(try simp only[nc]at*);(try simp only[ai,SS,sa,az]at*))
 all_goals(try simp only[hs]at*)
 all_goals first|trivial|(rw[hn,if_pos (by omega)])|(rw[hn,if_neg (by omega)])):p:=h
theorem Sl {p:Prop}(h:p:=by
 intro O r F hO hr hF;cbv
 repeat' first|apply And.intro|(apply bi<;>intro hb<;>cbv)
 all_goals(subst hO hr hF;(try simp only[nc]at*);(try simp only[ai,SS,sa,az]at*))
 all_goals(try have ht:htB b x f=true:=(by assumption))
 all_goals(try have hi:=Mx ht)
 all_goals(try have hg:=yP wb hi.1 hi.2)
 all_goals(try have ok:=PV ht (by assumption))
 all_goals(try have T:=Fc ok)
 all_goals(try have T2:0<=af (ax b f 0) 0 0:=T.t0)
 all_goals(try have T3:af (ax b f 0) 0 0<b.length:=T.t1)
 all_goals(try have T4:=T.l)
 all_goals(try have T5:af (ax b f 0) 0 0<x.length:=by omega)
 all_goals(try simp only[List.map_cons,List.map_nil]at*)
 all_goals(try rw[TS wb hi.1 hi.2])
 all_goals(try rw[O3 wb hi.1 hi.2])
 all_goals(try rw[TT wx T2 T5])
 all_goals first
  | (show(_:List DV)=_
     first
      |(have q:=Fe (Kb (b:=b) (x:=x) (f:=f) (by assumption));exact Gn q.1.symm q.2.symm (Kb (b:=b) (x:=x) (f:=f) (by assumption)).symm)
      |(have q:=Fe (Kc (b:=b) (x:=x) (f:=f) (by assumption));exact Gn q.1.symm q.2.symm (Kc (b:=b) (x:=x) (f:=f) (by assumption)).symm)
      |(have q:=L4 ok;exact Gn q.1.symm (by rw[q.2,je];rfl) ok.symm)
      |done)
  |omega
  |exact eQ
  |(show aZ _ _=true;kernel_rfl)
  |exact N
  |exact⟨wb,wx,by omega,by omega⟩
  |exact Ft wb hi.1 hi.2
  |exact R6 wb hi.1 hi.2
  |exact True.intro
  |exact⟨True.intro,True.intro⟩
  |exact⟨T2,T5⟩
  |exact TQ T wb
  |exact O2 T wb
  |exact⟨True.intro,O2 T wb⟩
  |exact IG wx T2 T5
  |exact TR wx T2 T5 cx rfl
  |exact L8 wx T2 T5
  |exact L6 wx T2 T5
  |exact OZ T wb
  |exact O0 T cb
  |(rw[je];exact O1 T wb wx cb cx)
  |done):p:=h
theorem Sn {p:Prop}(h:p:=by
 (subst hO hr hF;(try simp only[nc]at*);(try simp only[ai,SS,sa,az]at*))
 (try simp only[JC]at*)
 first|exact True.intro|(show aZ _ _=true;kernel_rfl)|exact⟨True.intro,True.intro⟩|exact⟨ha0,ha1,ha2,ha4,ha5,ha6,ha7,ha8,ha9,ha10,ha11,ha13,ha21,by omega,by omega⟩|exact⟨ha0,ha1,ha2,ha4,ha5,ha6,ha7,ha8,ha9,ha10,ha11,ha13,ha21,hs⟩|exact⟨ha0,ha1,ha2,ha4,ha5,ha6,ha7,ha8,ha9,ha10,ha11,ha13,ha21⟩|exact⟨trivial,ha0,ha1,ha2,ha4,ha5,ha6,ha7,ha8,ha9,ha10,ha11,ha13,ha21,by omega⟩|exact⟨rfl,ha0,ha1,ha2,ha4,ha5,ha6,ha7,ha8,ha9,ha10,ha11,ha13,ha21,by omega⟩|exact⟨ha0,ha1,ha2,ha4,ha5,ha6,ha7,ha8,ha9,ha10,ha11,ha13,ha21,by omega,by omega,hAk⟩|exact⟨trivial,hR0,hR1,hR2,hR3,hR4,hR5,hR6,hR7,hR8,hR9,hR10,hR11,hR12,hRc⟩|exact⟨rfl,hR0,hR1,hR2,hR3,hR4,hR5,hR6,hR7,hR8,hR9,hR10,hR11,hR12,hRc⟩|exact⟨hR0,hR1,hR2,hR3,hR4,hR5,hR6,hR7,hR8,hR9,hR10,hR11,hR12,hRc,by omega,hRk⟩|exact⟨⟨_,rfl,hR0,hRm.1⟩,⟨_,hE1,hR1,hRm.2.1⟩,⟨_,hE2,hR2,hRm.2.2.1⟩,⟨_,hE3,hR3,hRm.2.2.2.1⟩,⟨_,hE4,hR4,hRm.2.2.2.2.1⟩,⟨_,hE5,hR5,hRm.2.2.2.2.2.1⟩,⟨_,hE6,hR6,hRm.2.2.2.2.2.2.1⟩,⟨_,hE7,hR7,hRm.2.2.2.2.2.2.2.1⟩,⟨_,hE8,hR8,hRm.2.2.2.2.2.2.2.2.1⟩,⟨_,hE9,hR9,hRm.2.2.2.2.2.2.2.2.2.1⟩,⟨_,hE10,hR10,hRm.2.2.2.2.2.2.2.2.2.2.1⟩,⟨_,hE11,hR11,hRm.2.2.2.2.2.2.2.2.2.2.2.1⟩,⟨_,hE12,hR12,hRm.2.2.2.2.2.2.2.2.2.2.2.2⟩,by omega,le_of_eq_of_le hM hRk⟩|exact b9|exact absurd (by assumption) (FP (by omega))|exact absurd hM (by assumption)|exact absurd (by assumption) (by rw[hM];exact FP (by omega))|exact hC|exact rfl|exact absurd rfl (by assumption)|(exfalso;omega)|trivial|trace_state):p:=h
theorem Sv {p:Prop}(h:p:=by
 (subst hO hr hF;(try simp only[nc]at*);(try simp only[ai,SS,sa,az]at*))
 try rw[cp (by omega) (by omega)]
 try(have hol:out.length=i.toNat:=(by rw[i2,List.length_take];omega))
 try(have hok:ou2.length=k.toNat:=(by rw[k2,List.length_take];omega))
 try(have hsc:=kO wb i0 (by assumption);have hsl:=aP (es:=ax b i 0))
 try(have hsd:=kO wx k0 (by assumption);have hsm:=aP (es:=ax x k 0))
 first
  | (show(_:List DV)=_
     first
      |exact rfl
      |(rw[i2,eO (by omega)];rfl)
      |(rw[i2,k2,eO (by omega),eO (by omega)];rfl)
      |done)
  |omega
  |exact eQ
  |(show aZ _ _=true;kernel_rfl)
  |exact Rw.scal (fs:=[tI]) (by(first|assumption|exact Rw.sub (by first|assumption|exact Rw.sub (by assumption) (by omega) rfl) (by omega) rfl)) rfl
  |exact Rw.scal (fs:=[tI,tI]) (by(first|assumption|exact Rw.sub (by first|assumption|exact Rw.sub (by assumption) (by omega) rfl) (by omega) rfl)) rfl
  |exact⟨by(first|assumption|exact Rw.sub (by first|assumption|exact Rw.sub (by assumption) (by omega) rfl) (by omega) rfl),by omega⟩
  |(simp only[List.length_nil,List.length_cons];omega)
  |(rw[i2,List.nil_append];exact(eP wb i0 (by assumption)).symm)
  |(rw[k2];exact(eP wx k0 (by assumption)).symm)
  |(rw[k2,List.nil_append];exact(eP wx k0 (by assumption)).symm)
  |exact⟨trivial,trivial⟩
  |trivial
  |exact rfl
  |done):p:=h
theorem Sw {p:Prop}(h:p:=by
 intro O r F hO hr hF;cbv
 repeat' first|apply And.intro|(apply bi<;>intro hb<;>cbv)
 all_goals(subst hO hr hF;(try simp only[nc]at*);(try simp only[ai,SS,sa,az]at*))
 all_goals first
  | (show(_:List DV)=_
     first
      |(have q:=TV (k:=hpI a0 a1 a2 a3 a4 a5 a6 a7 a8 a9 aA aB aC aD aE aF aG aH aI aJ aK aL aM aN) (b:=aA) (x:=aB) (f:=f) (by assumption);first|(first|(rw[q.1,q.2.1,q.2.2];done)|(rw[q.1,q.2.1,q.2.2];exact rfl))|(rw[q.1,q.2.1,q.2.2];exact rfl))
      |(have q:=O6 (k:=hpI a0 a1 a2 a3 a4 a5 a6 a7 a8 a9 aA aB aC aD aE aF aG aH aI aJ aK aL aM aN) (b:=aA) (x:=aB) (f:=f) (by assumption);first|(first|(rw[q.1,q.2.1,q.2.2];done)|(rw[q.1,q.2.1,q.2.2];exact rfl))|(rw[q.1,q.2.1,q.2.2];exact rfl))
      |(have q:=L9 (k:=hpI a0 a1 a2 a3 a4 a5 a6 a7 a8 a9 aA aB aC aD aE aF aG aH aI aJ aK aL aM aN) (b:=aA) (x:=aB) (f:=f) (by assumption);first|(first|(rw[q.1,q.2.1,q.2.2];done)|(rw[q.1,q.2.1,q.2.2];exact rfl))|(rw[q.1,q.2.1,q.2.2];exact rfl))
      |(have q:=L9 (k:=hpI a0 a1 a2 a3 a4 a5 a6 a7 a8 a9 aA aB aC aD aE aF aG aH aI aJ aK aL aM aN) (b:=aA) (x:=aB) (f:=f) (by assumption);first|(first|(rw[q.1,q.2.1,q.2.2,show dlOk aA aB f=true from(by assumption)];done)|(rw[q.1,q.2.1,q.2.2,show dlOk aA aB f=true from(by assumption)];exact rfl))|(rw[q.1,q.2.1,q.2.2,show dlOk aA aB f=true from(by assumption)];exact rfl))
      |done)
  |exact hp
  |exact hp.hp
  |exact⟨hp.r10,hp.r11,hp.c10,hp.c11⟩
  |(show aZ _ _=true;kernel_rfl)
  |exact⟨True.intro,True.intro⟩
  |exact True.intro
  |done):p:=h
theorem N4 {p:Prop}(h:p:=by
 try have hct:=cg (es:=es) (n:=i.toNat) (by omega);rw[he]at hct;simp only[cz,dz,Nat.add_zero,Nat.zero_add]at hct
 have hle1:=bF (es:=es) (n:=i.toNat+1)
 have hcE:ag es=es.length+bz es:=rfl
 first|exact ib hwf g0 hlt|exact⟨g0,hlt⟩|(rw[hm];exact fa (by rw[fT g1];omega) (by rw[iO (by omega)];exact Nat.le_refl _))|omega|(rw[show(i+1).toNat=i.toNat+1 from by omega, <-wV (by omega), <-hm,jo (by rw[hm,iO (by omega)];rfl),he])|(rw[hm,fT g1];exact⟨trivial,rfl⟩)|(rw[hm,show i.toNat=es.length from by omega,wU])|trivial|(refine⟨hr0,?_⟩;simp only[aw,ag,Nat.add_zero];omega)|trace_state):p:=h
theorem SA {p:Prop}(h:p:=by
 (subst hO hr hF;(try simp only[nc]at*);(try simp only[ai,SS,sa,az]at*))
 try rw[cp (by omega) (by omega)]
 try(have hol:out.length=i.toNat:=(by rw[i2,List.length_take];omega))
 try(have hsc:=kO hc i0 (by assumption);have hsl:=aP (es:=ax ls i 0))
 first
  | (show(_:List DV)=_
     first
      |exact rfl
      |(rw[i2,eO (by omega)];rfl)
      |(rw[i2,k2,eO (by omega),eO (by omega)];rfl)
      |done)
  |omega
  |exact eQ
  |(show aZ _ _=true;kernel_rfl)
  |exact Rw.scal (fs:=[tI]) (by(first|assumption|exact Rw.sub (by first|assumption|exact Rw.sub (by assumption) (by omega) rfl) (by omega) rfl)) rfl
  |exact Rw.scal (fs:=[tI,tI]) (by(first|assumption|exact Rw.sub (by first|assumption|exact Rw.sub (by assumption) (by omega) rfl) (by omega) rfl)) rfl
  |exact⟨by(first|assumption|exact Rw.sub (by first|assumption|exact Rw.sub (by assumption) (by omega) rfl) (by omega) rfl),by omega⟩
  |(simp only[List.length_nil,List.length_cons];omega)
  |(rw[i2];exact(eP hc i0 (by assumption)).symm)
  |(rw[i2,List.nil_append];exact(eP hc i0 (by assumption)).symm)
  |exact⟨trivial,trivial⟩
  |trivial
  |exact rfl
  |done):p:=h
theorem JH {p:Prop}(h:p:=by
 intro O r os F hO hr hos hF;cbv
 repeat' first|apply And.intro|(apply bi<;>intro hb<;>cbv)
 all_goals((try subst hos);subst hO hr hF;(try simp only[nc]at*);(try simp only[ai,SS,sa,az]at*))
 all_goals(try simp only[fb,List.cons_append,List.nil_append,b9]at*)
 all_goals first|trivial|(refine⟨by assumption,?_,?_,?_⟩<;>(try simp only[fb,List.cons_append,List.nil_append,aw,Nat.add_zero])<;>omega)|trace_state):p:=h
theorem JI {p:Prop}(h:p:=by
 intro O r F hO hr hF;cbv
 repeat' first|apply And.intro|(apply bi<;>intro hb<;>cbv)
 all_goals(subst hO hr hF;(try simp only[nc]at*);(try simp only[ai,SS,sa,az]at*))
 all_goals(try simp only[fb,List.cons_append,List.nil_append]at*)
 all_goals first|trivial|(exfalso;omega)|(obtain⟨x,y1,y2,y3⟩:=e0;exact⟨x,y1,y2,y3,by omega,by omega⟩)|(refine⟨by assumption,by omega,by omega⟩)|trace_state):p:=h
theorem N5 {p:Prop}(h:p:=by
 try have hct:=cg (es:=es) (n:=i.toNat) (by omega);rw[he]at hct;simp only[cz,dz,Nat.add_zero,Nat.zero_add]at hct
 have hle1:=bF (es:=es) (n:=i.toNat+1)
 simp only[aw,ag,Nat.add_zero]at hsz hsz2
 first|exact ib hwf g0 hlt|exact⟨hr0,by omega,by omega⟩|trivial|omega|(rw[hn,if_pos];omega)|(rw[hn,if_neg (by rw[show i.toNat=es.length from by omega,List.take_length]at g3;omega),show l=left-ag es from by rw[show i.toNat=es.length from by omega,List.take_length]at g3;omega])|(rw[show(i+1).toNat=i.toNat+1 from by omega,hct];omega)|trace_state):p:=h
theorem SB {p:Prop}(h:p:=by
 intro O r F hO hr hF;cbv
 repeat' first|apply And.intro|(apply bi<;>intro hb<;>cbv)|(refine⟨[0,3,4],[],Int×Int,fun s_=>match s_ with|(i,n)=>[.reg 4 (.j i),.reg 3 (.j n)],fun s_=>match s_ with|(i,n)=>0<=i/\i<=16/\n=EA b i.toNat,fun s_=>match s_ with|(i,n)=>(16-i).toNat,⟨(0,0),?_,?_⟩,?_⟩;rotate_left;(focus (cbv;done));intro s_ hi;obtain⟨i,n⟩:=s_;replace hi:0<=i/\i<=16/\n=EA b i.toNat:=hi;obtain⟨i0,i1,i2⟩:=hi;cbv)|(refine ab (O.ar .add .i64 i 1,n) ?_ ?_ ?_;focus (cbv;done))|(refine ab (O.ar .add .i64 i 1,O.ar .add .i64 n 1) ?_ ?_ ?_;focus (cbv;done))
 all_goals(subst hO hr hF;(try simp only[nc]at*);(try simp only[ai,SS,sa,az]at*))
 all_goals(try rw[cp (i:=i) (by omega) (by omega)])
 all_goals first
  | (show(_:List DV)=_
     first
      |exact cM (i2.trans (by rw[show i=16 by omega];rfl))
      |done)
  | (show(_:Int)=_
     first
      |(rw[L3 i0 (by assumption), <-i2])
      |(rw[OU i0 (by assumption), <-i2])
      |exact(rfl:(0:Int)=EA b 0)
      |done)
  |omega
  |exact True.intro
  |exact⟨True.intro,True.intro⟩
  |trace_state):p:=h
theorem SC {p:Prop}(h:p:=by
 (subst hO hr hF;(try simp only[nc]at*);(try simp only[ai,SS,sa,az]at*))
 try rw[cp (by omega) (by omega)]
 try(have hol:out.length=i.toNat:=(by rw[i2,List.length_take];omega))
 try(have hsc:=kO hr9 i0 (by assumption);have hsl:=aP (es:=ax a9 i 0))
 first
  | (show(_:List DV)=_
     first
      |exact rfl
      |(rw[i2,eO (by omega)];rfl)
      |done)
  |omega
  |exact eQ
  |(show aZ _ _=true;kernel_rfl)
  |exact hs5
  |exact hs6
  |exact hs7
  |exact hs8
  |exact⟨hr0,hr1,hr2,hr4,by omega,by omega,by omega,by omega⟩
  |exact⟨hr5,by omega⟩
  |exact⟨hr10,hr11,by omega,by omega⟩
  |exact⟨hr13,by omega⟩
  |exact⟨hr21,by omega⟩
  |exact⟨yP hr9 i0 (by assumption),by omega⟩
  |(simp only[List.length_nil,List.length_cons];omega)
  |(rw[i2];exact(eP hr9 i0 (by assumption)).symm)
  |exact⟨trivial,trivial⟩
  |trivial
  |exact rfl
  |done):p:=h
theorem JK {p:Prop}(h:p:=by
 intro O r os F hO hr hos hF;cbv
 repeat' first|apply And.intro|(apply bi<;>intro hb<;>cbv)
 all_goals((try subst hos);subst hO hr hF;(try simp only[nc]at*);(try simp only[ai,SS,sa,az]at*))
 all_goals(try simp only[fb,List.cons_append,List.nil_append,b9]at*)
 all_goals first|trivial|trace_state):p:=h
theorem SD {p:Prop}(h:p:=by
 (try have z:=Na (by assumption))
 (try have y2:=hp.xn j)
 (try have y1:=hp.bn i)
 (try have z6:bH .add .i64 k 1=k+1:=bA (by omega))
 (try simp only[z6]at*)
 first
  | (show(_:List DV)=_
     first
      |(refine ic ?_;exact Ur (by assumption))
      |(refine ic ?_;exact Ml j2 (by assumption) j1 (by assumption))
      |done)
  |omega
  |exact eQ
  |exact Rw.scal (Rw.sub (fs:=[.sl [tI]]) hxw (by omega) rfl) rfl
  |(have q:=k2.l;constructor<;>(simp only[List.length_cons,List.length_nil];omega))
  |(have q:=j2.l;constructor<;>omega)
  |exact Pg k2 k0
  |exact Mf k2 i0 y1 k1 (by omega)
  |exact TY i2
  |exact T6 i2 i1 (by omega)
  |exact Pm j2 j0 y2
  |exact TX
  |exact⟨True.intro,True.intro⟩
  |done):p:=h
theorem SE {p:Prop}(h:p:=by
 (try simp only[z9]at*)
 first
  | (show(_:List DV)=_
     first
      |(refine aj ?_;symm;exact M7 (by assumption))
      |(refine aj ?_;symm;exact M8 (by assumption))
      |(refine aj ?_;symm;exact Gp i0 (by omega) k0 (by assumption) (Q1 (by assumption)))
      |(refine aj ?_;symm;exact Gp i0 (by omega) k0 (by assumption) (Q2 (by assumption)))
      |(refine aj ?_;symm;exact M9 i0 (by omega) j0 (by assumption) (TJ (by assumption)))
      |(refine aj ?_;rw[M6 i2 (by assumption) (by omega) i1 (by omega)];rfl)
      |done)
  |omega
  |exact eQ
  |(show aZ _ _=true;kernel_rfl)
  |exact bj
  |exact aW k2 (Q3 (by assumption) (by assumption))
  |exact aW j2 (OJ (by assumption))
  |exact Qu i2 i0 k2 (by omega) j2 (by omega)
  |exact UH
  |done):p:=h
theorem SF {p:Prop}(h:p:=by
 (subst hO hr hF;(try simp only[nc]at*);(try simp only[ai,SS,sa,az]at*))
 try rw[cp (by omega) (by omega)]
 try(have hpl:=so (es:=a2) (ss:=a6) (n:=i.toNat);rw[<-i2]at hpl)
 first
  | (show(_:List DV)=_
     first
      |exact yI (by rw[i2,show i.toNat=a6.length by omega];rfl)
      |done)
  | (show(_:aa)=_
     first
      |(rw[Nh i0 (by omega) (by omega), <-i2];rfl)
      |(rw[Qz i0 (by omega), <-i2])
      |exact(rfl:[]=zu a2 a6 0)
      |done)
  |omega
  |(show aZ _ _=true;kernel_rfl)
  |exact eQ
  |exact⟨he,hm⟩
  |(simp[bI,kK,scal];done)
  |(simp only[List.length_cons,List.length_nil];omega)
  |exact⟨True.intro,True.intro⟩
  |exact True.intro
  |trace_state):p:=h
theorem SG {p:Prop}(h:p:=by
 (subst hO hr hF;(try simp only[nc]at*);(try simp only[ai,SS,sa,az]at*))
 try rw[cp (by omega) (by omega)]
 (try have z:=wD i0 (by omega))
 (try simp only[z]at*)
 first
  | (show(_:List DV)=_
     first
      |(refine aj ?_;symm;exact ND i0 (by assumption) (by assumption))
      |(refine aj ?_;symm;exact NE i0 (by assumption) (by assumption) (by assumption))
      |(refine aj ?_;exact NC i2 (by omega))
      |(have q:false=true:=(by assumption);cases q)
      |done)
  |omega
  |exact eQ
  |(show aZ _ _=true;kernel_rfl)
  |exact bj
  |exact aW i2 (Ji (by assumption) (by omega))
  |exact aW i2 (Jj (by assumption) (by assumption))
  |done):p:=h
theorem SH {p:Prop}(h:p:=by
 (subst hO hr hF;(try simp only[nc]at*);(try simp only[ai,SS,sa,az]at*))
 try rw[cp (by omega) (by omega)]
 first|omega|exact eQ|exact bj|contradiction|exact aj (Mh (by assumption)).symm|exact aj (Mi (by omega)).symm|exact aj (Mj i0 (by omega) (by omega)).symm|exact aj (Fp i0 (by omega) k0 (by omega) (.inl (by assumption))).symm|exact aj (Fp i0 (by omega) k0 (by omega) (.inr ⟨by assumption,by assumption⟩)).symm|exact aj (Mk (by assumption) (by omega) i2 (by omega)).symm|exact aW i2 (Pj (by omega) k2 (by omega))|exact aW k2 (OO (by assumption) (by first|exact .inl (by assumption)|exact .inr (by assumption)))|trace_state):p:=h
theorem N6 {p:Prop}(h:p:=by
 try have hct:=cg (es:=es) (n:=i.toNat) (by omega);rw[he]at hct;simp only[cz,dz,Nat.add_zero,Nat.zero_add]at hct
 have hle1:=bF (es:=es) (n:=i.toNat+1)
 have hcE:ag es=es.length+bz es:=rfl
 first|omega|exact ib hwf g0 hlt|trivial|(refine⟨trivial,hr0,?_⟩;simp only[aw,ag,Nat.add_zero];omega)|trace_state):p:=h
theorem SI {p:Prop}(h:p:=by
 (subst hO hr hF;(try simp only[nc]at*);(try simp only[ai,SS,sa,az]at*))
 try rw[cp (by omega) (by omega)]
 try(have hpl:=yE (es:=es) (f:=f) (n:=i.toNat);rw[<-i2]at hpl)
 first|omega|exact eQ|(exact⟨trivial,trivial⟩)|rfl|(simp only[List.length_cons,List.length_nil];omega)|(rw[Ja i0 (by assumption) (by assumption), <-i2])|(rw[G3 i0 (.inl (by assumption)), <-i2])|(rw[G3 i0 (.inr (by assumption)), <-i2])|exact yI (by rw[i2,show i.toNat=es.length from by omega];rfl)|trace_state):p:=h
theorem SJ {p:Prop}(h:p:=by
 intro O r F hO hr hF;cbv
 repeat' first|apply And.intro|(apply bi<;>intro hb<;>cbv)
 all_goals(subst hO hr hF;(try simp only[nc]at*);(try simp only[ai,SS,sa,az]at*))
 all_goals first
  | (show(_:List DV)=_
     first
      |(have z:=UR (by assumption);exact BP z.1.symm z.2.1.symm z.2.2.symm (by assumption:mshB p k b q l c=false).symm)
      |(have z:=UP (by assumption) (by omega);exact BP z.1.symm z.2.1.symm z.2.2.symm (by assumption:mshB p k b q l c=true).symm)
      |(have z:=UQ (by assumption) (by omega);exact BP z.1.symm z.2.1.symm z.2.2.symm (by assumption:mshB p k b q l c=true).symm)
      |done)
  |(show aZ _ _=true;kernel_rfl)
  |exact True.intro
  |exact⟨True.intro,True.intro⟩
  |done):p:=h
theorem SK {p:Prop}(h:p:=by
 intro O r F hO hr hF;cbv
 repeat' first|apply And.intro|(apply bi<;>intro hb<;>cbv)
 all_goals(subst hO hr hF;(try simp only[nc]at*);(try simp only[ai,SS,sa,az]at*))
 all_goals first
  | (show(_:List DV)=_
     first
      |exact lm (Ix (OV (by assumption))).1.symm (Ix (OV (by assumption))).2.symm
      |exact lm (Ix (OW (by assumption))).1.symm (Ix (OW (by assumption))).2.symm
      |exact lm (OX (by assumption) (by assumption)).1.symm (OX (by assumption) (by assumption)).2.symm
      |done)
  |(show aZ _ _=true;kernel_rfl)
  |exact True.intro
  |exact⟨True.intro,True.intro⟩
  |omega
  |(have q:=bE.1 (by assumption:inR n 1 1000=true);omega)
  |done):p:=h
theorem SL {p:Prop}(h:p:=by
 intro O r F hO hr hF;cbv
 repeat' first|apply And.intro|(apply bi<;>intro hb<;>cbv)
 all_goals(subst hO hr hF;(try simp only[nc]at*);(try simp only[ai,SS,sa,az]at*))
 all_goals(try simp only[hsb]at*)
 all_goals(try simp only[bE,uA]at*)
 all_goals first|exact JV (K0 (by omega)).1.symm (K0 (by omega)).2.symm|exact JV (GZ (by omega)).1.symm (GZ (by omega)).2.symm|exact eQ|trace_state):p:=h
theorem SN {p:Prop}(h:p:=by
 intro O r F hO hr hF;cbv
 repeat' first|apply And.intro|(apply bi<;>intro hb<;>cbv)
 all_goals(subst hO hr hF;(try simp only[nc]at*);(try simp only[ai,SS,sa,az]at*))
 all_goals first
  | (show(_:List DV)=_
     first
      |(have z:=Uw (by assumption);exact FO z.1.symm z.2.1.symm z.2.2.symm rfl rfl (by assumption:plOk k m cs=false).symm)
      |(have z:=Ux (by assumption);exact FO z.1.symm z.2.1.symm z.2.2.symm rfl rfl (by assumption:plOk k m cs=true).symm)
      |done)
  |(show aZ _ _=true;kernel_rfl)
  |exact True.intro
  |exact⟨True.intro,True.intro⟩
  |exact⟨hw,hl⟩
  |done):p:=h
theorem SO {p:Prop}(h:p:=by
 intro O r F hO hr hF;cbv
 repeat' first|apply And.intro|(apply bi<;>intro hb<;>cbv)
 all_goals(subst hO hr hF;(try simp only[nc]at*);(try simp only[ai,SS,sa,az]at*))
 all_goals(try simp only[fb,List.cons_append,List.nil_append]at*)
 all_goals first|trivial|(exfalso;omega)|(obtain⟨x,y1,y2,y3⟩:=e0;exact⟨x,y1,y2,y3,by omega,by omega⟩)|(obtain⟨x,y1,y2,y3⟩:=e1;exact⟨x,y1,y2,y3,by omega,by omega⟩)|(refine⟨by assumption,by omega,by omega⟩)|(refine⟨by assumption,by assumption,by omega,by omega⟩)|trace_state):p:=h
theorem SP {p:Prop}(h:p:=by
 intro O r F hO hr hF;cbv
 repeat' first|apply And.intro|(apply bi<;>intro hb<;>cbv)
 all_goals(subst hO hr hF;(try simp only[nc]at*);(try simp only[ai,SS,sa,az]at*))
 all_goals try(have hs:=Vm.1 (‹slB b i=true›);have hw:=HT hs.2.1 hs.2.2;simp only[hw]at*)
 all_goals first
  | (show(_:List DV)=_
     first
      |exact aj (PP (by assumption)).symm
      |(refine aj (eh ?_);unfold hsB;rw[show slB b i=true from by assumption,Bool.true_and,decide_eq_true_eq];simp only[SS])
      |done)
  |omega
  |trace_state):p:=h
theorem SQ {p:Prop}(h:p:=by
 intro O r F hO hr hF;cbv
 repeat' first|apply And.intro|(apply bi<;>intro hb<;>cbv)
 all_goals(subst hO hr hF;(try simp only[nc]at*);(try simp only[ai,SS,sa,az]at*))
 all_goals(try simp only[hsb]at*)
 all_goals first
  | (show(_:List DV)=_
     first
      |exact aj (PQ (by assumption)).symm
      |exact aj (PR (by assumption)).symm
      |exact aj (PS (by assumption)).symm
      |exact aj (PU (by assumption)).symm
      |done)
  |exact hp
  |(show aZ _ _=true;kernel_rfl)
  |exact True.intro
  |done):p:=h
theorem SR {p:Prop}(h:p:=by
 (subst hO hr hF;(try simp only[nc]at*);(try simp only[ai,SS,sa,az]at*))
 try rw[cp (by omega) (by omega)]
 first|omega|exact eQ|exact bj|contradiction|exact aj (NU i2 (by omega)).symm|(simp only[bE,uA]at*;first|exact aj (Sc i0 (by omega) (by omega)).symm|exact aW i2 (R9 (by omega)))|trace_state):p:=h
theorem SU {p:Prop}(h:p:=by
 intro O r F hO hr hF;cbv
 repeat' first|apply And.intro|(apply bi<;>intro hb<;>cbv)
 all_goals(subst hO hr hF;(try simp only[nc]at*);(try simp only[ai,SS,sa,az]at*))
 all_goals first
  | (show(_:List DV)=_
     first
      |exact cM (UJ (by assumption)).symm
      |exact cM (UI (by assumption)).symm
      |done)
  |(show aZ _ _=true;kernel_rfl)
  | (show(_:Int)≠0
     decide)
  |omega
  |exact True.intro
  |done):p:=h
theorem SV {p:Prop}(h:p:=by
 (subst hO hr hF;(try simp only[nc]at*);(try simp only[ai,SS,sa,az]at*))
 try rw[cp (by omega) (by omega)]
 first|(show(_:List DV)=_;exact cM (Nz i2 i1 (by omega)))|omega|exact eQ|exact UT|exact Ro i2 i0 (by omega)|done):p:=h
theorem SX {p:Prop}(h:p:=by
 intro O r F hO hr hF;cbv
 repeat' first|apply And.intro|(apply bi<;>intro hb<;>cbv)
 all_goals(subst hO hr hF;(try simp only[nc]at*);(try simp only[ai,SS,sa,az]at*))
 all_goals(try have t:=bE.1 hb)
 all_goals(try have z:bH .sub .i64 n l=n-l:=cB (by omega))
 all_goals(try simp only[z]at*)
 all_goals first|(show(_:List DV)=_;refine aj ?_;unfold rngIn;simp[hb];done)|done):p:=h
theorem SY {p:Prop}(h:p:=by
 (try simp only[bE,uA]at*)
 (try rw[cp (by omega) (by omega)])
 first|trivial|omega|exact J9 (by omega) (by assumption) (by omega)|(have:=J9 (k:=k) (s:=s) (by omega) (by assumption) (by omega);omega)|exact cM (OP (by omega)).symm|exact cM (L2 (by omega) (by assumption) (by omega) (by assumption)).symm|exact .inl trivial|(rw[show k+1-1=k by omega];exact .inr (by assumption))|trace_state):p:=h
theorem SZ {p:Prop}(h:p:=by
 intro O r F hO hr hF;cbv
 repeat' first|apply And.intro|(apply bi<;>intro hb<;>cbv)
 all_goals(subst hO hr hF;(try simp only[nc]at*);(try simp only[ai,SS,sa,az]at*))
 all_goals first
  | (show(_:List DV)=_
     first
      |exact yI (Fo (by assumption)).symm
      |exact yI (CE (by assumption)).symm
      |done)
  |exact⟨hw,hn⟩
  |exact hw
  |exact⟨True.intro,True.intro⟩
  |trace_state):p:=h
theorem S5 {p:Prop}(h:p:=by
 intro O r F hO hr hF;cbv
 repeat' first|apply And.intro|(apply bi<;>intro hb<;>cbv)
 all_goals(subst hO hr hF;(try simp only[nc]at*);(try simp only[ai,SS,sa,az]at*))
 all_goals first
  | (show(_:List DV)=_
     first
      |exact aj (by unfold slB;rw[decide_eq_true (by assumption)];rfl)
      |exact aj (by unfold slB;rw[decide_eq_false (by omega)];rfl)
      |done)
  |trace_state):p:=h
theorem S6 {p:Prop}(h:p:=by
 intro O r F hO hr hF;cbv
 repeat' first|apply And.intro|(apply bi<;>intro hb<;>cbv)
 all_goals(subst hO hr hF;(try simp only[nc]at*);(try simp only[ai,SS,sa,az]at*))
 all_goals first|(show aZ _ _=true;kernel_rfl)|exact hs|exact⟨hc,hu,he,hn,hm,hk⟩|exact⟨hr,by omega⟩|exact⟨trivial,trivial⟩|trivial|(simp only[List.length_nil];omega)|exact rfl|done):p:=h
theorem S7 {p:Prop}(h:p:=by
 intro O r F hO hr hF;cbv
 repeat' first|apply And.intro|(apply bi<;>intro hb<;>cbv)
 all_goals(subst hO hr hF;(try simp only[nc]at*);(try simp only[ai,SS,sa,az]at*))
 all_goals first|(show(_:List DV)=_;refine aj ?_;unfold mshB;simp[*];done)|(show(_:List DV)=_;refine aj ?_;unfold mshB;subst_vars;rw[cmp_eq];simp[*];done)|done):p:=h
theorem S8 {p:Prop}(h:p:=by
 intro O r F hO hr hF;cbv
 repeat' first|apply And.intro|(apply bi<;>intro hb<;>cbv)
 all_goals(subst hO hr hF;(try simp only[nc]at*);(try simp only[ai,SS,sa,az]at*))
 all_goals iterate 1 (try simp(disch:=assumption) only[gU,List.cons_append,List.nil_append]at*)
 all_goals first|trivial|(rw[gC (by assumption)])|trace_state):p:=h
theorem S9 {p:Prop}(h:p:=by
 intro O r F hO hr hF;cbv
 repeat' first|apply And.intro|(apply bi<;>intro hb<;>cbv)
 all_goals(subst hO hr hF;(try simp only[nc]at*);(try simp only[ai,SS,sa,az]at*))
 all_goals iterate 2 (try simp(disch:=assumption) only[gU,List.cons_append,List.nil_append]at*)
 all_goals first|trivial|(rw[gC (by assumption)])|trace_state):p:=h
theorem Tc {p:Prop}(h:p:=by
 intro O r F hO hr hF;cbv
 repeat' first|apply And.intro|(apply bi<;>intro hb<;>cbv)
 all_goals(subst hO hr hF;(try simp only[nc]at*);(try simp only[ai,SS,sa,az]at*))
 all_goals first|(show aZ _ _=true;kernel_rfl)|exact⟨hc,hu,hn,hm⟩|exact⟨he,by omega⟩|exact⟨trivial,trivial⟩|trivial|exact rfl|trace_state):p:=h
theorem Td {p:Prop}(h:p:=by
 intro O r F hO hr hF;cbv
 repeat' first|apply And.intro|(apply bi<;>intro hb<;>cbv)
 all_goals(subst hO hr hF;(try simp only[nc]at*);(try simp only[ai,SS,sa,az]at*))
 all_goals first
  | (show(_:List DV)=_
     first
      |exact cM (Nt (by assumption))
      |exact cM (K1 (by assumption)).symm
      |done)
  |omega
  |done):p:=h
theorem N7 {p:Prop}(h:p:=by
 (subst hO hr hF;(try simp only[nc]at*);(try simp only[ai,SS,sa,az]at*))
 (try simp only[hs]at*)
 first|trivial|(rw[hn,if_pos (by omega)])|trace_state):p:=h
theorem Te {p:Prop}(h:p:=by
 intro O r F hO hr hF;cbv
 repeat' first|apply And.intro|(apply bi<;>intro hb<;>cbv)
 all_goals(subst hO hr hF;(try simp only[nc]at*);(try simp only[ai,SS,sa,az]at*))
 all_goals first
  | (show(_:List DV)=_
     first
      |exact cM (Qe (by assumption))
      |exact cM (Qf (by assumption)).symm
      |done)
  |done):p:=h
theorem Tf {p:Prop}(h:p:=by
 intro O r F hO hr hF;cbv
 repeat' first|apply And.intro|(apply bi<;>intro hb<;>cbv)
 all_goals(subst hO hr hF;(try simp only[nc]at*);(try simp only[ai,SS,sa,az]at*))
 all_goals first
  | (show(_:List DV)=_
     first
      |exact aj (eh (by unfold eqB;simp only[SS,decide_eq_true_eq]))
      |done)
  |done):p:=h
theorem Tg {p:Prop}(h:p:=by
 intro O r F hO hr hF;cbv
 repeat' first|apply And.intro|(apply bi<;>intro hb<;>cbv)
 all_goals(subst hO hr hF;(try simp only[nc]at*);(try simp only[ai,SS,sa,az]at*))
 all_goals first|trivial|(refine⟨trivial,by assumption,?_⟩;(try simp only[aw,Nat.add_zero]);omega)|trace_state):p:=h
theorem Ti {p:Prop}(h:p:=by
 intro O r F hO hr hF;cbv
 repeat' first|apply And.intro|(apply bi<;>intro hb<;>cbv)
 all_goals(subst hO hr hF;(try simp only[nc]at*);(try simp only[ai,SS,sa,az]at*))
 all_goals first|trivial|(refine⟨by assumption,?_⟩;(try simp only[aw,Nat.add_zero]);omega)|trace_state):p:=h
theorem Tj {p:Prop}(h:p:=by
 intro O r F hO hr hF;cbv
 repeat' first|apply And.intro|(apply bi<;>intro hb<;>cbv)
 all_goals(subst hO hr hF;(try simp only[nc]at*);(try simp only[ai,SS,sa,az]at*))
 all_goals first|exact hp|(show(_:List DV)=_;refine aj ?_;unfold jbOk;simp[*];done)|done):p:=h
theorem Tl {p:Prop}(h:p:=by
 first|trivial|(refine⟨by assumption,by omega,by first|omega|exact Int.le_trans (vm (by assumption)) h1⟩)|(rw[gC (by assumption)])|exact congrArg (fun x=>[DV.one (L.v (Value.int IntKind.i64 x))]) (dQ (a:=[a0]) (b:=[a1]) (by assumption)).symm|trace_state):p:=h
theorem Tm {p:Prop}(h:p:=by
 intro O r F hO hr hF;cbv
 repeat' first|apply And.intro|(apply bi<;>intro hb<;>cbv)
 all_goals(subst hO hr hF;(try simp only[nc]at*);(try simp only[ai,SS,sa,az]at*))
 all_goals first|exact hp|exact rfl|done):p:=h
theorem Tn {p:Prop}(h:p:=by
 intro O r F hO hr hF;cbv
 repeat' first|apply And.intro|(apply bi<;>intro hb<;>cbv)
 all_goals(subst hO hr hF;(try simp only[nc]at*);(try simp only[ai,SS,sa,az]at*))
 all_goals first|exact rfl|done):p:=h
theorem To {p:Prop}(h:p:=by
 repeat' first|apply And.intro|(apply bi<;>intro hb<;>cbv)
 all_goals(subst hO hr hF;(try simp only[nc]at*);(try simp only[ai,SS,sa,az]at*))
 all_goals first|trivial|exact rfl):p:=h
theorem Tp {p:Prop}(h:p:=by
 first|exact cM (OS (by assumption)).symm|(refine cM ?_;rw[J8 (by assumption)])|(rw[bE]at*;omega)|trace_state):p:=h
theorem eQ {p:Prop}(h:p:=by
 refine⟨by omega,by omega,(Rw.eta (by first|assumption|exact Rw.sub (by first|assumption|exact Rw.sub (by assumption) (by omega) rfl) (by omega) rfl) (by omega) (by omega)).trans ?_⟩;rfl):p:=h
end Go.V