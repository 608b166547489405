/-
  A condition generator for functions on trees of data, part 5 of 5: values in memory, contracts, soundness.
-/
import Derived.Test.YtbedjnlfdopeeaaGreatVD
set_option linter.all false
open Go
open Bool renaming and_eq_true->Zc
open Code renaming wp_mono->YN
open Ending renaming returned->X7
open Int renaming ofNat->WJ,le_refl->Yj,natCast_nonneg->Vz
open List renaming range'->Y6,ext_getElem?->ZO,getElem?_map->ZF,getElem?_range'->Vy,getD->Zz,getElem?_eq_none->ZY,mem_append->Zf,all_eq_true->Z9,mem_of_getElem?->Zw,getElem?_eq_some_iff->ZC,range->Zq,getElem?_eq_getElem->Zv,getElem?_of_mem->YM,getD_eq_getElem?_getD->Zo,length_take->Zk,getElem?_append_right->ZQ,drop_eq_getElem_cons->Xy,take_append_drop->ZP,all_cons->XZ
open Nat renaming beq->ZL,ble->YU,le_of_ble_eq_true->YW,lt_or_ge->Z3,add_assoc->YD,le_trans->ZX,mul_le_mul_left->X8,mul_add->VA
open Option renaming map_some->Yh,getD_some->ZZ
namespace Go.V
def C9 {α:Type}(pr:(Unit->Prop)->Prop)(r:Nat):Nat->List H->(List H->Rd α)->Rd α
 |_,[],k=>k []
 | j,h0::hs,k=>iD r j fun h=>match h.c with
   | .own l=>C9 pr r (j+1) hs fun cs=>k (.own l::cs)
   | .ro l=>match h0 with
     | .ro l0=>match h.org with
       |some i=>if ZL i (r*1000+j)then .req (pr fun _=>l=l0) (C9 pr r (j+1) hs fun cs=>k (.ro l0::cs))else .fail
       |none=>.fail
     |_=>.fail
   | .gone=>.fail
def Nm {α:Type}(pr:(Unit->Prop)->Prop)(os:Nat->List H):List (Nat×List H)->Nat->Rd α->Rd α
 |[],_,k=>k
 |(r,hs)::m,i,k=>C9 pr r 0 hs fun cs=>.req (pr fun _=>cs=os i) (Nm pr os m (i+1) k)
def Kk (T:BL)(O:Fw)(ts:List TypeId)(rvs:List ResultVar)(m:List (Nat×List H))(σ:VS)(res:List DV)(os:Nat->List H):Prop:=
 (A9 T O ts rvs fun ds srcs=>if bj srcs&&srcs.all (fun s=>m.all fun q=> !(s.1.beq q.1))then .req (O.pr fun _=>ds=res) (Nm O.pr os m 0 (.ret ()))else .fail).wpU (get σ) [] fun _ _=>True
def acU (T:BL)(O:Fw)(ts:List TypeId)(rvs:List ResultVar)(m:List (Nat×List H))(res:List DV)(os:Nat->List H):Ex->VS->Prop
 | .normal,σ=>Kk T O ts rvs m σ res os
 | .ret,σ=>Kk T O ts rvs m σ res os
 | .exit _,_=>False
section
variable {P: Program} {T: BL} {cx: Cx} {G: Gh} {g: Gm} {a: Act} {w: World}
theorem Po (fz:List (Nat×List Nat))(hT:bM P T){Φ:Type}{F0:Φ}{ctF:Φ->CT}{mtF:Φ->MT}{ptF:Φ->PT}{ntF:Φ->NT}{otF:Φ->OT}(hct:Dr P (ctF F0))(hmt:Hj P (mtF F0))(hpt:Hn P (ptF F0))(hnw:Hk P (ntF F0))(hot:Hl P (otF F0))(hm:P.follows .mixedOrders=true){f:FuncId}{fn:Func}{ds res:List DV}(n:Nat)(c:Code)(ts:List TypeId)(rvs:List ResultVar) 
 (hf:P.funcs[f]?=some fn) (hb:fn.body=some c) (hnt:fn.ntmps=n) (hts:fn.resultTypes.toList=ts) (hrv:fn.results.toList=rvs) (hn:YU ds.length n=true)
 (h:∀ O r F,O=ah->r=res->F=F0->ry T O ⟨ctF F,mtF F,ptF F,ntF F,otF F⟩ n [] fz c (Pv T O ts rvs r) (lG 0 ds)):K2 P f ds res:=by
 subst hnt hts hrv;replace h:=h ah res F0 rfl rfl rfl;replace hn:=YW hn;intro w vs hargs;refine calls_of_wp hf hb ?_;refine YN ?_ (dE (fz:=fz) (cx:=⟨fn.ntmps,w,fun _=>True,fun _=>undef,fun _=>none,fun _=>0,fun _=>True⟩) (fun _ _=>trivial) hT (ct:=⟨ctF F0,mtF F0,ptF F0,ntF F0,otF F0⟩) ⟨hct,hmt,hpt,hnw,hot⟩ hm rfl (an:=[]) (fun r x e=>by cases e) c _ _ _ w h (Gc fn.ntmps w ds vs hargs hn));rintro e a' w' ⟨ex,σ',rfl,hq',G,hS⟩;have hq:Dp T ah fn.resultTypes.toList fn.results.toList σ' res:=by
  cases ex with
  |normal=>exact hq'
  |ret=>exact hq'
  |exit i=>exact hq'.elim
 have hex:ex=.normal\/ex=.ret:=by
  cases ex with
  |normal=>exact .inl rfl
  |ret=>exact .inr rfl
  |exit i=>exact hq'.elim
 unfold Dp at hq;obtain⟨ls,u,t,h1,_⟩:=Rd.wpU_runs hq;obtain⟨ds',vs',srcs,S,ls',k1,k2,k3,k4,k5⟩:=ko hS _ _ _ _ _ (mT hT (fun _ _ _ h=>h) h1);split at k5
 case isFalse=>exact k5.elim
 rename_i hd;simp only[Rd.Runs]at k5;have hres0:ds'=res:=k5.1;subst hres0;obtain⟨v,hrun,hres⟩:=rL k1 k2;have hfresh:∀ b∈S,w.heap.size<=b/\fh w' b:=by
  intro b hb;obtain⟨u,r,j,m1,m2⟩:=k4 b hb;refine⟨?_,u⟩;rcases Z3 b w.heap.size with hlt|hge
  ·rcases hS.frow b hlt trivial with e|e<;>rw[m2]at e<;>cases e
  ·exact hge
 have fin:a'.defers=[]/\∃ v,(results fn a'.tmps).run P w'=.ok v w'/\∃ v' S,X7 v=.returned v'/\kh w' ds' v' S/\S.Nodup/\(∀ b∈S,w.heap.size<=b/\fh w' b)/\Same (fun _=>True) w w':=
  ⟨hS.defers,_,hrun,_,S,rfl,hres,k3 hd,hfresh,hS.frame⟩
 rcases hex with rfl|rfl;exact fin;exact fin
theorem PZ (hT:bM P T){Φ:Type}{F0:Φ}{ctF:Φ->CT}{mtF:Φ->MT}{ptF:Φ->PT}{ntF:Φ->NT}{otF:Φ->OT}(hct:Dr P (ctF F0))(hmt:Hj P (mtF F0))(hpt:Hn P (ptF F0))(hnw:Hk P (ntF F0))(hot:Hl P (otF F0))(hm:P.follows .mixedOrders=true){f:FuncId}{fn:Func}{ds res:List DV}{outs:ay}(n:Nat)(c:Code)(ts:List TypeId)(rvs:List ResultVar)(locs:List (Nat×Nat)) 
 (hf:P.funcs[f]?=some fn) (hb:fn.body=some c) (hnt:fn.ntmps=n) (hts:fn.resultTypes.toList=ts) (hrv:fn.results.toList=rvs) (hn:YU ds.length n=true) (hlo:(ds.flatMap fun d=>slL (aR d)).length=outs.length) (hlo2:locs.length=outs.length)
 (h:∀ O r os F,O=ah->r=res->os=(fun i=>outs.getD i .g)->F=F0->ry T O ⟨ctF F,mtF F,ptF F,ntF F,otF F⟩ n [] [] c (acT T O ts rvs locs r os) (Jl O ds)):Fu P f ds outs res:=by
 subst hnt hts hrv;replace h:=h ah res _ F0 rfl rfl rfl rfl;replace hn:=YW hn;intro w vs S hr hnd hunf;refine calls_of_wp hf hb ?_;refine YN ?_ (dE (fz:=[]) (cx:=⟨fn.ntmps,w,fun b=>b∉S,fun i=>(dH ds vs).getD i undef,fun _=>none,fun _=>0,fun _=>True⟩) (fun q=>absurd rfl q) hT (ct:=⟨ctF F0,mtF F0,ptF F0,ntF F0,otF F0⟩) ⟨hct,hmt,hpt,hnw,hot⟩ hm rfl (an:=[]) (fun r x e=>by cases e) c _ _ _ w h (KB fn.ntmps w ds vs S hr hnd hunf hn));rintro e a' w' ⟨ex,σ',rfl,hq',G,hS⟩;have hq:Kj T ah fn.resultTypes.toList fn.results.toList locs σ' res (fun i=>outs.getD i .g):=by
  cases ex with
  |normal=>exact hq'
  |ret=>exact hq'
  |exit i=>exact hq'.elim
 have hex:ex=.normal\/ex=.ret:=by
  cases ex with
  |normal=>exact .inl rfl
  |ret=>exact .inr rfl
  |exit i=>exact hq'.elim
 unfold Kj at hq;obtain⟨ls,u,t,h1,_⟩:=Rd.wpU_runs hq;obtain⟨ds',vs',srcs,Sr,ls',k1,k2,k3,k4,k5⟩:=ko hS _ _ _ _ _ (mT hT (fun _ _ _ h=>h) h1);split at k5
 case isFalse=>exact k5.elim
 rename_i hd;obtain⟨hres0,k5⟩:=k5;have hres0:ds'=res:=hres0;subst hres0;obtain⟨d1,d2,d3⟩:=cV hd;obtain⟨o1,o2⟩:=wH hS locs 0 _ _ k5;rw[hlo2]at o2;have houts:(Y6 0 outs.length).map (fun i=>outs.getD i .g)=outs:=by
  apply ZO;intro i;rw[ZF];by_cases c:i<outs.length
  ·rw[Vy c];simp[Zz,c]
  ·rw[ZY (by simp;omega),ZY (by omega)];rfl
 rw[houts]at o2;obtain⟨f1,f2⟩:=wz hS d2 o1;have hanc:(Y6 0 outs.length).map (fun i=>(dH ds vs).getD i undef)=dH ds vs:=by
  have hl:=qv hr;rw[hlo]at hl;rw[<-hl];apply ZO;intro i;rw[ZF];by_cases c:i<(dH ds vs).length
  ·rw[Vy c];simp[Zz,c]
  ·rw[ZY (by simp;omega),ZY (by omega)];rfl
 have o2:am w' outs (dH ds vs) (oP G locs):=by rw[<-hanc];exact o2
 obtain⟨v,hrun,hres⟩:=rL k1 k2;have tokL:∀ b∈oP G locs,fh w' b/\∃ r j,(r,j)∈locs/\G.ow b=some (.leaf r j):=by
  intro b hb;obtain⟨p,hp,hbp⟩:=CS hb;obtain⟨h,sz,es,e1,e2⟩:=o1 p hp;have:=hS.hok (av.2 e1);simp only[eG,e2]at this;exact⟨(this.2.2 b hbp).2,p.1,p.2,hp,(this.2.2 b hbp).1⟩
 have own:∀ b r j,fh w' b->G.ow b=some (.leaf r j)->fh w' b/\(w.heap.size<=b\/b∈S):=by
  intro b r j hu ht;refine⟨hu,?_⟩;rcases Z3 b w.heap.size with hlt|hge
  ·by_cases c:b∈S;exact .inr c
   ·rcases hS.frow b hlt c with e|e<;>rw[ht]at e<;>cases e
  ·exact .inl hge
 have fin:a'.defers=[]/\∃ v,(results fn a'.tmps).run P w'=.ok v w'/\∃ v' Sr S',X7 v=.returned v'/\kh w' ds' v' Sr/\am w' outs (dH ds vs) S'/\(Sr++S').Nodup/\(∀ b∈Sr++S',fh w' b/\(w.heap.size<=b\/b∈S))/\Same (fun b=>b∉S) w w':=by
  refine⟨hS.defers,_,hrun,_,Sr,oP G locs,rfl,hres,o2,?_,?_,hS.frame⟩
  ·refine List.nodup_append.2 ⟨k3 d1,f1,fun x hx y hy e=>?_⟩;subst e;obtain⟨_,r,j,m1,m2⟩:=k4 x hx;obtain⟨_,r',j',m3,m4⟩:=tokL x hy;rw[m2]at m4;cases m4;exact d3 _ m1 m3
  ·intro b hb;rcases Zf.1 hb with q|q
   ·obtain⟨hu,r,j,_,m2⟩:=k4 b q;exact own b r j hu m2
   ·obtain⟨hu,r,j,_,m2⟩:=tokL b q;exact own b r j hu m2
 rcases hex with rfl|rfl;exact fin;exact fin
theorem qZ {α:Type}{r:Nat}:∀ (hs:List H) (j:Nat) (k:List H->Rd α) (ls:List Loc) (out:α),(C9 oZ r j hs k).Runs g ls out->
 ∃ cs ls',(k cs).Runs g ls' out/\cs.length=hs.length/\∀ (i:Nat) c,cs[i]?=some c->∃ hv,g (.leaf r (j+i))=some (.h hv)/\hv.c=c/\(match c with
  | .own _=>True
  | .ro l=>hs[i]?=some (.ro l)/\hv.org=some (r*1000+(j+i))
  | .gone=>False)
 |[],j,k,ls,out,h=>⟨[],ls,h,rfl,fun i c e=>by simp at e⟩
 | h0::hs,j,k,ls,out,h=>by
   obtain⟨hv,ls2,_,q2,hk⟩:=bD (k:=fun hh=>match hh.c with
    | .own l=>C9 oZ r (j+1) hs fun cs=>k (.own l::cs)
    | .ro l=>match(generalizing:=false) h0 with
      | .ro l0=>match hh.org with
        |some i=>if ZL i (r*1000+j)then .req (oZ fun _=>l=l0) (C9 oZ r (j+1) hs fun cs=>k (.ro l0::cs))else .fail
        |none=>.fail
      |_=>.fail
    | .gone=>.fail) h
   cases hc:hv.c with
   |gone=>simp[hc,Rd.Runs]at hk
   | own l=>
     simp only[hc]at hk;obtain⟨cs,ls3,e1,e2,e3⟩:=qZ hs (j+1) _ _ _ hk;refine⟨_,ls3,e1,by simp[e2],fun i c e=>?_⟩;cases i with
     |zero=>simp at e;subst e;exact⟨hv,q2,hc,trivial⟩
     | succ i=>
       simp at e;obtain⟨hv',k1,k2,k3⟩:=e3 i c e;refine⟨hv',by rw[show j+(i+1)=j+1+i from by omega];exact k1,k2,?_⟩;cases c with
       |own l=>trivial
       |ro l=>exact⟨by simpa using k3.1,by rw[show j+(i+1)=j+1+i from by omega];exact k3.2⟩
       |gone=>exact k3
   | ro l=>
     simp only[hc]at hk;cases h0 with
     |own l0=>exact hk.elim
     |gone=>exact hk.elim
     | ro l0=>
       simp only at hk;cases ho:hv.org with
       |none=>simp[ho,Rd.Runs]at hk
       | some i0=>
         simp only[ho]at hk;split at hk
         ·rename_i hb;have hi:=Nat.eq_of_beq_eq_true hb;obtain⟨hl,hk⟩:=hk;have hl:l=l0:=hl;subst hl hi;obtain⟨cs,ls3,e1,e2,e3⟩:=qZ hs (j+1) _ _ _ hk;refine⟨_,ls3,e1,by simp[e2],fun i c e=>?_⟩;cases i with
          |zero=>simp at e;subst e;exact⟨hv,q2,hc,by simp,ho⟩
          | succ i=>
            simp at e;obtain⟨hv',k1,k2,k3⟩:=e3 i c e;refine⟨hv',by rw[show j+(i+1)=j+1+i from by omega];exact k1,k2,?_⟩;cases c with
            |own l=>trivial
            |ro l=>exact⟨by simpa using k3.1,by rw[show j+(i+1)=j+1+i from by omega];exact k3.2⟩
            |gone=>exact k3
         ·exact hk.elim
theorem wG {α:Type}{os:Nat->List H}:∀ (m:List (Nat×List H)) (i:Nat) (k:Rd α) (ls:List Loc) (out:α),(Nm oZ os m i k).Runs g ls out->
 ∀ (n r:Nat) hs,m[n]?=some (r,hs)->(os (i+n)).length=hs.length/\∀ (j:Nat) c,(os (i+n))[j]?=some c->∃ hv,g (.leaf r j)=some (.h hv)/\hv.c=c/\(match c with
  | .own _=>True
  | .ro l=>hs[j]?=some (.ro l)/\hv.org=some (r*1000+j)
  | .gone=>False)
 |[],i,k,ls,out,h=>fun n r hs e=>by simp at e
 | (r0,hs0)::m,i,k,ls,out,h=>by
  obtain⟨cs,ls2,h1,h2,h3⟩:=qZ _ _ _ _ _ h;obtain⟨he,h1⟩:=h1;have he:cs=os i:=he;intro n r hs e;cases n with
  | zero=>
    simp at e;obtain⟨rfl,rfl⟩:=e;rw[Nat.add_zero, <-he];refine⟨h2,fun j c hc=>?_⟩;have:=h3 j c hc
    simpa using this
  | succ n=>
    simp at e;have:=wG m (i+1) k _ _ h1 n r hs e;rw[show i+(n+1)=i+1+n from by omega];exact this
theorem qY {w:World}{ok:Nat->Prop}:∀ {ds:List DV} {vs:List Value} {ps:List gL} {p k:Nat} {q:gL},gV w ok ds vs ps->ps[k]?=some q->∃ r,(mpL p ds)[k]?=some (r,q.hs)
 |[],vs,ps,p,k,q,h,e=>by simp only[gV]at h;rw[h.2]at e;simp at e
 | d::ds,vs,ps,p,k,q,h,e=>by
   cases d with
   | mp hs=>
     obtain⟨p0,ps',vs',rfl,rfl,e0,h⟩:=h;cases k with
     |zero=>simp at e;subst e;exact⟨p,by simp[mpL,e0]⟩
     |succ k=>simp at e;obtain⟨r,hr⟩:=qY (p:=p+1) h e;exact⟨r,by simpa[mpL]using hr⟩
   |one l=>obtain⟨v,vs',S,rfl,_,_,h⟩:=h;exact qY (p:=p+1) h e
   |agg l=>obtain⟨v,vs',S,rfl,_,_,h⟩:=h;exact qY (p:=p+1) h e
   |ptr l=>obtain⟨v,vs',S,rfl,_,_,h⟩:=h;exact qY (p:=p+1) h e
   |fn f l=>obtain⟨v,vs',S,rfl,_,_,h⟩:=h;exact qY (p:=p+1) h e
open Classical in
theorem Nu (al:Bool)(hT:bM P T){Φ:Type}{F0:Φ}{ctF:Φ->CT}{mtF:Φ->MT}{ptF:Φ->PT}{ntF:Φ->NT}{otF:Φ->OT}(hct:Dr P (ctF F0))(hmt:Hj P (mtF F0))(hpt:Hn P (ptF F0))(hnw:Hk P (ntF F0))(hot:Hl P (otF F0))(hm:P.follows .mixedOrders=true){f:FuncId}{fn:Func}{ds res:List DV}{outs:List (List H)}(n:Nat)(c:Code)(ts:List TypeId)(rvs:List ResultVar) 
 (hf:P.funcs[f]?=some fn) (hb:fn.body=some c) (hnt:fn.ntmps=n) (hts:fn.resultTypes.toList=ts) (hrv:fn.results.toList=rvs) (hn:YU ds.length n=true) (hlo:(mpL 0 ds).length=outs.length) (hl0:(mpL 0 ds).all (fun q=>q.2.length.ble 999)=true) (hl1:al=true->(mpL 0 ds).all (fun q=>q.1.ble 999)=true)
 (h:∀ O r os F,O=ah->r=res->os=(fun i=>outs.getD i [])->F=F0->ry T O ⟨ctF F,mtF F,ptF F,ntF F,otF F⟩ n ((mpL 0 ds).map (·.1)) [] c (acU T O ts rvs (mpL 0 ds) r os) (gE al 0 ds)):Fx P f ds outs res:=by
 subst hnt hts hrv;replace h:=h ah res _ F0 rfl rfl rfl rfl;replace hn:=YW hn;intro w vs ps hpre;have ix:=fun {r q}=>sS (p:=0) (r:=r) (q:=q) hpre.args
 have hlt:∀ {r q},iI 0 ds ps r=some q->q.hs.length<=999:=by
  intro r q e;obtain⟨k,e1,_⟩:=ix.1 e;have:=Z9.1 hl0 _ (Zw e1);exact YW this
 let anc:Nat->Value:=fun i=>((iI 0 ds ps ((match al with|true=>i%1000000000|false=>i)/1000)).map fun q=>q.val (i%1000)).getD undef
 have hlr:∀ {r q},al=true->iI 0 ds ps r=some q->r<=999:=by
  intro r q ha e;obtain⟨k,e1,_⟩:=ix.1 e;have:=Z9.1 (hl1 ha) _ (Zw e1);exact YW this
 have hanc:∀ r q j l,iI 0 ds ps r=some q->q.hs[j]?=some (.ro l)->anc (r*1000+j)=q.val j:=by
  intro r q j l e e1;have h1:=(ZC.1 e1).1;have h2:=hlt e;have h3:(r*1000+j)/1000=r:=by omega
  have h4:(r*1000+j)%1000=j:=by omega
  cases al with
  |false=>simp only[anc,h3,h4,e,Yh,ZZ]
  | true=>
    have h5:=hlr rfl e;have h6:(r*1000+j)%1000000000=r*1000+j:=by omega
    simp only[anc,h6,h3,h4,e,Yh,ZZ]
 have hanc2:∀ r q j l,al=true->iI 0 ds ps r=some q->q.hs[j]?=some (.own l)->anc (1000000000+(r*1000+j))=q.val j:=by
  intro r q j l ha e e1;have h1:=(ZC.1 e1).1;have h2:=hlt e;have h5:=hlr ha e;subst ha;have h3:(1000000000+(r*1000+j))%1000000000/1000=r:=by omega
  have h4:(1000000000+(r*1000+j))%1000=j:=by omega
  simp only[anc,h3,h4,e,Yh,ZZ]
 refine calls_of_wp hf hb ?_;have hini:=KC (al:=al) fn.ntmps w ds vs ps hpre hn anc hanc hanc2;refine YN ?_ (dE (fz:=[]) (cx:=⟨fn.ntmps,w,fun b=>¬ nJ ps b/\¬ rX ps b,anc,fun r=>(iI 0 ds ps r).map fun(q:gL)=>(q.b,q.off),fun r=>((iI 0 ds ps r).map fun(q:gL)=>q.hs.length).getD 0,fun _=>True⟩) (fun q=>absurd rfl q) hT (ct:=⟨ctF F0,mtF F0,ptF F0,ntF F0,otF F0⟩) ⟨hct,hmt,hpt,hnw,hot⟩ hm rfl (an:=(mpL 0 ds).map (·.1)) (fun r x e=>by
  cases e0:iI 0 ds ps r with
  |none=>simp[e0]at e
  |some q=>obtain⟨k,e1,_⟩:=ix.1 e0;exact List.mem_map.2 ⟨_,Zw e1,rfl⟩) c _ _ _ w h hini)
 rintro e a' w' ⟨ex,σ',rfl,hq',G,hS⟩;have hq:Kk T ah fn.resultTypes.toList fn.results.toList (mpL 0 ds) σ' res (fun i=>outs.getD i []):=by
  cases ex with
  |normal=>exact hq'
  |ret=>exact hq'
  |exit i=>exact hq'.elim
 have hex:ex=.normal\/ex=.ret:=by
  cases ex with
  |normal=>exact .inl rfl
  |ret=>exact .inr rfl
  |exit i=>exact hq'.elim
 unfold Kk at hq;obtain⟨ls,u,t,h1,_⟩:=Rd.wpU_runs hq;obtain⟨ds',vs',srcs,Sr,ls',k1,k2,k3,k4,k5⟩:=ko hS _ _ _ _ _ (mT hT (fun _ _ _ h=>h) h1);split at k5
 case isFalse=>exact k5.elim
 rename_i hd;simp only[Zc]at hd;obtain⟨PG,hd2⟩:=hd;obtain⟨hres0,k5⟩:=k5;have hres0:ds'=res:=hres0;subst hres0;have o1:=wG _ _ _ _ _ k5;obtain⟨v,hrun,hres⟩:=rL k1 k2;have plen:ps.length=outs.length:=by
  rw[<-hlo];have key:∀ {ds:List DV} {vs:List Value} {ps:List gL} {p:Nat} {ok:Nat->Prop},gV w ok ds vs ps->ps.length=(mpL p ds).length:=by
   intro ds
   induction ds with
   |nil=>intro vs ps p ok h;simp only[gV]at h;simp[h.2,mpL]
   | cons d ds ih=>
     intro vs ps p ok h;cases d with
     |mp hs=>obtain⟨p0,ps',vs',rfl,rfl,_,h⟩:=h;simp[mpL,ih (p:=p+1) h]
     |one l=>obtain⟨v,vs',S,rfl,_,_,h⟩:=h;exact ih (p:=p+1) h
     |agg l=>obtain⟨v,vs',S,rfl,_,_,h⟩:=h;exact ih (p:=p+1) h
     |ptr l=>obtain⟨v,vs',S,rfl,_,_,h⟩:=h;exact ih (p:=p+1) h
     |fn f l=>obtain⟨v,vs',S,rfl,_,_,h⟩:=h;exact ih (p:=p+1) h
  exact key hpre.args
 let pst:Nat->gL:=fun k=>
  { b:=(ps.getD k ⟨0,0,[],fun _=>undef,fun _=>[]⟩).b,off:=(ps.getD k ⟨0,0,[],fun _=>undef,fun _=>[]⟩).off,hs:=outs.getD k [],
    val:=fun j=>G.val ((mpL 0 ds).getD k (0,[])).1 j,
    fp:=fun j=>match(outs.getD k [])[j]? with
     |some (.own _)=>G.fp ((mpL 0 ds).getD k (0,[])).1 j
     |_=>(ps.getD k ⟨0,0,[],fun _=>undef,fun _=>[]⟩).fp j}
 have info:∀ (k:Nat) q',((Zq ps.length).map pst)[k]?=some q'->∃ q r,ps[k]?=some q/\(mpL 0 ds)[k]?=some (r,q.hs)/\iI 0 ds ps r=some q/\q'=pst k/\q'.b=q.b/\q'.off=q.off/\outs[k]?=some q'.hs/\q'.hs.length=q.hs.length/\(∀ j,q'.val j=G.val r j)/\(∀ j l,q'.hs[j]?=some (.own l)->q'.fp j=G.fp r j)/\
  ∀ (j:Nat) c,q'.hs[j]?=some c->∃ hv,get σ' (.leaf r j)=some (.h hv)/\hv.c=c/\(match c with
   | .own _=>True
   | .ro l=>q.hs[j]?=some (.ro l)/\hv.org=some (r*1000+j)
   | .gone=>False):=by
  intro k q' e;rw[ZF,Option.map_eq_some_iff]at e;obtain⟨k',e1,rfl⟩:=e;obtain⟨hk,rfl⟩:=ZC.1 e1;simp only[List.length_range]at hk;simp only[List.getElem_range];have hq:ps[k]?=some ps[k]:=Zv hk;obtain⟨r,hr⟩:=qY (p:=0) hpre.args hq;have hpa:iI 0 ds ps r=some ps[k]:=ix.2 ⟨k,hr,hq⟩;have hout:outs[k]?=some outs[k]:=Zv (by omega);have g1:ps.getD k ⟨0,0,[],fun _=>undef,fun _=>[]⟩=ps[k]:=by simp[Zz,hq]
  have g2:outs.getD k []=outs[k]:=by simp[Zz,hout]
  have g3:(mpL 0 ds).getD k (0,[])=(r,ps[k].hs):=by simp[Zz,hr]
  obtain⟨m1,m2⟩:=o1 k r _ hr;rw[Nat.zero_add]at m1 m2;refine⟨ps[k],r,hq,hr,hpa,trivial,by simp only[pst,g1],by simp only[pst,g1],by simp only[pst,g2];exact hout,by simp only[pst];exact m1,fun j=>by simp only[pst,g3],fun j l e=>?_,fun j c e=>?_⟩
  ·simp only[pst]at e ⊢;rw[e];simp only[g3]
  ·exact m2 j c e
 have meta_:∀ {r q},iI 0 ds ps r=some q->G.loc r=some (q.b,q.off)/\get σ' (.meta_ r)=some (.m q.hs.length true):=by
  intro r q e;have:=hS.aloc r (q.b,q.off) (by simp[e])
  simpa[e]using this
 have mem:∀ q'∈(Zq ps.length).map pst,∃ k:Nat,((Zq ps.length).map pst)[k]?=some q':=fun q' hq=>by
  obtain⟨k,hk⟩:=YM hq;exact⟨k,hk⟩
 have ownTok:∀ b,nJ ((Zq ps.length).map pst) b->∃ r j q,iI 0 ds ps r=some q/\G.ow b=some (.leaf r j)/\fh w' b:=by
  rintro b ⟨q',hq,j,l,e1,e2⟩;obtain⟨k,hk⟩:=mem q' hq;obtain⟨q,r,i1,i2,i3,i4,i5,i6,i7,i8,i9,i10,i11⟩:=info k q' hk;obtain⟨hv,m1,m2,_⟩:=i11 j _ e1;rw[i10 j l e1]at e2;have:=hS.hok (av.2 m1);simp only[eG,m2]at this;exact⟨r,j,q,i3,this.2.2 b e2⟩
 have ptrTok:∀ b,rX ps b->∃ k,G.ow b=some (.box k):=by
  rintro b ⟨q,hq,rfl⟩;obtain⟨k,hk⟩:=YM hq;obtain⟨r,hr⟩:=qY (p:=0) hpre.args hk;obtain⟨f1,f2⟩:=meta_ (ix.2 ⟨k,hr,hk⟩);obtain⟨b',off',cur,ty,z1,z2,_⟩:=hS.boxes r _ f2;rw[f1]at z1;cases z1;exact⟨_,z2⟩
 have own:∀ b r j,fh w' b->G.ow b=some (.leaf r j)->fh w' b/\(w.heap.size<=b\/nJ ps b):=by
  intro b r j hu ht;refine⟨hu,?_⟩;rcases Z3 b w.heap.size with hlt|hge
  ·by_cases c1:nJ ps b;exact .inr c1
   ·by_cases c2:rX ps b
    ·obtain⟨k,hk⟩:=ptrTok b c2;rw[hk]at ht;cases ht
    ·rcases hS.frow b hlt ⟨c1,c2⟩with e|e<;>rw[ht]at e<;>cases e
  ·exact .inl hge
 have post:Lj w ps outs w' ((Zq ps.length).map pst) Sr:=by
  refine⟨by simp,?_,?_,?_,?_,?_,?_,⟨k3 PG,?_⟩,?_,hS.frame,?_⟩
  ·intro k p p' hp hp';obtain⟨q,r,i1,i2,i3,i4,i5,i6,i7,i8,_⟩:=info k p' hp';rw[hp]at i1;cases i1;exact⟨i5,i6,i7,i8⟩
  ·intro q' hq;obtain⟨k,hk⟩:=mem q' hq;obtain⟨q,r,i1,i2,i3,i4,i5,i6,i7,i8,i9,_⟩:=info k q' hk;obtain⟨f1,f2⟩:=meta_ i3;obtain⟨b',off',cur,ty,z1,z2,z3,z4,z5⟩:=hS.boxes r _ f2;rw[f1]at z1;cases z1;exact⟨cur,ty,by rw[i5];exact z3,fun j hj=>by rw[i6,i9];exact z5 j (by omega)⟩
  ·intro q' hq j l e;obtain⟨k,hk⟩:=mem q' hq;obtain⟨q,r,i1,i2,i3,i4,i5,i6,i7,i8,i9,i10,i11⟩:=info k q' hk;obtain⟨hv,m1,m2,_⟩:=i11 j _ e;have:=hS.hok (av.2 m1);simp only[eG,m2]at this;rw[i9,i10 j l e];exact⟨this.1,this.2.1⟩
  ·intro k p p' j l hp hp' e;obtain⟨q,r,i1,i2,i3,i4,i5,i6,i7,i8,i9,i10,i11⟩:=info k p' hp';rw[hp]at i1;cases i1;obtain⟨hv,m1,m2,m3,m4⟩:=i11 j _ e;refine⟨m3,?_⟩;rw[i9,hS.anc r j hv (av.2 m1) _ m4];exact hanc r p j l i3 m3
  ·intro q' hq j e;obtain⟨k,hk⟩:=mem q' hq;obtain⟨q,r,i1,i2,i3,i4,i5,i6,i7,i8,i9,i10,i11⟩:=info k q' hk;obtain⟨hv,m1,m2,m3⟩:=i11 j _ e;exact m3
  ·intro k j k' j' p p' l l' hp hp' e e' hne b hb hb';obtain⟨q,r,i1,i2,i3,i4,i5,i6,i7,i8,i9,i10,i11⟩:=info k p hp;obtain⟨q2,r2,i1',i2',i3',i4',i5',i6',i7',i8',i9',i10',i11'⟩:=info k' p' hp';obtain⟨hv,m1,m2,_⟩:=i11 j _ e;obtain⟨hv',m1',m2',_⟩:=i11' j' _ e';rw[i10 j l e]at hb;rw[i10' j' l' e']at hb';have t1:=hS.hok (av.2 m1);simp only[eG,m2]at t1;have t2:=hS.hok (av.2 m1');simp only[eG,m2']at t2;have u1:=(t1.2.2 b hb).1;have u2:=(t2.2.2 b hb').1;rw[u1]at u2;cases u2;have hkk:k=k':=by
    rw[i3]at i3';cases i3';by_cases c:k=k';exact c
    ·have:=hpre.sep k k' q q c i1 i1' rfl;have:=(ZC.1 e).1;omega
   subst hkk;exact hne rfl
  ·intro b hb ho;obtain⟨r,j,q,e1,e2,_⟩:=ownTok b ho;obtain⟨_,r',j',m1,m2⟩:=k4 b hb;rw[m2]at e2;cases e2;obtain⟨k,e3,_⟩:=ix.1 e1;have:=Z9.1 (Z9.1 hd2 _ m1) _ (Zw e3);simp at this
  ·intro b hb;rcases hb with hb|hb
   ·obtain⟨hu,r,j,_,m2⟩:=k4 b hb;exact own b r j hu m2
   ·obtain⟨r,j,q,_,m2,hu⟩:=ownTok b hb;exact own b r j hu m2
  ·rintro b ⟨q,hq,rfl⟩;obtain⟨k,hk⟩:=YM hq;obtain⟨r,hr⟩:=qY (p:=0) hpre.args hk;have hpa:=ix.2 ⟨k,hr,hk⟩;obtain⟨c0,c1,ty,z1,z2,z3,z4⟩:=hS.afr r q.b q.off (by simp[hpa]);refine⟨c0,c1,ty,z1,z2,z3,fun i hi=>z4 i (fun r' off' e=>?_)⟩;cases e0:iI 0 ds ps r' with
   |none=>simp[e0]at e
   | some q2=>
     simp[e0]at e ⊢;obtain⟨e1,rfl⟩:=e;obtain⟨k2,_,hk2⟩:=ix.1 e0;exact hi q2 (Zw hk2) e1
 have fin:a'.defers=[]/\∃ v,(results fn a'.tmps).run P w'=.ok v w'/\∃ v' Sr ps',X7 v=.returned v'/\kh w' ds' v' Sr/\Lj w ps outs w' ps' Sr:=
  ⟨hS.defers,_,hrun,_,Sr,_,rfl,hres,post⟩
 rcases hex with rfl|rfl;exact fin;exact fin
end
end Go.V
namespace Go.V
theorem SS:(∀ a b:Int,(dA .eql a b=true)↔a=b)/\(∀ a b:Int,(dA .eql a b=false)↔a≠b)/\(∀ a b:Int,(dA .neq a b=true)↔a≠b)/\(∀ a b:Int,(dA .neq a b=false)↔a=b)/\
 (∀ a b:Int,(dA .lss a b=true)↔a<b)/\(∀ a b:Int,(dA .lss a b=false)↔b<=a)/\(∀ a b:Int,(dA .leq a b=true)↔a<=b)/\(∀ a b:Int,(dA .leq a b=false)↔b<a)/\
 (∀ a b:Int,(dA .gtr a b=true)↔b<a)/\(∀ a b:Int,(dA .gtr a b=false)↔a<=b)/\(∀ a b:Int,(dA .geq a b=true)↔b<=a)/\(∀ a b:Int,(dA .geq a b=false)↔a<b)/\
 (∀ b,(bnI b=true)↔b=false)/\(∀ b,(bnI b=false)↔b=true)/\(∀ a b,ab7 true a b=a)/\(∀ a b,ab7 false a b=b)/\
 (∀ a b,(Kp .eql a b=true)↔a=b)/\(∀ a b,(Kp .eql a b=false)↔a≠b)/\(∀ a b,(Kp .neq a b=true)↔a≠b)/\(∀ a b,(Kp .neq a b=false)↔a=b)/\
 (∀ n,TG n=(n:Int))/\(∀ es,lnI es=es.length)/\(∀ f,prI f=f ())/\(∀ n:Nat,WJ n=(n:Int))/\(∀ a b,acy a b=a++b)/\(∀ i,nnI i=i.toNat):=
 ⟨fun _ _=>O4,fun _ _=>O3,fun _ _=>Pg,fun _ _=>Pf,fun _ _=>Pe,fun _ _=>Pd,fun _ _=>Pb,fun _ _=>O9,fun _ _=>O8,fun _ _=>O7,fun _ _=>O6,fun _ _=>O5,
   fun _=>agM,fun _=>agL,fun _ _=>rfl,fun _ _=>rfl,fun _ _=>Ly,fun _ _=>Lx,fun _ _=>LB,fun _ _=>LA,fun _=>rfl,fun _=>rfl,fun _=>rfl,fun _=>rfl,fun _ _=>rfl,fun _=>rfl⟩
end Go.V
namespace Go.V
theorem onc (n:Nat):WJ n=(n:Int):=rfl
structure TB (P:Program) where
 Φ:Type
 F0:Φ
 ct:Φ->CT:=noC
 mt:Φ->MT:=aew
 pt:Φ->PT:=aez
 nt:Φ->NT:=aex
 ot:Φ->OT:=aey
 hc:Dr P (ct F0):=by exact abG
 hm:Hj P (mt F0):=by exact P3
 hp:Hn P (pt F0):=by exact P6
 hn:Hk P (nt F0):=by exact P4
 ho:Hl P (ot F0):=by exact P5
abbrev tb {P:Program}{Φ:Type}{F0:Φ}{ct:Φ->CT}(hc:Dr P (ct F0)):TB P:={Φ:=Φ,F0:=F0,ct:=ct,hc:=hc}
end Go.V
namespace Go.V
mutual
def fR:L->Nat
 | .s _ es=>es.length+bL es
 |_=>0
def cU:ay->Nat
 |[]=>0
 |l::ls=>fR l+cU ls
def bL:aa->Nat
 |[]=>0
 |e::es=>cU e+bL es
end
def ak (es:aa):Nat:=es.length+bL es
def aQ:List aa->Nat
 |[]=>0
 |r::rs=>ak r+aQ rs
def dV (rs:List aa)(left:Int):Int:=if left<aQ rs then-1 else left-aQ rs
mutual
def iH:L->Int->L×Int
 | .v (.int kd _),k=>(.v (.int kd k),k+1)
 | .v (.bool _),k=>(.v (.bool (k.tmod 3==0)),k+1)
 | .s sz es,k=>(.s sz (dO es k).1,(dO es k).2)
 |l,k=>(l,k)
def gY:ay->Int->ay×Int
 |[],k=>([],k)
 |l::ls,k=>((iH l k).1::(gY ls (iH l k).2).1,(gY ls (iH l k).2).2)
def dO:aa->Int->aa×Int
 |[],k=>([],k)
 |e::es,k=>((gY e k).1::(dO es (gY e k).2).1,(dO es (gY e k).2).2)
end
def dY (es:aa)(k:Int):aa:=(dO es k).1
def be:List aa->Int->Int
 |[],k=>k
 |r::rs,k=>be rs (dO r k).2
theorem fK:∀ {a b:aa},bL (a++b)=bL a+bL b
 |[],b=>by simp[bL]
 |e::a,b=>by simp[bL,fK (a:=a),YD]
theorem pe:∀ {a b:List aa},aQ (a++b)=aQ a+aQ b
 |[],b=>by simp[aQ]
 |e::a,b=>by simp[aQ,pe (a:=a),YD]
theorem eH {r:aa}:aQ [r]=ak r:=by simp[aQ]
theorem I5:∀ {ls:ay} {j:Nat} {l:L},ls[j]?=some l->fR l<=cU ls
 |[],j,l,h=>by simp at h
 |x::ls,0,l,h=>by simp at h;subst h;simp[cU]
 |x::ls,j+1,l,h=>by simp at h;have:=I5 h;simp[cU];omega
theorem pM {a:List aa}{left:Int}:dV a left<0↔left<aQ a:=by
 unfold dV;split<;>omega
theorem uF {a:List aa}{left:Int}(h:0<=dV a left):dV a left=left-aQ a:=by
 unfold dV at*;split at h
 ·omega
 ·rename_i c;rw[VX c]
theorem nG {a b:List aa}{left:Int}(h:0<=dV a left):dV b (dV a left)=dV (a++b) left:=by
 rw[uF h];unfold dV;rw[pe];split<;>split<;>omega
theorem gK {a b:List aa}{left:Int}(h:dV a left<0):dV (a++b) left= -1:=by
 rw[pM]at h;unfold dV;rw[pe,VW (by omega)]
theorem mX {a:List aa}{left:Int}(h:dV a left<0):dV a left= -1:=by
 rw[pM]at h;unfold dV;rw[VW (by omega)]
theorem Bi {a:List aa}{left:Int}(h:0<=dV a left):dV a left<=left:=by rw[uF h];omega
theorem nC:∀ {a b:aa} {k:Int},dO (a++b) k=((dO a k).1++(dO b (dO a k).2).1,(dO b (dO a k).2).2)
 |[],b,k=>by simp[dO]
 |e::a,b,k=>by simp[dO,nC (a:=a)]
theorem jU:∀ {a b:List aa} {k:Int},be b (be a k)=be (a++b) k
 |[],b,k=>rfl
 |r::a,b,k=>by simp only[be,List.cons_append];exact jU
theorem iB:∀ {es:aa} {k:Int},(dO es k).1.length=es.length
 |[],k=>rfl
 |e::es,k=>by simp[dO,iB (es:=es)]
theorem cF {es:aa}{k:Int}:(dY es k).length=es.length:=iB
def gG (es:aa)(k:Int)(n:Nat):aa:=(dO (es.take n) k).1++es.drop n
def fU (es:aa)(k:Int)(n:Nat):Int:=(dO (es.take n) k).2
theorem eW {es:aa}{k:Int}:gG es k 0=es:=by simp[gG,dO]
theorem bT {es:aa}{k:Int}:fU es k 0=k:=by simp[fU,dO]
theorem AY {es:aa}{k:Int}:gG es k es.length=dY es k:=by simp[gG,dY]
theorem rE {es:aa}{k:Int}:fU es k es.length=be [es] k:=by simp[fU,be]
theorem qX {es:aa}{k:Int}{n:Nat}(hn:n<=es.length):(gG es k n).length=es.length:=by simp[gG,iB];omega
theorem eV {es:aa}{k:Int}{n:Nat}(hn:n<=es.length):(gG es k n).getD n []=es.getD n []:=by
 unfold gG;simp only[Zo];have hl:(dO (es.take n) k).1.length=n:=by rw[iB,Zk];omega
 rw[ZQ (by omega),hl];simp
theorem AZ {es:aa}{k:Int}{n:Nat}(hn:n<es.length):(gG es k n).set n (gY (es.getD n []) (fU es k n)).1=gG es k (n+1):=by
 unfold gG fU;have hl:(dO (es.take n) k).1.length=n:=by rw[iB,Zk];omega
 rw[List.set_append_right _ _ (by omega),hl,fI (d:=[]) hn,nC];simp only[Nat.sub_self];rw[Xy hn,List.set_cons_zero];simp[dO]
theorem dW {es:aa}{k:Int}{n:Nat}(hn:n<es.length):fU es k (n+1)=(gY (es.getD n []) (fU es k n)).2:=by
 unfold fU;rw[fI (d:=[]) hn,nC];simp[dO]
theorem lC {es:aa}{k:Int}{n:Nat}(hn:n<es.length):(dY es k).getD n []=(gY (es.getD n []) (fU es k n)).1:=by
 have h1:es=es.take n++(es.getD n []::es.drop (n+1)):=by
  conv=>lhs;rw[<-ZP n es,Xy hn]
  simp[Zz,hn]
 unfold dY fU
 conv=>lhs;rw[h1]
 rw[nC];simp only[Zo];have hl:(dO (es.take n) k).1.length=n:=by rw[iB,Zk];omega
 rw[ZQ (by omega),hl];simp[dO]
mutual
theorem aeq:∀ (l:L) (k:Int),(iH l k).2=k+(iH l 0).2
 | .v x,k=>by cases x<;>simp[iH]
 | .s sz es,k=>by simp only[iH];exact pC es k
 | .g,k=>by simp[iH]
 | .m _ _,k=>by simp[iH]
theorem C6:∀ (ls:ay) (k:Int),(gY ls k).2=k+(gY ls 0).2
 |[],k=>by simp[gY]
 | l::ls,k=>by
   simp only[gY];rw[C6 ls (iH l k).2,aeq l k,C6 ls (iH l 0).2];omega
theorem pC:∀ (es:aa) (k:Int),(dO es k).2=k+(dO es 0).2
 |[],k=>by simp[dO]
 | e::es,k=>by
   simp only[dO];rw[pC es (gY e k).2,C6 e k,pC es (gY e 0).2];omega
end
mutual
theorem abE:∀ (l:L) (k k':Int),(iH (iH l k).1 k').2=(iH l k').2
 | .v x,k,k'=>by cases x<;>simp[iH]
 | .s sz es,k,k'=>by simp only[iH];exact fi es k k'
 | .g,k,k'=>by simp[iH]
 | .m _ _,k,k'=>by simp[iH]
theorem M9:∀ (ls:ay) (k k':Int),(gY (gY ls k).1 k').2=(gY ls k').2
 |[],k,k'=>rfl
 |l::ls,k,k'=>by simp only[gY];rw[M9 ls _ _,abE l k k']
theorem fi:∀ (es:aa) (k k':Int),(dO (dO es k).1 k').2=(dO es k').2
 |[],k,k'=>rfl
 |e::es,k,k'=>by simp only[dO];rw[fi es _ _,M9 e k k']
end
theorem qg {es:aa}{k k':Int}:be [dY es k] k'=be [es] k':=fi es k k'
theorem jv {es:aa}{k:Int}{n:Nat}:fU es k n=k+fU es 0 n:=pC _ _
theorem KD:∀ {rs:List aa} {k:Int},be rs k=k+be rs 0
 |[],k=>by simp[be]
 |r::rs,k=>by simp only[be];rw[KD (k:=(dO r k).2),pC r k,KD (k:=(dO r 0).2)];omega
mutual
theorem aep:∀ (l:L),0<=(iH l 0).2
 | .v x=>by cases x<;>simp[iH]
 | .s sz es=>by simp only[iH];exact H3 es
 | .g=>by simp[iH]
 | .m _ _=>by simp[iH]
theorem M8:∀ (ls:ay),0<=(gY ls 0).2
 |[]=>by simp[gY]
 |l::ls=>by simp only[gY];rw[C6];have:=aep l;have:=M8 ls;omega
theorem H3:∀ (es:aa),0<=(dO es 0).2
 |[]=>by simp[dO]
 |e::es=>by simp only[dO];rw[pC];have:=M8 e;have:=H3 es;omega
end
theorem PP:∀ {rs:List aa},0<=be rs 0
 |[]=>by simp[be]
 |r::rs=>by simp only[be];rw[KD];have:=H3 r;have:=PP (rs:=rs);omega
theorem mP {es:aa}{n:Nat}(hn:n<es.length):fU es 0 n<=fU es 0 (n+1):=by
 rw[dW hn,C6];have:=M8 (es.getD n []);omega
theorem fP {es:aa}:∀ {m n:Nat},n<=es.length->m<=n->fU es 0 m<=fU es 0 n
 |m,0,_,h=>by rw[show m=0 from by omega];exact Yj _
 | m,n+1,hn,h=>by
   rcases Z3 m (n+1)with c|c
   ·have:=fP (es:=es) (m:=m) (n:=n) (by omega) (by omega);have:=mP (es:=es) (n:=n) (by omega);omega
   ·rw[show m=n+1 from by omega];exact Yj _
def wid:Ty->Nat
 | .sl _=>0
 |_=>1
end Go.V
namespace Go.V
abbrev Rw (fs:List Ty)(es:aa):Prop:=es.length<=maxLen/\∀ e∈es,cp fs e
abbrev tI:Ty:=.int .i64
abbrev tB:Ty:=.bool
mutual
def zL:Ty->L
 | .int k=>.v (.int k 0)
 | .bool=>.v (.bool false)
 | .str=>.v (.string .empty)
 | .sl fs=>.s fs.length []
def zR:List Ty->ay
 |[]=>[]
 |t::ts=>zL t::zR ts
end
theorem FO:∀ {fs:List Ty} {e:ay},cp fs e->ki (zR fs) e=true
 |[],[],_=>rfl
 |[],_::_,h=>h.elim
 |_::_,[],h=>h.elim
 | t::ts,l::ls,h=>by
   obtain⟨h1,h2⟩:=h;simp only[zR,ki,Zc];refine⟨?_,FO h2⟩;cases t with
   | int k=>cases l with
     | v x=>cases x with
       |int k' n=>simp only[dF]at h1;simp[zL,oO,h1.1]
       |_=>simp[dF]at h1
     |_=>simp[dF]at h1
   | bool=>cases l with
     | v x=>cases x with
       |bool b=>rfl
       |_=>simp[dF]at h1
     |_=>simp[dF]at h1
   | str=>cases l with
     | v x=>cases x with
       |string b=>rfl
       |_=>simp[dF]at h1
     |_=>simp[dF]at h1
   | sl fs=>cases l with
     |s sz es=>simp only[dF]at h1;simp[zL,oO,h1.1]
     |_=>simp[dF]at h1
theorem Rw.wf {fs:List Ty}{es:aa}(h:Rw fs es):Wf (zR fs) es:=fun e he=>FO (h.2 e he)
theorem Rw.at {fs:List Ty}{es:aa}(h:Rw fs es){n:Nat}(hn:n<es.length):cp fs (es.getD n []):=by
 refine h.2 _ ?_;rw[Zo,Zv hn];exact List.getElem_mem _
theorem Rw.eta {fs:List Ty}{es:aa}(h:Rw fs es){i:Int}(h0:0<=i)(h1:i<es.length):es.getD i.toNat []=nh ah es i 0 (zR fs):=(ao h.wf h0 h1).symm
theorem CG:∀ {fs:List Ty} {e:ay} {j:Nat} {gs:List Ty},cp fs e->fs[j]?=some (.sl gs)->∃ es',e[j]?=some (.s gs.length es')/\Rw gs es'
 |[],_,j,gs,_,h=>by simp at h
 |_::_,[],j,gs,h,_=>h.elim
 | t::ts,l::ls,0,gs,h,e=>by
   simp at e;subst e;have h1:=h.1;cases l with
   |s sz es=>simp only[dF]at h1;exact⟨es,by simp[h1.1],h1.2⟩
   |_=>simp[dF]at h1
 | t::ts,l::ls,j+1,gs,h,e=>by
   simp at e;obtain⟨es',h1,h2⟩:=CG h.2 e;exact⟨es',by simpa using h1,h2⟩
theorem Rw.sub {fs:List Ty}{es:aa}(h:Rw fs es){i:Int}(hn:i.toNat<es.length){j:Nat}{gs:List Ty}(hj:fs[j]?=some (.sl gs)):Rw gs (aw es i j):=by
 obtain⟨es',h1,h2⟩:=CG (h.at hn) hj;unfold aw;rw[Zo (l:=es.getD i.toNat []),h1];exact h2
theorem Rw.nil {fs:List Ty}:Rw fs []:=⟨Nat.zero_le _,by simp⟩
theorem Rw.take {fs:List Ty}{es:aa}(h:Rw fs es)(n:Nat):Rw fs (es.take n):=⟨by rw[Zk];exact ZX (Nat.min_le_right _ _) h.1,fun e he=>h.2 e (List.mem_of_mem_take he)⟩
theorem Rw.drop {fs:List Ty}{es:aa}(h:Rw fs es)(n:Nat):Rw fs (es.drop n):=⟨by rw[List.length_drop];exact ZX (Nat.sub_le _ _) h.1,fun e he=>h.2 e (List.mem_of_mem_drop he)⟩
theorem Rw.append {fs:List Ty}{a b:aa}(ha:Rw fs a)(hb:Rw fs b)(hl:a.length+b.length<=maxLen):Rw fs (a++b):=⟨by simpa using hl,fun e he=>by rcases Zf.1 he with q|q;exact ha.2 e q;exact hb.2 e q⟩
theorem Rw.one {fs:List Ty}{e:ay}(h:cp fs e):Rw fs [e]:=⟨by simp[maxLen],by simpa using h⟩
theorem Rw.set {fs:List Ty}{es:aa}(h:Rw fs es){e:ay}(he:cp fs e)(n:Nat):Rw fs (es.set n e):=⟨by simpa using h.1,fun x hx=>by rcases List.mem_or_eq_of_mem_set hx with q|q;exact h.2 x q;rw[q];exact he⟩
theorem Rw.replicate {fs:List Ty}{e:ay}(h:cp fs e){n:Nat}(hn:n<=maxLen):Rw fs (List.replicate n e):=⟨by simpa using hn,fun x hx=>by rw[List.eq_of_mem_replicate hx];exact h⟩
def vY:Ty->Bool
 | .sl _=>false
 |_=>true
theorem Aq {t:Ty}{l:L}(h:dF t l)(hs:vY t=true):∃ x,l=.v x:=by
 cases t with
 |sl fs=>cases hs
 | int k=>cases l with
   |v x=>exact⟨x,rfl⟩
   |_=>simp[dF]at h
 | bool=>cases l with
   |v x=>exact⟨x,rfl⟩
   |_=>simp[dF]at h
 | str=>cases l with
   |v x=>exact⟨x,rfl⟩
   |_=>simp[dF]at h
theorem CR:∀ {fs:List Ty} {e:ay},fs.all vY=true->cp fs e->cU e=0
 |[],[],_,_=>rfl
 |[],_::_,_,h=>h.elim
 |_::_,[],_,h=>h.elim
 | t::ts,l::ls,hs,h=>by
   simp only[XZ,Zc]at hs;obtain⟨x,rfl⟩:=Aq h.1 hs.1;simp only[cU,fR];rw[CR hs.2 h.2]
theorem FX {fs:List Ty}(hs:fs.all vY=true):∀ {es:aa},(∀ e∈es,cp fs e)->bL es=0
 |[],_=>rfl
 |e::es,h=>by simp only[bL];rw[CR hs (h e (by simp)),FX hs (fun x hx=>h x (by simp[hx]))]
theorem Rw.cnt {fs:List Ty}{es:aa}(h:Rw fs es)(hs:fs.all vY=true):ak es=es.length:=by unfold ak;rw[FX hs h.2];rfl
theorem Rw.scal {fs:List Ty}{es:aa}(h:Rw fs es)(hs:fs.all vY=true):bY es:=by
 have key:∀ {fs:List Ty} {e:ay},fs.all vY=true->cp fs e->kf e:=by
  intro fs
  induction fs with
  | nil=>intro e _ h;cases e with
    |nil=>trivial
    |cons _ _=>exact h.elim
  | cons t ts ih=>
    intro e hs h;cases e with
    |nil=>exact h.elim
    | cons l ls=>
      simp only[XZ,Zc]at hs;obtain⟨x,rfl⟩:=Aq h.1 hs.1;exact(ih hs.2 h.2:kf ls)
 have:∀ {es:aa},(∀ e∈es,cp fs e)->bY es:=by
  intro es
  induction es with
  |nil=>intro _;trivial
  |cons e es ih=>intro h;exact⟨key hs (h e (by simp)),ih (fun x hx=>h x (by simp[hx]))⟩
 exact this h.2
theorem dz {es:aa}{n:Nat}(hn:n<es.length):bL (es.take (n+1))=bL (es.take n)+cU (es.getD n []):=by
 rw[fI (d:=[]) hn,fK];simp[bL]
theorem bS {es:aa}{n:Nat}:bL (es.take n)<=bL es:=by
 conv=>rhs;rw[<-ZP n es,fK]
 omega
theorem Bq {sz:Nat}{es:aa}{n o:Nat}{new:ay}:rr (.s sz es) [(n,o)] new=es.set n ((es.getD n []).take o++new++(es.getD n []).drop (o+new.length)):=rfl
theorem ux {sz:Nat}{c:aa}{n j:Nat}:qp (.s sz c) [(n,j)]=K7 ((c.getD n []).getD j .g):=by
 unfold qp gZ;simp only[bV];cases h:c[n]? with
 |none=>simp[Zz,h,K7]
 | some rec=>
   simp only[Yh,Zz,h,ZZ];cases h2:rec[j]? with
   |none=>simp[K7]
   |some l=>cases l<;>simp[K7]
theorem ff {c:aa}{n:Nat}{r:ay}(h:n<c.length):(c.set n r).getD n []=r:=by simp[Zz,h]
theorem uc {sz:Nat}{c:aa}{n j:Nat}{r:ay}(h:n<c.length):bV (.s sz (c.set n r)) [(n,j)]=some (r,j):=by simp[bV,h]
theorem yB {sz:Nat}{c:aa}{n j:Nat}(h:n<c.length):bV (.s sz c) [(n,j)]=some (c.getD n [],j):=by simp[bV,Zz,h]
theorem AA {sz:Nat}{c:aa}{n j:Nat}{r:ay}(h:n<c.length):gZ (.s sz (c.set n r)) [(n,j)]=match r[j]? with
 |some (.s sz es)=>some (sz,es)
 |_=>none:=by unfold gZ;rw[uc h];rfl
theorem yC {sz:Nat}{c:aa}{n j:Nat}(h:n<c.length):gZ (.s sz c) [(n,j)]=match(c.getD n [])[j]? with
 |some (.s sz es)=>some (sz,es)
 |_=>none:=by unfold gZ;rw[yB h];rfl
theorem bJ {a b:List aa}{k:Int}(hk:0<=k):be a k<=be (a++b) k/\0<=be a k:=by
 rw[<-jU,KD (rs:=b),KD (rs:=a)];have:=PP (rs:=a);have:=PP (rs:=b);omega
theorem Px {l:L}{k:Int}{z:L}(h:oO z l=true):oO z (iH l k).1=true:=by
 cases l with
 |v x=>cases x<;>cases z<;>simp_all [iH,oO]<;>(rename_i y;cases y<;>simp_all [oO])
 |s sz es=>cases z<;>simp_all [iH,oO]
 |g=>exact h
 |m _ _=>exact h
theorem Je:∀ {z e:ay} {k:Int},ki z e=true->ki z (gY e k).1=true
 |[],[],_,_=>rfl
 |[],_::_,_,h=>by simp[ki]at h
 |_::_,[],_,h=>by simp[ki]at h
 | z::zs,l::ls,k,h=>by
   simp only[ki,Zc,gY]at h ⊢;exact⟨Px h.1,Je h.2⟩
theorem FW:∀ {z:ay} {es:aa} {k:Int},Wf z es->Wf z (dO es k).1
 |z,[],_,_=>fun e he=>by cases he
 | z,e::es,k,h=>by
   intro x hx;simp only[dO,List.mem_cons]at hx;rcases hx with rfl|hx;exact Je (h e (by simp));exact FW (fun y hy=>h y (by simp[hy])) x hx
theorem dS {fs:List Ty}{es:aa}{k:Int}(h:Rw fs es):Wf (zR fs) (dY es k):=FW h.wf
end Go.V
namespace Go.V
mutual
def QG:Ty->Nat
 | .sl fs=>Ha fs
 |_=>1
def Ha:List Ty->Nat
 |[]=>0
 |t::ts=>QG t+Ha ts
end
mutual
theorem abv:∀ (t:Ty) (l:L),dF t l->(iH l 0).2<=(QG t*(fR l+1):Nat)
 | .int k,.v x,h=>by cases x<;>simp[iH,fR,QG]
 | .int k,.s _ _,h=>by simp[dF]at h
 | .int k,.g,h=>by simp[dF]at h
 | .bool,.v x,h=>by cases x<;>simp[iH,fR,QG]
 | .bool,.s _ _,h=>by simp[dF]at h
 | .bool,.g,h=>by simp[dF]at h
 | .str,.v x,h=>by cases x<;>simp[iH,fR,QG]
 | .str,.s _ _,h=>by simp[dF]at h
 | .str,.g,h=>by simp[dF]at h
 | .sl fs,.v x,h=>by simp[dF]at h
 | .sl fs,.g,h=>by simp[dF]at h
 | .sl fs,.s sz es,h=>by
   have h1:=Ew fs es (by simp only[dF]at h;exact h.2.2);simp only[iH,fR,QG];have:Ha fs*(es.length+bL es)<=Ha fs*(es.length+bL es+1):=X8 _ (by omega);omega
theorem MZ:∀ (ts:List Ty) (ls:ay),cp ts ls->(gY ls 0).2<=(Ha ts*(cU ls+1):Nat)
 |[],[],_=>by simp only[gY];exact Vz _
 |[],_::_,h=>h.elim
 |_::_,[],h=>h.elim
 | t::ts,l::ls,h=>by
   have h1:=abv t l h.1;have h2:=MZ ts ls h.2;simp only[gY];rw[C6];have e1:QG t*(fR l+1)<=QG t*(cU (l::ls)+1):=X8 _ (by simp[cU]);have e2:Ha ts*(cU ls+1)<=Ha ts*(cU (l::ls)+1):=X8 _ (by simp[cU]);have e3:Ha (t::ts)*(cU (l::ls)+1)=QG t*(cU (l::ls)+1)+Ha ts*(cU (l::ls)+1):=by simp only[Ha];rw[Nat.add_mul]
   omega
theorem Ew:∀ (ts:List Ty) (es:aa),(∀ e∈es,cp ts e)->(dO es 0).2<=(Ha ts*(es.length+bL es):Nat)
 |ts,[],_=>by simp only[dO];exact Vz _
 | ts,e::es,h=>by
   have h1:=MZ ts e (h e (by simp));have h2:=Ew ts es (fun x hx=>h x (by simp[hx]));simp only[dO];rw[pC];have e3:Ha ts*((e::es).length+bL (e::es))=Ha ts*(cU e+1)+Ha ts*(es.length+bL es):=by
    rw[<-VA];congr 1;simp[bL];omega
   omega
end
theorem Rw.marks {fs:List Ty}{es:aa}(h:Rw fs es)(hw:Ha fs<=64):(dO es 0).2<=(64*ak es:Nat):=by
 have:=Ew fs es h.2;have h2:Ha fs*(es.length+bL es)<=64*(es.length+bL es):=Nat.mul_le_mul_right _ hw;unfold ak;omega
theorem Gf:∀ {rs:List aa} {k:Int},(∀ r∈rs,(dO r 0).2<=(64*ak r:Nat))->be rs k<=k+(64*aQ rs:Nat)
 |[],k,_=>by simp[be,aQ]
 | r::rs,k,h=>by
   simp only[be,aQ];have h1:=h r (by simp);have h2:=Gf (rs:=rs) (k:=(dO r k).2) (fun x hx=>h x (by simp[hx]));rw[pC]at h2;rw[pC r k];have:64*(ak r+aQ rs)=64*ak r+64*aQ rs:=VA _ _ _;omega
theorem MB {rs:List aa}{k:Int}(h:∀ r∈rs,(dO r 0).2<=(64*ak r:Nat))(hk:0<=k/\k<=1000)(hc:aQ rs<=1099511627776):be rs k<=1152921504606846976:=by
 have:=Gf (k:=k) h;have:64*aQ rs<=64*1099511627776:=X8 _ hc;omega
theorem MA {rs:List aa}{k:Int}(hk:0<=k):¬ be rs k<0:=by
 rw[KD];have:=PP (rs:=rs);omega
theorem acb {rs:List aa}(h:aQ rs<=1048576):¬ dV rs 1048576<0:=by rw[pM];omega
theorem QE {es:aa}{k:Int}:sc (dY es k) 0 es.length=dY es k:=by
 rw[<-cF (es:=es) (k:=k),sa]
abbrev hpL (a0 a1 a2:aa)(a3:Int)(a4 a5 a6 a7 a8 a9 aA aB:aa)(aC:Int)(aD:aa)(aE aF aG aH:Int)(aI:Bool)(aJ aK:Int)(aL:aa)(aM aN:Int):ay:=[.s 1 a0,.s 1 a1,.s 2 a2,.i a3,.s 1 a4,.s 2 a5,.s 3 a6,.s 3 a7,.s 4 a8,.s 1 a9,.s 1 aA,.s 1 aB,.i aC,.s 3 aD,.i aE,.i aF,.i aG,.i aH,.v (.bool aI),.i aJ,.i aK,.s 1 aL,.i aM,.i aN]
abbrev hpM (a0 a1 a2:aa)(a3:Int)(a4 a5 a6 a7 a8 a9 aA aB:aa)(aC:Int)(aD:aa)(aE aF aG aH:Int)(aI:Bool)(aJ aK:Int)(aL:aa)(aM aN:Int):List H:=[.own (.s 1 a0),.own (.s 1 a1),.own (.s 2 a2),.own (.i a3),.own (.s 1 a4),.own (.s 2 a5),.own (.s 3 a6),.own (.s 3 a7),.own (.s 4 a8),.own (.s 1 a9),.own (.s 1 aA),.own (.s 1 aB),.own (.i aC),.own (.s 3 aD),.own (.i aE),.own (.i aF),.own (.i aG),.own (.i aH),.own (.v (.bool aI)),.own (.i aJ),.own (.i aK),.own (.s 1 aL),.own (.i aM),.own (.i aN)]
theorem ew {es:aa}{n:Nat}(h:ak es<=n):es.length<=n:=ZX (Nat.le_add_right _ _) h
theorem TH {p:Prop}(h:p:=by
 try rw[fa (n:=es.length) g0 hlt (by omega)]
 try have hlt':i.toNat<es.length:=by omega
 try have hct:=dz (es:=es) (n:=i.toNat) (by omega);rw[he]at hct;simp only[cU,fR,Nat.add_zero,Nat.zero_add]at hct
 try have hks:=dW (es:=es) (k:=k) hlt';rw[he]at hks;simp only[gY,iH]at hks
 try have hms:=AZ (es:=es) (k:=k) hlt';rw[he]at hms;simp only[gY,iH]at hms
 try have hcl:i.toNat<cur.length:=by rw[hc,qX g1];exact hlt'
 have hk1:=jv (es:=es) (k:=k) (n:=i.toNat)
 have hk2:=jv (es:=es) (k:=k) (n:=i.toNat+1)
 have hk3:=rE (es:=es) (k:=k)
 have hk4:=jv (es:=es) (k:=k) (n:=es.length)
 have hk5:=fP (es:=es) (m:=0) (n:=i.toNat) g1 (Nat.zero_le _)
 have hk6:=fP (es:=es) (m:=i.toNat) (n:=es.length) (Nat.le_refl _) g1
 try have hk7:=fP (es:=es) (m:=i.toNat+1) (n:=es.length) (Nat.le_refl _) hlt'
 have hle1:=bS (es:=es) (n:=i.toNat+1)
 have hcE:ak es=es.length+bL es:=rfl
 rw[bT]at hk5
 try have hk8:=mP (es:=es) (n:=i.toNat) hlt'
 have ha1:bO .add .i64 k' 1=k'+1:=bz (by omega)
 have ha2:bO .add .i64 (k'+1) 1=k'+1+1:=bz (by omega)
 have ha3:bO .add .i64 (k'+1+1) 1=k'+1+1+1:=bz (by omega)
 have ha4:bO .add .i64 (k'+1+1+1) 1=k'+1+1+1+1:=bz (by omega)
 try simp only[ha1,ha2,ha3,ha4]
 try simp only[az]
 try simp only[Bq,hcg,List.take,List.drop,List.length_cons,List.length_nil,List.nil_append,List.cons_append,List.append_nil,Nat.zero_add,Nat.reduceAdd,ff hcl,List.set_set,List.append_assoc]
 try simp only[ux,hcg,ff hcl,List.getD_cons_zero,List.getD_cons_succ,K7]
 try simp only[yB hcl,uc hcl,yC hcl,AA hcl,hcg,List.getElem?_cons_zero,List.getElem?_cons_succ]
 first|exact⟨g0,hlt⟩|(refine⟨_,_,rfl,?_⟩;simp;done)|omega|(rw[hk',show i.toNat=es.length from by omega,hk3];done)|(rw[hc,show i.toNat=es.length from by omega,AY];rfl)|(rw[show(i+1).toNat=i.toNat+1 from by omega,hks,hk'];done)|(rw[show(i+1).toNat=i.toNat+1 from by omega, <-hms,hc,hk'];done)|trace_state):p:=h
theorem TJ {p:Prop}(h:p:=by
 have hk1:=jv (es:=es) (k:=k) (n:=i.toNat)
 have hk2:=jv (es:=es) (k:=k) (n:=i.toNat+1)
 have hk3:=rE (es:=es) (k:=k)
 have hk4:=jv (es:=es) (k:=k) (n:=es.length)
 have hk5:=fP (es:=es) (m:=0) (n:=i.toNat) g1 (Nat.zero_le _)
 have hk6:=fP (es:=es) (m:=i.toNat) (n:=es.length) (Nat.le_refl _) g1
 try have hk7:=fP (es:=es) (m:=i.toNat+1) (n:=es.length) (Nat.le_refl _) hlt'
 have hle1:=bS (es:=es) (n:=i.toNat+1)
 have hcE:ak es=es.length+bL es:=rfl
 rw[bT]at hk5
 try have hk8:=mP (es:=es) (n:=i.toNat) hlt'
 try rw[<-hk']at hem hks
 have ha1:bO .add .i64 k' 1=k'+1:=bz (by omega)
 have ha2:bO .add .i64 (k'+1) 1=k'+1+1:=bz (by omega)
 have ha3:bO .add .i64 (k'+1+1) 1=k'+1+1+1:=bz (by omega)
 have ha4:bO .add .i64 (k'+1+1+1) 1=k'+1+1+1+1:=bz (by omega)
 try simp only[ha1,ha2,ha3,ha4]at*
 first|exact oC hwm g0 hltm|omega|(exfalso;revert hb;simp only[hem,dA,bO];simp;done)|(rw[hk',show i.toNat=es.length from by omega,hk3,hkk];done)|(rw[show(i+1).toNat=i.toNat+1 from by omega,hks];done)|(rw[show(i+1).toNat=i.toNat+1 from by omega,hks,hem];simp only[be,fi];done)|(rw[show(i+1).toNat=i.toNat+1 from by omega,hks,hem.2];simp only[be,fi];done)|(refine⟨_,by first|exact hem|exact hem.2|exact hem.1|rfl,?_,?_,?_⟩<;>(try simp only[be,fi,ak])<;>omega)|(refine⟨_,by first|exact hem|exact hem.2|exact hem.1|rfl,?_,?_,?_⟩<;>(try rw[hem])<;>(try rw[hem.2])<;>(try simp only[be,fi,ak])<;>omega)|(exfalso;simp only[be,fi]at hb;omega)|(exfalso;(first|rw[hem]at hb|rw[hem.2]at hb);simp only[be,fi]at hb;omega)|trivial|trace_state):p:=h
theorem QL {p:Prop}(h:p:=by
 try rw[fa (n:=es.length) g0 hlt (by omega)]
 try have hct:=dz (es:=es) (n:=i.toNat) (by omega);rw[he]at hct;simp only[cU,fR,Nat.add_zero,Nat.zero_add]at hct
 have hle1:=bS (es:=es) (n:=i.toNat+1)
 have hcE:ak es=es.length+bL es:=rfl
 first|exact oC hwf g0 hlt|exact⟨g0,hlt⟩|(rw[hm];exact gS (by rw[lJ g1];omega) (by rw[pv (by omega)];exact Nat.le_refl _))|omega|(rw[show(i+1).toNat=i.toNat+1 from by omega, <-CL (by omega), <-hm,gU (by rw[hm,pv (by omega)];rfl),he])|(rw[hm,lJ g1];exact⟨trivial,rfl⟩)|(rw[hm,show i.toNat=es.length from by omega,CK])|trace_state):p:=h
theorem zq3 {p:Prop}(h:p:=by
 try have hct:=dz (es:=es) (n:=i.toNat) (by omega);rw[he]at hct;simp only[cU,fR,Nat.add_zero,Nat.zero_add]at hct
 try have hks:=dW (es:=es) (k:=k) hlt';rw[he]at hks;simp only[gY,iH]at hks
 try have hms:=AZ (es:=es) (k:=k) hlt';rw[he]at hms;simp only[gY,iH]at hms
 try have hcl:i.toNat<cur.length:=by rw[hc,qX g1];exact hlt'
 have hk1:=jv (es:=es) (k:=k) (n:=i.toNat)
 have hk2:=jv (es:=es) (k:=k) (n:=i.toNat+1)
 have hk3:=rE (es:=es) (k:=k)
 have hk4:=jv (es:=es) (k:=k) (n:=es.length)
 have hk5:=fP (es:=es) (m:=0) (n:=i.toNat) g1 (Nat.zero_le _)
 have hk6:=fP (es:=es) (m:=i.toNat) (n:=es.length) (Nat.le_refl _) g1
 try have hk7:=fP (es:=es) (m:=i.toNat+1) (n:=es.length) (Nat.le_refl _) hlt'
 have hle1:=bS (es:=es) (n:=i.toNat+1)
 have hcE:ak es=es.length+bL es:=rfl
 rw[bT]at hk5
 try have hk8:=mP (es:=es) (n:=i.toNat) hlt'
 have ha1:bO .add .i64 k' 1=k'+1:=bz (by omega)
 have ha2:bO .add .i64 (k'+1) 1=k'+1+1:=bz (by omega)
 have ha3:bO .add .i64 (k'+1+1) 1=k'+1+1+1:=bz (by omega)
 have ha4:bO .add .i64 (k'+1+1+1) 1=k'+1+1+1+1:=bz (by omega)
 try simp only[ha1,ha2,ha3,ha4]
 try simp only[az]
 try simp only[Bq,hcg,List.take,List.drop,List.length_cons,List.length_nil,List.nil_append,List.cons_append,List.append_nil,Nat.zero_add,Nat.reduceAdd,ff hcl,List.set_set,List.append_assoc]
 try simp only[ux,hcg,ff hcl,List.getD_cons_zero,List.getD_cons_succ,K7]
 try simp only[yB hcl,uc hcl,yC hcl,AA hcl,hcg,List.getElem?_cons_zero,List.getElem?_cons_succ]
 first|exact⟨g0,hlt⟩|(refine⟨_,_,rfl,by simp,?_⟩;show List.take _ (List.drop _ _)=[L.s _ (qp _ _)];simp only[yX,ux,hcg,ff hcl,List.getD_cons_zero,List.getD_cons_succ,Nat.add_zero,K7];rfl)|exact⟨trivial,_,rfl,rfl⟩|exact⟨_,rfl⟩|omega|(rw[hk',show i.toNat=es.length from by omega,hk3];done)|(rw[hc,show i.toNat=es.length from by omega,AY];rfl)|(rw[show(i+1).toNat=i.toNat+1 from by omega,hks,hk'];rfl)|(rw[show(i+1).toNat=i.toNat+1 from by omega, <-hms,hc,hk'];rfl)|(refine⟨hr0,?_,?_,?_⟩<;>(try simp only[ak,be])<;>first|omega|(rw[hk'];omega))|trace_state):p:=h
theorem yt {p:Prop}(h:p:=by
 intro O r F hO hr hF;cbv
 repeat' first|apply And.intro|(apply bF<;>intro hb<;>cbv)
 all_goals(subst hO hr hF;(try simp only[nc]at*);(try simp only[ah,SS,sa,az]at*))
 all_goals first|trivial|trace_state):p:=h
theorem zq5 {p:Prop}(h:p:=by
 have hk1:=jv (es:=es) (k:=k) (n:=i.toNat)
 have hk2:=jv (es:=es) (k:=k) (n:=i.toNat+1)
 have hk3:=rE (es:=es) (k:=k)
 have hk4:=jv (es:=es) (k:=k) (n:=es.length)
 have hk5:=fP (es:=es) (m:=0) (n:=i.toNat) g1 (Nat.zero_le _)
 have hk6:=fP (es:=es) (m:=i.toNat) (n:=es.length) (Nat.le_refl _) g1
 try have hk7:=fP (es:=es) (m:=i.toNat+1) (n:=es.length) (Nat.le_refl _) hlt'
 have hle1:=bS (es:=es) (n:=i.toNat+1)
 have hcE:ak es=es.length+bL es:=rfl
 rw[bT]at hk5
 try have hk8:=mP (es:=es) (n:=i.toNat) hlt'
 try rw[<-hk']at hem hks
 have ha1:bO .add .i64 k' 1=k'+1:=bz (by omega)
 have ha2:bO .add .i64 (k'+1) 1=k'+1+1:=bz (by omega)
 have ha3:bO .add .i64 (k'+1+1) 1=k'+1+1+1:=bz (by omega)
 have ha4:bO .add .i64 (k'+1+1+1) 1=k'+1+1+1+1:=bz (by omega)
 try simp only[ha1,ha2,ha3,ha4]at*
 first|exact oC hwm g0 hltm|omega|(exfalso;revert hb;simp only[hem,dA,bO];simp;done)|(rw[hk',show i.toNat=es.length from by omega,hk3,hkk];done)|(rw[show(i+1).toNat=i.toNat+1 from by omega,hks];done)|(rw[show(i+1).toNat=i.toNat+1 from by omega,hks,hem];simp only[be,fi];done)|(rw[show(i+1).toNat=i.toNat+1 from by omega,hks,hem.2];simp only[be,fi];done)|(refine⟨_,by first|exact hem|exact hem.2|exact hem.1|rfl,hr0,?_,?_,?_⟩<;>(try simp only[be,fi,ak])<;>omega)|(refine⟨_,by first|exact hem|exact hem.2|exact hem.1|rfl,hr0,?_,?_,?_⟩<;>(try rw[hem])<;>(try rw[hem.2])<;>(try simp only[be,fi,ak])<;>omega)|(exfalso;simp only[be,fi]at hb;omega)|(exfalso;(first|rw[hem]at hb|rw[hem.2]at hb);simp only[be,fi]at hb;omega)|trivial|trace_state):p:=h
theorem TK {p:Prop}(h:p:=by
 try rw[fa (n:=es.length) g0 hlt (by omega)]
 try have hct:=dz (es:=es) (n:=i.toNat) (by omega);rw[he]at hct;simp only[cU,fR,Nat.add_zero,Nat.zero_add]at hct
 have hle1:=bS (es:=es) (n:=i.toNat+1)
 have hcE:ak es=es.length+bL es:=rfl
 first|omega|exact oC hwf g0 hlt|trivial|trace_state):p:=h
theorem TL {p:Prop}(h:p:=by
 intro O r F hO hr hF;cbv
 repeat' first|apply And.intro|(apply bF<;>intro hb<;>cbv)
 all_goals(subst hO hr hF;(try simp only[nc]at*);(try simp only[ah,SS,sa,az]at*))
 all_goals first|exact hs|trivial|exact⟨trivial,trivial⟩|exact⟨hw,hl⟩|omega|(show aP _ _=true;kernel_rfl)|(simp only[List.length_nil];omega)|exact rfl|done):p:=h
theorem QN {p:Prop}(h:p:=by
 intro O r F hO hr hF;cbv
 repeat' first|apply And.intro|(apply bF<;>intro hb<;>cbv)
 all_goals(subst hO hr hF;(try simp only[nc]at*);(try simp only[ah,SS,sa,az]at*))
 all_goals(try simp only[hs]at*)
 all_goals first|trivial|(rw[hn,VW (by omega)])|(rw[hn,VX (by omega)])):p:=h
theorem zq9 {p:Prop}(h:p:=by
 (subst hO hr hF;(try simp only[nc]at*);(try simp only[ah,SS,sa,az]at*))
 try rw[db (by omega) (by omega)]
 try(have hol:out.length=i.toNat:=(by rw[i2,List.length_take];omega))
 try(have hok:ou2.length=k.toNat:=(by rw[k2,List.length_take];omega))
 try(have hsc:=rP wb i0 (by assumption);have hsl:=au (es:=aw b i 0))
 try(have hsd:=rP wx k0 (by assumption);have hsm:=au (es:=aw x k 0))
 first
  | (show(_:List DV)=_
     first
      |exact rfl
      |(rw[i2,jq (by omega)];rfl)
      |(rw[i2,k2,jq (by omega),jq (by omega)];rfl)
      |done)
  |omega
  |exact gj
  |(show aP _ _=true;kernel_rfl)
  |exact Rw.scal (fs:=[tI]) (by(first|assumption|exact Rw.sub (by first|assumption|exact Rw.sub (by assumption) (by omega) rfl) (by omega) rfl)) rfl
  |exact Rw.scal (fs:=[tI,tI]) (by(first|assumption|exact Rw.sub (by first|assumption|exact Rw.sub (by assumption) (by omega) rfl) (by omega) rfl)) rfl
  |exact⟨by(first|assumption|exact Rw.sub (by first|assumption|exact Rw.sub (by assumption) (by omega) rfl) (by omega) rfl),by omega⟩
  |(simp only[List.length_nil,List.length_cons];omega)
  |(rw[i2,List.nil_append];exact(jr wb i0 (by assumption)).symm)
  |(rw[k2];exact(jr wx k0 (by assumption)).symm)
  |(rw[k2,List.nil_append];exact(jr wx k0 (by assumption)).symm)
  |exact⟨trivial,trivial⟩
  |trivial
  |exact rfl
  |done):p:=h
theorem af3 {p:Prop}(h:p:=by
 intro O r F hO hr hF;cbv
 repeat' first|apply And.intro|(apply bF<;>intro hb<;>cbv)
 all_goals(subst hO hr hF;(try simp only[nc]at*);(try simp only[ah,SS,sa,az]at*))
 all_goals(try simp only[jm]at*)
 all_goals(try have ht:htB b x f=true:=(by assumption))
 all_goals(try have hi:=aa3 ht)
 all_goals(try have hq:=NZ wb hi.1 hi.2 kb ho ha)
 all_goals(try simp only[afK wb hi.1 hi.2]at*)
 all_goals(try have wb:=wb)
 all_goals first
  | (show(_:List DV)=_
     first
      |(have q:=aia (to:=to) (a:=a) (by assumption:htB b x f=false);exact M5 (Ts q).symm rfl q.symm)
      |(have q:=aib (by assumption:mailOk (sdU b f to a) x=false);exact M5 (Ts q).symm rfl q.symm)
      |(have q:=aic ht (by assumption:mailOk (sdU b f to a) x=true);exact M5 (N0 q).symm rfl q.symm)
      |done)
  | (show(_:List H)=_
     first
      |done)
  |omega
  |exact gj
  |exact N
  |exact⟨wb,wx,by omega,by omega⟩
  |exact aeA hq.1 wx (by omega) (by omega)
  |exact⟨hq.1,wx,by omega,by omega⟩
  |exact Mb wb hi.1 hi.2
  |exact afJ wb kb hi.1 hi.2
  |exact Qr wb hi.1 hi.2
  |exact Qq wb hi.1 hi.2
  |exact⟨hi.1,hi.2⟩
  |(show aP _ _=true;kernel_rfl)
  |exact⟨True.intro,True.intro⟩
  |exact True.intro
  |done):p:=h
theorem ace {p:Prop}(h:p:=by
 try have hct:=dz (es:=es) (n:=i.toNat) (by omega);rw[he]at hct;simp only[cU,fR,Nat.add_zero,Nat.zero_add]at hct
 have hle1:=bS (es:=es) (n:=i.toNat+1)
 have hcE:ak es=es.length+bL es:=rfl
 first|exact oC hwf g0 hlt|exact⟨g0,hlt⟩|(rw[hm];exact gS (by rw[lJ g1];omega) (by rw[pv (by omega)];exact Nat.le_refl _))|omega|(rw[show(i+1).toNat=i.toNat+1 from by omega, <-CL (by omega), <-hm,gU (by rw[hm,pv (by omega)];rfl),he])|(rw[hm,lJ g1];exact⟨trivial,rfl⟩)|(rw[hm,show i.toNat=es.length from by omega,CK])|trivial|(refine⟨hr0,?_⟩;simp only[aQ,ak,Nat.add_zero];omega)|trace_state):p:=h
theorem af4 {p:Prop}(h:p:=by
 intro O r F hO hr hF;cbv
 repeat' first|apply And.intro|(apply bF<;>intro hb<;>cbv)
 all_goals(subst hO hr hF;(try simp only[nc]at*);(try simp only[ah,SS,sa,az]at*))
 all_goals(try simp only[jm]at*)
 all_goals(try have ht:clB ls k=true:=(by assumption))
 all_goals(try have hi:=FI ht)
 all_goals(try have k1:k<ls.length:=(by omega))
 all_goals(try have hq:=aaq hw hc ht ha)
 all_goals(try simp only[agS hw ht]at*)
 all_goals(try have hw:=hw)
 all_goals first
  | (show(_:List DV)=_
     first
      |(have q:=agO (a:=a) (by assumption:clB ls k=false);exact MI (acI q).symm q.symm)
      |(have q:=agP (by assumption:caOk (CI ls k a)=false);exact MI (acI q).symm q.symm)
      |(have q:=agQ ht (by assumption:caOk (CI ls k a)=true);exact MI (acJ q).symm q.symm)
      |done)
  | (show(_:List H)=_
     first
      |done)
  |omega
  |exact gj
  |exact N
  |exact⟨hw,by omega⟩
  |exact Ng hq.1 hq.2
  |exact⟨hq.1,hq.2⟩
  |exact Eg hw hi.1 k1
  |exact agR hw hc ht
  |exact aau hw hi.1 k1
  |exact aat hw hi.1 k1
  |exact⟨hi.1,k1⟩
  |exact⟨hi.1,by omega⟩
  |(show aP _ _=true;kernel_rfl)
  |exact⟨True.intro,True.intro⟩
  |exact True.intro
  |done):p:=h
theorem af5 {p:Prop}(h:p:=by
 (try simp only[lD (l:=a6) (sz:=3) (j:=1) (i:=ix) x0]at*)
 first
  | (show(_:List DV)=_
     first
      |done)
  | (show(_:List H)=_
     first
      |(exfalso;have q:(1:Int)≠1:=(by assumption);exact q rfl)
      |(have b0:rY (aw a9 t 0) (ab a6 ix 1) ad=true:=(by assumption);have b:OH a6 a9 t ad=true:=(Te g v).trans b0;have z:=ahR (me:=aI) (kp:=aJ) (mv:=aK) (c:=a0) (u:=a1) (e:=a2) (f:=a5) b;rw[z.1,z.2.1,z.2.2.1,z.2.2.2.1,z.2.2.2.2.1,z.2.2.2.2.2,afk g v hp.r9 t0 t1 b0];exact rfl)
      |(have b0:rY (aw a9 t 0) (ab a6 ix 1) ad=false:=(by assumption);have b:OH a6 a9 t ad=false:=(Te g v).trans b0;have z:=ahQ (me:=aI) (kp:=aJ) (mv:=aK) (c:=a0) (u:=a1) (e:=a2) (f:=a5) b;rw[z.1,z.2.1,z.2.2.1,z.2.2.2.1,z.2.2.2.2.1,z.2.2.2.2.2];exact rfl)
      |done)
  |omega
  |exact gj
  |exact⟨hp.r6,hp.r7⟩
  |exact⟨hp.r6,by omega⟩
  |exact⟨wc,by omega,by omega,by omega⟩
  |exact⟨hp,hk,hn,h5,g,ix,v⟩
  |exact uh hp.r6 x0 x1
  |exact sr hp.r6 x0 x1 (by decide)
  |exact Ma hp.r9 t0 t1
  |exact Ky hp.r9 t0 t1
  |exact Tv hp.r9 t0 t1
  |exact⟨t0,t1⟩
  |exact⟨x0,x1⟩
  |(show aP _ _=true;kernel_rfl)
  |exact⟨True.intro,True.intro⟩
  |exact True.intro
  |done):p:=h
theorem af6 {p:Prop}(h:p:=by
 (subst hO hr hF;(try simp only[nc]at*);(try simp only[ah,SS,sa,az]at*))
 try rw[db (by omega) (by omega)]
 try(have hol:out.length=i.toNat:=(by rw[i2,List.length_take];omega))
 try(have hsc:=rP hc i0 (by assumption);have hsl:=au (es:=aw ls i 0))
 first
  | (show(_:List DV)=_
     first
      |exact rfl
      |(rw[i2,jq (by omega)];rfl)
      |(rw[i2,k2,jq (by omega),jq (by omega)];rfl)
      |done)
  |omega
  |exact gj
  |(show aP _ _=true;kernel_rfl)
  |exact Rw.scal (fs:=[tI]) (by(first|assumption|exact Rw.sub (by first|assumption|exact Rw.sub (by assumption) (by omega) rfl) (by omega) rfl)) rfl
  |exact Rw.scal (fs:=[tI,tI]) (by(first|assumption|exact Rw.sub (by first|assumption|exact Rw.sub (by assumption) (by omega) rfl) (by omega) rfl)) rfl
  |exact⟨by(first|assumption|exact Rw.sub (by first|assumption|exact Rw.sub (by assumption) (by omega) rfl) (by omega) rfl),by omega⟩
  |(simp only[List.length_nil,List.length_cons];omega)
  |(rw[i2];exact(jr hc i0 (by assumption)).symm)
  |(rw[i2,List.nil_append];exact(jr hc i0 (by assumption)).symm)
  |exact⟨trivial,trivial⟩
  |trivial
  |exact rfl
  |done):p:=h
theorem QJ {p:Prop}(h:p:=by
 intro O r os F hO hr hos hF;cbv
 repeat' first|apply And.intro|(apply bF<;>intro hb<;>cbv)
 all_goals((try subst hos);subst hO hr hF;(try simp only[nc]at*);(try simp only[ah,SS,sa,az]at*))
 all_goals(try simp only[jU,List.cons_append,List.nil_append,cF]at*)
 all_goals first|trivial|(refine⟨by assumption,?_,?_,?_⟩<;>(try simp only[jU,List.cons_append,List.nil_append,aQ,Nat.add_zero])<;>omega)|trace_state):p:=h
theorem QK {p:Prop}(h:p:=by
 intro O r F hO hr hF;cbv
 repeat' first|apply And.intro|(apply bF<;>intro hb<;>cbv)
 all_goals(subst hO hr hF;(try simp only[nc]at*);(try simp only[ah,SS,sa,az]at*))
 all_goals(try simp only[jU,List.cons_append,List.nil_append]at*)
 all_goals first|trivial|(exfalso;omega)|(obtain⟨x,y1,y2,y3⟩:=e0;exact⟨x,y1,y2,y3,by omega,by omega⟩)|(refine⟨by assumption,by omega,by omega⟩)|trace_state):p:=h
theorem acf {p:Prop}(h:p:=by
 try have hct:=dz (es:=es) (n:=i.toNat) (by omega);rw[he]at hct;simp only[cU,fR,Nat.add_zero,Nat.zero_add]at hct
 have hle1:=bS (es:=es) (n:=i.toNat+1)
 simp only[aQ,ak,Nat.add_zero]at hsz hsz2
 first|exact oC hwf g0 hlt|exact⟨hr0,by omega,by omega⟩|trivial|omega|(rw[hn,VW];omega)|(rw[hn,VX (by rw[show i.toNat=es.length from by omega,List.take_length]at g3;omega),show l=left-ak es from by rw[show i.toNat=es.length from by omega,List.take_length]at g3;omega])|(rw[show(i+1).toNat=i.toNat+1 from by omega,hct];omega)|trace_state):p:=h
theorem af7 {p:Prop}(h:p:=by
 intro O r os F hO hr hos hF;cbv
 repeat' first|apply And.intro|(apply bF<;>intro hb<;>cbv)
 all_goals((try subst hos);subst hO hr hF;(try simp only[nc]at*);(try simp only[ah,SS,sa,az]at*))
 all_goals(try simp only[e1]at*)
 all_goals(try simp only[lD (l:=a6) (sz:=3) (j:=0) (i:=i) i0]at*)
 all_goals first
  |(show(_:List DV)=_;exact rfl)
  | (show(_:List H)=_
     first
      |exact rfl
      |(have d:=LQ (a0:=a0) (a1:=a1) (a2:=a2) (a6:=a6) (i:=i);rw[d.1,d.2.1,d.2.2,agY, <-HC i0 i1];exact rfl)
      |done)
  |omega
  |exact gj
  |(show aP _ _=true;kernel_rfl)
  |exact sr hp.r6 i0 i1 (by decide)
  |exact hs6
  |(show _/\_;simp only[Kt,sc,List.length_nil,List.length_append,List.length_take,List.length_drop];omega)
  |exact⟨acO hp,hk,hn,h5,g0,by omega,by omega⟩
  |exact⟨by omega,by omega,by omega⟩
  |exact⟨hp.r0,hp.r1,hp.r2,hp.r4,km⟩
  |exact⟨by unfold zlI;omega,by unfold zlI;omega,hp.r5,by omega⟩
  |exact⟨True.intro,True.intro⟩
  |exact True.intro
  |done):p:=h
theorem af8 {p:Prop}(h:p:=by
 (subst hO hr hF;(try simp only[nc]at*);(try simp only[ah,SS,sa,az]at*))
 try rw[db (by omega) (by omega)]
 try(have hol:out.length=i.toNat:=(by rw[i2,List.length_take];omega))
 try(have hsc:=rP hr9 i0 (by assumption);have hsl:=au (es:=aw a9 i 0))
 first
  | (show(_:List DV)=_
     first
      |exact rfl
      |(rw[i2,jq (by omega)];rfl)
      |done)
  |omega
  |exact gj
  |(show aP _ _=true;kernel_rfl)
  |exact hs5
  |exact hs6
  |exact hs7
  |exact hs8
  |exact⟨hr0,hr1,hr2,hr4,by omega,by omega,by omega,by omega⟩
  |exact⟨hr5,by omega⟩
  |exact⟨hr10,hr11,by omega,by omega⟩
  |exact⟨hr13,by omega⟩
  |exact⟨hr21,by omega⟩
  |exact⟨Bg hr9 i0 (by assumption),by omega⟩
  |(simp only[List.length_nil,List.length_cons];omega)
  |(rw[i2];exact(jr hr9 i0 (by assumption)).symm)
  |exact⟨trivial,trivial⟩
  |trivial
  |exact rfl
  |done):p:=h
theorem QM {p:Prop}(h:p:=by
 intro O r os F hO hr hos hF;cbv
 repeat' first|apply And.intro|(apply bF<;>intro hb<;>cbv)
 all_goals((try subst hos);subst hO hr hF;(try simp only[nc]at*);(try simp only[ah,SS,sa,az]at*))
 all_goals(try simp only[jU,List.cons_append,List.nil_append,cF]at*)
 all_goals first|trivial|trace_state):p:=h
theorem af9 {p:Prop}(h:p:=by
 (try have z:=abD (by assumption))
 (try have y2:=hp.xn j)
 (try have y1:=hp.bn i)
 (try have z6:bO .add .i64 k 1=k+1:=bz (by omega))
 (try simp only[z6]at*)
 first
  | (show(_:List DV)=_
     first
      |(refine vR ?_;exact aho (by assumption))
      |(refine vR ?_;exact aaP j2 (by assumption) j1 (by assumption))
      |done)
  |omega
  |exact gj
  |exact Rw.scal (Rw.sub (fs:=[.sl [tI]]) hxw (by omega) rfl) rfl
  |(have q:=k2.l;constructor<;>(simp only[List.length_cons,List.length_nil];omega))
  |(have q:=j2.l;constructor<;>omega)
  |exact acV k2 k0
  |exact aaK k2 i0 y1 k1 (by omega)
  |exact ag6 i2
  |exact ag7 i2 i1 (by omega)
  |exact ac4 j2 j0 y2
  |exact ag1
  |exact⟨True.intro,True.intro⟩
  |done):p:=h
theorem aga {p:Prop}(h:p:=by
 (try simp only[z9]at*)
 first
  | (show(_:List DV)=_
     first
      |(refine ai ?_;symm;exact abA (by assumption))
      |(refine ai ?_;symm;exact abB (by assumption))
      |(refine ai ?_;symm;exact M6 i0 (by omega) k0 (by assumption) (aeK (by assumption)))
      |(refine ai ?_;symm;exact M6 i0 (by omega) k0 (by assumption) (aeL (by assumption)))
      |(refine ai ?_;symm;exact abC i0 (by omega) j0 (by assumption) (agJ (by assumption)))
      |(refine ai ?_;rw[abz i2 (by assumption) (by omega) i1 (by omega)];rfl)
      |done)
  |omega
  |exact gj
  |(show aP _ _=true;kernel_rfl)
  |exact bK
  |exact aZ k2 (aeM (by assumption) (by assumption))
  |exact aZ j2 (acq (by assumption))
  |exact aeo i2 i0 k2 (by omega) j2 (by omega)
  |exact ahA
  |done):p:=h
theorem agb {p:Prop}(h:p:=by
 (subst hO hr hF;(try simp only[nc]at*);(try simp only[ah,SS,sa,az]at*))
 try rw[db (by omega) (by omega)]
 (try have z:=Cr i0 (by omega))
 (try simp only[z]at*)
 first
  | (show(_:List DV)=_
     first
      |(refine ai ?_;symm;exact abV i0 (by assumption) (by assumption))
      |(refine ai ?_;symm;exact abW i0 (by assumption) (by assumption) (by assumption))
      |(refine ai ?_;exact abU i2 (by omega))
      |(have q:false=true:=(by assumption);cases q)
      |done)
  |omega
  |exact gj
  |(show aP _ _=true;kernel_rfl)
  |exact bK
  |exact aZ i2 (Qh (by assumption) (by omega))
  |exact aZ i2 (Qi (by assumption) (by assumption))
  |done):p:=h
theorem agc {p:Prop}(h:p:=by
 intro O r F hO hr hF;cbv
 repeat' first|apply And.intro|(apply bF<;>intro hb<;>cbv)
 all_goals(subst hO hr hF;(try simp only[nc]at*);(try simp only[ah,SS,sa,az]at*))
 all_goals(try have hs:=KS.1 (by assumption:slB b i=true))
 all_goals(try have hw:=G4 hs.2.1 hs.2.2)
 all_goals(try simp only[hw]at*)
 all_goals first
  | (show(_:List DV)=_
     first
      |(refine cq ?_;unfold woN;rw[show slB b i=false from(by assumption)];exact rfl)
      |(refine cq ?_;unfold woN;rw[VW (by assumption:slB b i=true)])
      |done)
  |omega
  |exact gj
  |(show aP _ _=true;kernel_rfl)
  |exact⟨True.intro,True.intro⟩
  |exact True.intro
  |done):p:=h
theorem agd {p:Prop}(h:p:=by
 (subst hO hr hF;(try simp only[nc]at*);(try simp only[ah,SS,sa,az]at*))
 try rw[db (by omega) (by omega)]
 first|omega|exact gj|exact bK|contradiction|exact ai (aaM (by assumption)).symm|exact ai (aaN (by omega)).symm|exact ai (aaO i0 (by omega) (by omega)).symm|exact ai (L6 i0 (by omega) k0 (by omega) (.inl (by assumption))).symm|exact ai (L6 i0 (by omega) k0 (by omega) (.inr ⟨by assumption,by assumption⟩)).symm|exact ai (L8 (by assumption) (by omega) i2 (by omega)).symm|exact aZ i2 (RI (by omega) k2 (by omega))|exact aZ k2 (Rm (by assumption) (by first|exact .inl (by assumption)|exact .inr (by assumption)))|trace_state):p:=h
theorem agf {p:Prop}(h:p:=by
 intro O r F hO hr hF;cbv
 repeat' first|apply And.intro|(apply bF<;>intro hb<;>cbv)
 all_goals(subst hO hr hF;(try simp only[nc]at*);(try simp only[ah,SS,sa,az]at*))
 all_goals first
  | (show(_:List DV)=_
     first
      |exact cq (ag2 (by assumption)).symm
      |exact cq (ag3 (by assumption) (by assumption)).symm
      |exact cq (ag4 (by assumption) (by omega)).symm
      |exact cq (ag5 (by assumption) (by omega) (by assumption)).symm
      |done)
  | (show(_:List H)=_
     first
      |done)
  |omega
  |exact gj
  |exact⟨hs,hg,ls,lg',ha⟩
  |(show aP _ _=true;kernel_rfl)
  |exact⟨True.intro,True.intro⟩
  |exact True.intro
  |done):p:=h
theorem agh {p:Prop}(h:p:=by
 intro O r F hO hr hF;cbv
 repeat' first|apply And.intro|(apply bF<;>intro hb<;>cbv)
 all_goals(subst hO hr hF;(try simp only[nc]at*);(try simp only[ah,SS,sa,az]at*))
 all_goals first
  | (show(_:List DV)=_
     first
      |(have q:=aie (p:=p) (k:=k) (b:=b) (x:=s) (by assumption);rw[q.1,q.2];exact rfl)
      |(have q:=aif (p:=p) (k:=k) (b:=b) (x:=s) (by assumption);rw[q.1,q.2];exact rfl)
      |(have q:=afO (p:=p) (k:=k) (b:=b) (x:=s) (by assumption) (by assumption);rw[q.1,q.2];exact rfl)
      |done)
  |omega
  |exact gj
  |(show aP _ _=true;kernel_rfl)
  |exact⟨True.intro,True.intro⟩
  |exact True.intro
  |done):p:=h
theorem agi {p:Prop}(h:p:=by
 intro O r os F hO hr hos hF;cbv
 repeat' first|apply And.intro|(apply bF<;>intro hb<;>cbv)
 all_goals((try subst hos);subst hO hr hF;(try simp only[nc]at*);(try simp only[ah,SS,sa,az]at*))
 all_goals first
  |(show(_:List DV)=_;exact rfl)
  | (show(_:List H)=_
     first
      |(have q:=agT (cs:=cs) (us:=us) (es:=es) (f:=f) (by assumption);first|(rw[q.1,q.2,TF wc f0 f1,afY wu f0 (by omega)];done)|(rw[q.1,q.2,TF wc f0 f1,afY wu f0 (by omega)];exact rfl))
      |(have q:=agU (cs:=cs) (us:=us) (es:=es) (f:=f) (by assumption);first|(rw[q.1,q.2];done)|(rw[q.1,q.2];exact rfl))
      |done)
  |omega
  |exact⟨we,el⟩
  |(show aP _ _=true;kernel_rfl)
  |exact aig wu f0 (by omega)
  |exact Tv wc f0 f1
  |exact⟨True.intro,True.intro⟩
  |exact True.intro
  |done):p:=h
theorem agj {p:Prop}(h:p:=by
 intro O r F hO hr hF;cbv
 repeat' first|apply And.intro|(apply bF<;>intro hb<;>cbv)
 all_goals(subst hO hr hF;(try simp only[nc]at*);(try simp only[ah,SS,sa,az]at*))
 all_goals first
  | (show(_:List DV)=_
     first
      |exact ai (acD (by assumption)).symm
      |exact ai (acE (by assumption)).symm
      |exact ai (acF (by assumption)).symm
      |exact ai (acG (by assumption)).symm
      |done)
  | (show(_:List H)=_
     first
      |done)
  |omega
  |exact gj
  |exact hp
  |(show aP _ _=true;kernel_rfl)
  |exact⟨True.intro,True.intro⟩
  |exact True.intro
  |done):p:=h
theorem acg {p:Prop}(h:p:=by
 try have hct:=dz (es:=es) (n:=i.toNat) (by omega);rw[he]at hct;simp only[cU,fR,Nat.add_zero,Nat.zero_add]at hct
 have hle1:=bS (es:=es) (n:=i.toNat+1)
 have hcE:ak es=es.length+bL es:=rfl
 first|omega|exact oC hwf g0 hlt|trivial|(refine⟨trivial,hr0,?_⟩;simp only[aQ,ak,Nat.add_zero];omega)|trace_state):p:=h
theorem agk {p:Prop}(h:p:=by
 (subst hO hr hF;(try simp only[nc]at*);(try simp only[ah,SS,sa,az]at*))
 try rw[db (by omega) (by omega)]
 try(have hpl:=EI (es:=es) (f:=f) (n:=i.toNat);rw[<-i2]at hpl)
 first|omega|exact gj|(exact⟨trivial,trivial⟩)|rfl|(simp only[List.length_cons,List.length_nil];omega)|(rw[P9 i0 (by assumption) (by assumption), <-i2])|(rw[Ny i0 (.inl (by assumption)), <-i2])|(rw[Ny i0 (.inr (by assumption)), <-i2])|exact Iq (by rw[i2,show i.toNat=es.length from by omega];rfl)|trace_state):p:=h
theorem agl {p:Prop}(h:p:=by
 intro O r F hO hr hF;cbv
 repeat' first|apply And.intro|(apply bF<;>intro hb<;>cbv)
 all_goals(subst hO hr hF;(try simp only[nc]at*);(try simp only[ah,SS,sa,az]at*))
 all_goals(try simp only[hsb]at*)
 all_goals(try simp only[bH,AJ]at*)
 all_goals first|exact Q5 (JN (by omega)).1.symm (JN (by omega)).2.symm|exact Q5 (Nw (by omega)).1.symm (Nw (by omega)).2.symm|exact gj|trace_state):p:=h
theorem agm {p:Prop}(h:p:=by
 intro O r F hO hr hF;cbv
 repeat' first|apply And.intro|(apply bF<;>intro hb<;>cbv)
 all_goals(subst hO hr hF;(try simp only[nc]at*);(try simp only[ah,SS,sa,az]at*))
 all_goals(try simp only[jU,List.cons_append,List.nil_append]at*)
 all_goals first|trivial|(exfalso;omega)|(obtain⟨x,y1,y2,y3⟩:=e0;exact⟨x,y1,y2,y3,by omega,by omega⟩)|(obtain⟨x,y1,y2,y3⟩:=e1;exact⟨x,y1,y2,y3,by omega,by omega⟩)|(refine⟨by assumption,by omega,by omega⟩)|(refine⟨by assumption,by assumption,by omega,by omega⟩)|trace_state):p:=h
theorem agn {p:Prop}(h:p:=by
 intro O r F hO hr hF;cbv
 repeat' first|apply And.intro|(apply bF<;>intro hb<;>cbv)
 all_goals(subst hO hr hF;(try simp only[nc]at*);(try simp only[ah,SS,sa,az]at*))
 all_goals try(have hs:=KS.1 (‹slB b i=true›);have hw:=G4 hs.2.1 hs.2.2;simp only[hw]at*)
 all_goals first
  | (show(_:List DV)=_
     first
      |exact ai (Ml (by assumption)).symm
      |(refine ai (gW ?_);unfold hsB;rw[show slB b i=true from by assumption,Bool.true_and,VV];simp only[SS])
      |done)
  |omega
  |trace_state):p:=h
theorem ago {p:Prop}(h:p:=by
 intro O r F hO hr hF;cbv
 repeat' first|apply And.intro|(apply bF<;>intro hb<;>cbv)
 all_goals(subst hO hr hF;(try simp only[nc]at*);(try simp only[ah,SS,sa,az]at*))
 all_goals(try simp only[hsb]at*)
 all_goals first
  | (show(_:List DV)=_
     first
      |exact ai (adw (by assumption)).symm
      |exact ai (adx (by assumption)).symm
      |exact ai (ady (by assumption)).symm
      |exact ai (adz (by assumption)).symm
      |done)
  |exact hp
  |(show aP _ _=true;kernel_rfl)
  |exact True.intro
  |done):p:=h
theorem agp {p:Prop}(h:p:=by
 (subst hO hr hF;(try simp only[nc]at*);(try simp only[ah,SS,sa,az]at*))
 try rw[db (by omega) (by omega)]
 first|omega|exact gj|exact bK|contradiction|exact ai (Og i2 (by omega)).symm|(simp only[bH,AJ]at*;first|exact ai (afV i0 (by omega) (by omega)).symm|exact aZ i2 (TD (by omega)))|trace_state):p:=h
theorem agq {p:Prop}(h:p:=by
 (subst hO hr hF;(try simp only[nc]at*);(try simp only[ah,SS,sa,az]at*))
 try rw[db (by omega) (by omega)]
 first|(show(_:List DV)=_;exact cq (abR i2 i1 (by omega)))|omega|exact gj|exact ahG|exact ae8 i2 i0 (by omega)|done):p:=h
theorem agr {p:Prop}(h:p:=by
 intro O r F hO hr hF;cbv
 repeat' first|apply And.intro|(apply bF<;>intro hb<;>cbv)
 all_goals(subst hO hr hF;(try simp only[nc]at*);(try simp only[ah,SS,sa,az]at*))
 all_goals(try have t:=bH.1 hb)
 all_goals(try have z:bO .sub .i64 n l=n-l:=dG (by omega))
 all_goals(try simp only[z]at*)
 all_goals first|(show(_:List DV)=_;refine ai ?_;unfold rngIn;simp[hb];done)|done):p:=h
theorem ags {p:Prop}(h:p:=by
 (try simp only[bH,AJ]at*)
 (try rw[db (by omega) (by omega)])
 first|trivial|omega|exact Rp (by omega) (by assumption) (by omega)|(have:=Rp (k:=k) (s:=s) (by omega) (by assumption) (by omega);omega)|exact cq (acH (by omega)).symm|exact cq (aan (by omega) (by assumption) (by omega) (by assumption)).symm|exact .inl trivial|(rw[show k+1-1=k by omega];exact .inr (by assumption))|trace_state):p:=h
theorem ach {p:Prop}(h:p:=by
 intro O r F hO hr hF;cbv
 repeat' first|apply And.intro|(apply bF<;>intro hb<;>cbv)
 all_goals(subst hO hr hF;(try simp only[nc]at*);(try simp only[ah,SS,sa,az]at*))
 all_goals first|exact rfl|done):p:=h
theorem agt {p:Prop}(h:p:=by
 intro O r F hO hr hF;cbv
 repeat' first|apply And.intro|(apply bF<;>intro hb<;>cbv)
 all_goals(subst hO hr hF;(try simp only[nc]at*);(try simp only[ah,SS,sa,az]at*))
 all_goals first
  | (show(_:List DV)=_
     first
      |exact Iq (L5 (by assumption)).symm
      |exact Iq (Jf (by assumption)).symm
      |done)
  |exact⟨hw,hn⟩
  |exact hw
  |exact⟨True.intro,True.intro⟩
  |trace_state):p:=h
theorem agu {p:Prop}(h:p:=by
 intro O r F hO hr hF;cbv
 repeat' first|apply And.intro|(apply bF<;>intro hb<;>cbv)
 all_goals(subst hO hr hF;(try simp only[nc]at*);(try simp only[ah,SS,sa,az]at*))
 all_goals first
  | (show(_:List DV)=_
     first
      |exact ai (by unfold slB;rw[VT (by assumption)];rfl)
      |exact ai (by unfold slB;rw[VU (by omega)];rfl)
      |done)
  |trace_state):p:=h
theorem agv {p:Prop}(h:p:=by
 intro O r F hO hr hF;cbv
 repeat' first|apply And.intro|(apply bF<;>intro hb<;>cbv)
 all_goals(subst hO hr hF;(try simp only[nc]at*);(try simp only[ah,SS,sa,az]at*))
 all_goals first|(show aP _ _=true;kernel_rfl)|exact hs|exact⟨hc,hu,he,hn,hm,hk⟩|exact⟨hr,by omega⟩|exact⟨trivial,trivial⟩|trivial|(simp only[List.length_nil];omega)|exact rfl|done):p:=h
theorem agw {p:Prop}(h:p:=by
 intro O r F hO hr hF;cbv
 repeat' first|apply And.intro|(apply bF<;>intro hb<;>cbv)
 all_goals(subst hO hr hF;(try simp only[nc]at*);(try simp only[ah,SS,sa,az]at*))
 all_goals first|(show(_:List DV)=_;refine ai ?_;unfold mshB;simp[*];done)|(show(_:List DV)=_;refine ai ?_;unfold mshB;subst_vars;rw[cmp_eq];simp[*];done)|done):p:=h
theorem agx {p:Prop}(h:p:=by
 intro O r F hO hr hF;cbv
 repeat' first|apply And.intro|(apply bF<;>intro hb<;>cbv)
 all_goals(subst hO hr hF;(try simp only[nc]at*);(try simp only[ah,SS,sa,az]at*))
 all_goals iterate 1 (try simp(disch:=assumption) only[nG,List.cons_append,List.nil_append]at*)
 all_goals first|trivial|(rw[mX (by assumption)])|trace_state):p:=h
theorem agy {p:Prop}(h:p:=by
 intro O r F hO hr hF;cbv
 repeat' first|apply And.intro|(apply bF<;>intro hb<;>cbv)
 all_goals(subst hO hr hF;(try simp only[nc]at*);(try simp only[ah,SS,sa,az]at*))
 all_goals iterate 2 (try simp(disch:=assumption) only[nG,List.cons_append,List.nil_append]at*)
 all_goals first|trivial|(rw[mX (by assumption)])|trace_state):p:=h
theorem agz {p:Prop}(h:p:=by
 intro O r F hO hr hF;cbv
 repeat' first|apply And.intro|(apply bF<;>intro hb<;>cbv)
 all_goals(subst hO hr hF;(try simp only[nc]at*);(try simp only[ah,SS,sa,az]at*))
 all_goals first|(show aP _ _=true;kernel_rfl)|exact⟨hc,hu,hn,hm⟩|exact⟨he,by omega⟩|exact⟨trivial,trivial⟩|trivial|exact rfl|trace_state):p:=h
theorem agA {p:Prop}(h:p:=by
 intro O r F hO hr hF;cbv
 repeat' first|apply And.intro|(apply bF<;>intro hb<;>cbv)
 all_goals(subst hO hr hF;(try simp only[nc]at*);(try simp only[ah,SS,sa,az]at*))
 all_goals first
  | (show(_:List DV)=_
     first
      |exact cq (abM (by assumption))
      |exact cq (SJ (by assumption)).symm
      |done)
  |omega
  |done):p:=h
theorem aci {p:Prop}(h:p:=by
 (subst hO hr hF;(try simp only[nc]at*);(try simp only[ah,SS,sa,az]at*))
 (try simp only[hs]at*)
 first|trivial|(rw[hn,VW (by omega)])|trace_state):p:=h
theorem agB {p:Prop}(h:p:=by
 intro O r F hO hr hF;cbv
 repeat' first|apply And.intro|(apply bF<;>intro hb<;>cbv)
 all_goals(subst hO hr hF;(try simp only[nc]at*);(try simp only[ah,SS,sa,az]at*))
 all_goals first
  | (show(_:List DV)=_
     first
      |exact cq (ad8 (by assumption))
      |exact cq (ad9 (by assumption)).symm
      |done)
  |done):p:=h
theorem agC {p:Prop}(h:p:=by
 intro O r F hO hr hF;cbv
 repeat' first|apply And.intro|(apply bF<;>intro hb<;>cbv)
 all_goals(subst hO hr hF;(try simp only[nc]at*);(try simp only[ah,SS,sa,az]at*))
 all_goals first
  | (show(_:List DV)=_
     first
      |exact ai (gW (by unfold eqB;simp only[SS,VV]))
      |done)
  |done):p:=h
theorem agD {p:Prop}(h:p:=by
 intro O r F hO hr hF;cbv
 repeat' first|apply And.intro|(apply bF<;>intro hb<;>cbv)
 all_goals(subst hO hr hF;(try simp only[nc]at*);(try simp only[ah,SS,sa,az]at*))
 all_goals first|trivial|(refine⟨trivial,by assumption,?_⟩;(try simp only[aQ,Nat.add_zero]);omega)|trace_state):p:=h
theorem agE {p:Prop}(h:p:=by
 intro O r F hO hr hF;cbv
 repeat' first|apply And.intro|(apply bF<;>intro hb<;>cbv)
 all_goals(subst hO hr hF;(try simp only[nc]at*);(try simp only[ah,SS,sa,az]at*))
 all_goals first|trivial|(refine⟨by assumption,?_⟩;(try simp only[aQ,Nat.add_zero]);omega)|trace_state):p:=h
theorem agF {p:Prop}(h:p:=by
 intro O r F hO hr hF;cbv
 repeat' first|apply And.intro|(apply bF<;>intro hb<;>cbv)
 all_goals(subst hO hr hF;(try simp only[nc]at*);(try simp only[ah,SS,sa,az]at*))
 all_goals first|exact hp|(show(_:List DV)=_;refine ai ?_;unfold jbOk;simp[*];done)|done):p:=h
theorem agG {p:Prop}(h:p:=by
 first|trivial|(refine⟨by assumption,by omega,by first|omega|exact Int.le_trans (Bi (by assumption)) h1⟩)|(rw[mX (by assumption)])|exact congrArg (fun x=>[DV.one (L.v (Value.int IntKind.i64 x))]) (gK (a:=[a0]) (b:=[a1]) (by assumption)).symm|trace_state):p:=h
theorem agH {p:Prop}(h:p:=by
 intro O r F hO hr hF;cbv
 repeat' first|apply And.intro|(apply bF<;>intro hb<;>cbv)
 all_goals(subst hO hr hF;(try simp only[nc]at*);(try simp only[ah,SS,sa,az]at*))
 all_goals first|exact hp|exact rfl|done):p:=h
theorem agI {p:Prop}(h:p:=by
 first|exact cq (acK (by assumption)).symm|(refine cq ?_;rw[Ro (by assumption)])|(rw[bH]at*;omega)|trace_state):p:=h
theorem gj {p:Prop}(h:p:=by
 refine⟨by omega,by omega,(Rw.eta (by first|assumption|exact Rw.sub (by first|assumption|exact Rw.sub (by assumption) (by omega) rfl) (by omega) rfl) (by omega) (by omega)).trans ?_⟩;rfl):p:=h
end Go.V