/-
  A condition generator for functions on trees of data, part 2 of 5: values in memory, contracts, soundness.
-/
import Derived.Test.YtpldpilhgjpkjaaGreatWVA
set_option linter.all false
open Go
open Act renaming eval->XL
open Bool renaming and_eq_true->Zc,false_eq_true->ZI
open Builtin renaming append_->Xa,zeroCells->Yn,lenOf->WQ,firstCells->Vu,max_->WT,min_->WU,max2->Vv,min2->Vw,len_->Vx
open Deferred renaming ofValue->Xb
open Function renaming comp_def->WP
open Instr renaming fill->Y8
open IntKind renaming i64->Za
open List renaming flatten_cons->ZZ,mem_append->Zg,nodup_append->Zu,all_eq_true->Yo,size_toArray->Yw,length_append->Zh,length_take->Zm,length_drop->Zz,append_assoc->Zj,getElem?_append_left->Yd,getElem?_take->ZC,getElem?_append_right->ZX,getElem?_drop->Zy,take_append_drop->ZR,ext_getElem?->ZN,drop_drop->Ye,getElem?_eq_none->ZV,mem_cons->Zk,nodup_nil->ZL,eq_nil_of_length_eq_zero->YS,nodup_cons->Yr,map_cons->ZT,map_nil->YT,append_nil->Yb,mem_flatten->XK,getD->Zv,range->Zl,getElem?_map->ZD,getElem?_range->Y7,range'->YU,drop_take->YL,take_take->YV,flatMap_cons->YF,singleton_append->WS,getElem?_eq_some_iff->ZF,mapM_cons->Wm,map_append->YP,mem_map->ZO,mem_of_getElem?->Zw,getElem?_of_mem->YG
open Nat renaming lt_succ_self->YE,le_succ->Wk,le_refl->Zf,lt_or_ge->ZY,zero_add->Zx,add_zero->Zi,add_mul->Zs,mul_le_mul_right->Z4,le_of_not_lt->Wl,le_trans->Z8,lt_of_lt_of_le->Ym
open Oper renaming wp->YR,upon->Y9
open Option renaming map_eq_some_iff->ZB,bind_some->YC,map_some->Yf
open Option.some renaming inj->YA,injEq->Ya
open Region renaming wanted->YW
open Result renaming andThen_ok->Z2
open Sem renaming run_bind->ZQ,run_pure->Yi
open _root_.Array renaming length_toList->ZS,getElem?_toList->Z1,size_append->WR,empty_append->Xc,append_empty->XM,toList_map->Yx,toArray_toList->Yy,getD_eq_getD_getElem?->Yt,replicate->YX,getElem?_eq_some_iff->ZE
namespace Go.V
section
variable {P: Program} {o: Oper} {cx: Cx} {G: Gh} {g: Gm} {a: Act} {w: World}
def vz (g:Gm)(r j:Nat):Prop:=∀ h l,gl g r j=some h->h.c=.own l->False
def aac (g:Gm)(G:Gh)(w:World)(r j0 m:Nat)(c:H)(v:Value)(S:List Nat):Prop:=
 v.oneCell'=true/\match c with
  | .own l=>bN w l v S/\S.Nodup/\∀ b∈S,eV w b/\∃ r' j',G.ow b=some (.leaf r' j')/\vz g r' j'/\¬ (r'=r/\j0<=j'/\j'<j0+m)
  | .ro l=>S=[]/\∃ S',bN w l v S'/\∀ b∈S',G.ow b=some .ro
  | .gone=>S=[]
def tF (g:Gm)(G:Gh)(w:World)(r j0 m:Nat):List (H×Option Nat)->List Value->List (List Nat)->Prop
 |[],vs,Ss=>vs=[]/\Ss=[]
 |(c,_)::lts,vs,Ss=>∃ v vs' S Ss',vs=v::vs'/\Ss=S::Ss'/\aac g G w r j0 m c v S/\(∀ b∈S,b∉Ss'.flatten)/\tF g G w r j0 m lts vs' Ss'
def sH (P:Program)(w:World)(b o:Nat)(v:Value)(rest:List Value)(i:Nat)(cur:Array Value)(ty:TypeId)(hb:w.heap[b]?=some (.cells cur ty (0,0)))(hi:o+i<cur.size)(h1:v.oneCell'=true):
 (storeCells ⟨b,o,none⟩ (v::rest) i).run P w=(storeCells ⟨b,o,none⟩ rest (i+1)).run P (w.setRow b (cur.setIfInBounds (o+i) v)):=by
 have hcell:w.cell? ⟨b,o+i,none⟩=some cur[o+i]:=by rw[gh hb];simp[hi]
 have hfro:w.frozen? ⟨b,o+i,none⟩=false:=by simp[World.frozen?,hb]
 have hst:(store ((⟨b,o,none⟩:Addr).add i) v).run P w=.ok () (w.setRow b (cur.setIfInBounds (o+i) v)):=by
  rw[add_lit,run_store P w _ v _ h1,hcell];simp[hfro,setCell_eq_setRow w b (o+i) cur ty (0,0) v hb]
 simp only[storeCells,ZQ,hst,Z2]
def tF.step {w':World}{g':Gm}{G':Gh}{r j0 m:Nat}:∀ {lts:List (H×Option Nat)} {vs:List Value} {Ss:List (List Nat)},tF g G w r j0 m lts vs Ss->
 (∀ b∈Ss.flatten,w'.heap[b]?=w.heap[b]?/\G'.ow b=G.ow b)->(∀ b,G.ow b=some .ro->G'.ow b=some .ro/\w'.heap[b]?=w.heap[b]?)->
 (∀ r' j',¬ (r'=r/\j0<=j'/\j'<j0+m)->vz g r' j'->vz g' r' j')->tF g' G' w' r j0 m lts vs Ss
 |[],vs,Ss,h,_,_,_=>h
 | (c,og)::lts,vs,Ss,h,h1,h2,h3=>by
  obtain⟨v,vs',S,Ss',rfl,rfl,k1,k2,k3⟩:=h;refine⟨v,vs',S,Ss',rfl,rfl,⟨k1.1,?_⟩,k2,tF.step k3 (fun b hb=>h1 b (by simp[hb])) h2 h3⟩;have k:=k1.2;cases c with
  | own l=>
    simp only at k ⊢;obtain⟨q1,q2,q3⟩:=k;refine⟨bN.keep _ _ _ q1 (fun b hb=>(h1 b (by simp[hb])).1),q2,fun b hb=>?_⟩;obtain⟨u,r',j',e1,e2,e3⟩:=q3 b hb;have:=h1 b (by simp[hb]);exact⟨u.keep this.1,r',j',by rw[this.2];exact e1,h3 r' j' e3 e2,e3⟩
  | ro l=>
    simp only at k ⊢;obtain⟨q1,S',q2,q3⟩:=k;exact⟨q1,S',bN.keep _ _ _ q2 (fun b hb=>(h2 b (q3 b hb)).2),fun b hb=>(h2 b (q3 b hb)).1⟩
  |gone=>exact k
def nG {α:Type}(P:Program)(r b off j0 m:Nat):∀ (lts:List (H×Option Nat)) (vs:List Value) (Ss:List (List Nat)) (j:Nat) (gk:Gm) (Gk:Gh) (wk:World) (k:List W->Rd α) (ls:List Loc) (out:α),
 aO cx Gk gk a wk->Gk.loc r=some (b,off)->tF gk Gk wk r j0 m lts vs Ss->HZ cx lts vs->j0<=j->j+lts.length<=j0+m->(∀ i,i<lts.length->gk (.leaf r (j+i))=g (.leaf r (j+i)))->(ir r j lts k).Runs g ls out->
 ∃ w2 ls' G' w',aO cx G' (aT gk w2) a w'/\(k w2).Runs g ls' out/\(storeCells ⟨b,off+j0,none⟩ vs (j-j0)).run P wk=.ok () w'
 | [],vs,Ss,j,gk,Gk,wk,k,ls,out,hS,hl,hi,_,_,_,_,h=>by
   obtain⟨rfl,rfl⟩:=hi;exact⟨[],ls,Gk,wk,hS,by simpa[ir]using h,rfl⟩
 | (c,og)::lts,vs,Ss,j,gk,Gk,wk,k,ls,out,hS,hl,hi,hog,hj0,hjm,hag,h=>by
  obtain⟨v,vs',S,Ss',rfl,rfl,k1,k2,k3⟩:=hi;obtain⟨hog1,hog2⟩:=hog;simp only[ir]at h;obtain⟨hv,ls2,_,q,h⟩:=bB h;have q0:gk (.leaf r j)=some (.h hv):=by have:=hag 0 (by simp);simpa[q]using this
  obtain⟨mm,hm⟩:=hS.noloc r _ hl;obtain⟨b',off',cur,ty,f1,f2,f3,f4,f5⟩:=hS.boxes r mm hm;rw[hl]at f1;cases f1;obtain⟨_,mm',bx,_,p2,p3,_⟩:=hS.leaf r j _ q0;rw[hm]at p2;cases p2;have hlt:off+j<cur.size:=by omega
  let w':=wk.setRow b (cur.setIfInBounds (off+j) v)
  have hoth:∀ b',b'≠b->w'.heap[b']?=wk.heap[b']?:=fun b' hb'=>setRow_other wk b b' _ hb'
  have hnew0:w'.heap[b]?=some (.cells (cur.setIfInBounds (off+j) v) ty (0,0)):=setRow_heap wk b cur _ ty _ f3;have htok:∀ b',Gk.ow b'≠some (.box (Gk.lead r))->b'≠b:=by rintro b' h1 rfl;exact h1 f2
  have hokh:=hS.hok (av.2 q0);obtain⟨G',s1,s2,s3,s4,s5,s6⟩:=hS.upd q0 ⟨hv.ver+1,hv.iv+1,og,c⟩ v S w' (.inl ⟨YE _,Wk _⟩) rfl rfl rfl (by simp[w'])
   (fun b' _ h1 _=>hoth b' (by rintro rfl;exact h1 off hl))
   (by
     intro b1 off1 hl1;rw[hl]at hl1;cases hl1;refine⟨cur,_,ty,f3,hnew0,by simp,fun _=>by simp[hlt],fun i hi=>?_⟩;rw[Array.getElem?_setIfInBounds,VF (Ne.symm hi)])
   (by
     intro l hc b1 hb1;simp only[ew,hc]at hokh;have:=hokh.2.2 b1 hb1;exact this.2.keep (hoth b1 (htok b1 (by rw[this.1];simp))))
   (by
     have k:=k1.2;cases c with
     | own l=>
       simp only at k ⊢;refine⟨bN.keep _ _ _ k.1 (fun b1 hb1=>?_),k.2.1,fun b1 hb1=>?_⟩
       ·obtain⟨u,r',j',e1,_⟩:=k.2.2 b1 hb1;exact hoth b1 (htok b1 (by rw[e1];simp))
       ·obtain⟨u,r',j',e1,e2,_⟩:=k.2.2 b1 hb1;exact⟨u.keep (hoth b1 (htok b1 (by rw[e1];simp))),.inl (.inr ⟨r',j',e1,e2⟩)⟩
     | ro l=>
       simp only at k ⊢;obtain⟨_,S',e1,e2⟩:=k;exact⟨S',bN.keep _ _ _ e1 (fun b1 hb1=>hoth b1 (htok b1 (by rw[e2 b1 hb1];simp))),e2⟩
     |gone=>trivial) hog1
  have hitems:tF ((W.leaf r j ⟨hv.ver+1,hv.iv+1,og,c⟩).app gk) G' w' r j0 m lts vs' Ss':=by
   have key:∀ (lts:List (H×Option Nat)) (vs:List Value) (Ss:List (List Nat)),tF gk Gk wk r j0 m lts vs Ss->∀ b1∈Ss.flatten,∃ r' j',Gk.ow b1=some (.leaf r' j'):=by
    intro lts
    induction lts with
    |nil=>intro vs Ss h b1 hb1;obtain⟨_,rfl⟩:=h;simp at hb1
    | cons x lts ih=>
      obtain⟨c,og⟩:=x;intro vs Ss h b1 hb1;obtain⟨v,vs',S,Ss',rfl,rfl,k1,k2,k3⟩:=h;rw[ZZ,Zg]at hb1;rcases hb1 with hb1|hb1
      ·have k:=k1.2;cases c with
       |own l=>obtain⟨_,r',j',e,_⟩:=k.2.2 b1 hb1;exact⟨r',j',e⟩
       |ro l=>rw[k.1]at hb1;cases hb1
       |gone=>simp only at k;rw[k]at hb1;cases hb1
      ·exact ih vs' Ss' k3 b1 hb1
   refine k3.step ?_ ?_ ?_
   ·intro b1 hb1;obtain⟨r',j',e⟩:=key _ _ _ k3 b1 hb1;exact⟨hoth b1 (htok b1 (by rw[e];simp)),s6 b1 (fun _ hb2=>k2 b1 hb2 hb1)⟩
   ·intro b1 hb1;exact⟨s5 b1 hb1,hoth b1 (htok b1 (by rw[hb1];simp))⟩
   ·intro r' j' hne hno h' l' e1 e2;have hne2:¬ (r'=r/\j'=j):=by rintro⟨rfl,rfl⟩;exact hne ⟨rfl,hj0,by simp at hjm;omega⟩
    refine hno h' l' ?_ e2;rw[av]at e1 ⊢;simp only[W.app]at e1;rw[VF (by intro e;cases e;exact hne2 ⟨rfl,rfl⟩)]at e1;exact e1
  obtain⟨w2,ls3,G2,w3,t1,t2,t3⟩:=nG P r b off j0 m lts vs' Ss' (j+1) _ G' w' _ ls2 out s1 (by rw[s4];exact hl) hitems hog2 Uc (by simp at hjm;omega) (by
   intro i hi;have e:=hag (i+1) (by simp;omega);rw[show j+1+i=j+(i+1)from by omega];simp only[W.app];rw[VF (by intro e';injection e';omega)];exact e) h
  refine⟨.leaf r j ⟨hv.ver+1,hv.iv+1,og,c⟩::w2,ls3,G2,w3,by simpa[aT]using t1,t2,?_⟩;rw[sH P wk b (off+j0) v vs' (j-j0) cur ty f3 Uc k1.1];rw[show off+j0+(j-j0)=off+j from by omega,show j-j0+1=j+1-j0 from by omega];exact t3
def zI.items (hS:aO cx G g a w){lts:List (H×Option Nat)}{srcs:List (Nat×Nat)}{vs:List Value}{Ss:List (List Nat)}(h:zI g G w lts srcs vs Ss)(hd:bp srcs=true){g1:Gm}{r j0 m:Nat} 
 (hgone:∀ r' j',(r',j')∈srcs->vz g1 r' j') (hrange:∀ r' j',(r',j')∈srcs->¬ (r'=r/\j0<=j'/\j'<j0+m)):tF g1 G w r j0 m lts vs Ss:=by
 induction h with
 |nil=>exact⟨rfl,rfl⟩
 | @cons c og src v S ls srcs vs Ss hk hs ih=>
   obtain⟨d1,d2,d3⟩:=cJ hd;refine⟨v,vs,S,Ss,rfl,rfl,⟨hk.one hS,?_⟩,?_,ih d2 (fun r' j' hm=>hgone r' j' (by simp[hm])) (fun r' j' hm=>hrange r' j' (by simp[hm]))⟩
   ·have f:=hk.facts hS;cases hk with
    | own t=>
      simp only;refine⟨(t.facts hS).1,f.1,fun b hb=>?_⟩;obtain⟨u,r',j',m1,m2⟩:=f.2 b hb;exact⟨u,r',j',m2,hgone r' j' (by simp[m1]),hrange r' j' (by simp[m1])⟩
    |ro l v S' h h2=>exact⟨rfl,S',h,h2⟩
    |al r0 j0 h0 l i h1 h2 h3=>exact rfl
   ·intro b hb hb2;obtain⟨_,r',j',m1,m2⟩:=(hk.facts hS).2 b hb;have key:∀ {ls:List (H×Option Nat)} {srcs:List (Nat×Nat)} {vs:List Value} {Ss:List (List Nat)},zI g G w ls srcs vs Ss->∀ b∈Ss.flatten,∃ r j,(r,j)∈srcs/\G.ow b=some (.leaf r j):=by
     intro ls srcs vs Ss ht
     induction ht with
     |nil=>intro b hb;simp at hb
     | cons h hs ih=>
       intro b hb;rw[ZZ,Zg]at hb;rcases hb with hb|hb
       ·obtain⟨u,r,j,m1,m2⟩:=(h.facts hS).2 b hb;exact⟨r,j,by simp[m1],m2⟩
       ·obtain⟨r,j,m1,m2⟩:=ih b hb;exact⟨r,j,by simp[m1],m2⟩
    obtain⟨r2,j2,m3,m4⟩:=key hs b hb2;rw[m2]at m4;cases m4;exact d3 _ m1 m3
def tp {A Y B N:List Nat}(h:(A++Y++B).Nodup)(hn:N.Nodup)(hA:∀ b∈N,b∉A)(hB:∀ b∈N,b∉B):(A++N++B).Nodup:=by
 rw[Zu]at h ⊢;obtain⟨h1,h2,h3⟩:=h;rw[Zu]at h1 ⊢;obtain⟨h4,h5,h6⟩:=h1;refine⟨⟨h4,hn,fun x hx y hy e=>hA y hy (by subst e;exact hx)⟩,h2,fun x hx y hy e=>?_⟩;rcases Zg.1 hx with hx|hx;exact h3 x (by simp[hx]) y hy e;exact hB x hx (by subst e;exact hy)
variable {ls: List Loc} {ws: List W} {K: Act -> World -> Prop} {Q: Exit -> Act -> World -> Prop}
def qj {w':World}(hd:o.dst=none)(hr:(execOp a.eval o).run P w=.ok .skip w')(hk:K a w'):o.wp P a w K Q:=by
 unfold YR;rw[hr];simp only[Y9,hd,Act.put];exact hk
def vf {t:TypeId}{ti:TI}(hti:oO P t=some ti){x y:Operand}(ho:o.op=.store t x y){b o0:Nat}(he:a.eval x=.pointer (some ⟨b,o0,none⟩)){vs:List Value}(hc:(a.eval y).cells=vs.toArray)(hl:vs.length=ti.zero.length){w':World} 
 (hr:(storeCells ⟨b,o0,none⟩ vs 0).run P w=.ok () w'):(execOp a.eval o).run P w=.ok .skip w':=by
 obtain⟨i,z,e1,e2,e3,e4,e5⟩:=hD hti;unfold execOp;simp[ho,Instr.storeAt,he,Instr.sureAddr,storeVar,run_sizeOf e1,hc,e3,hl,hr]
end
section
variable {P: Program} {o: Oper} {cx: Cx} {G: Gh} {g: Gm} {a: Act} {w: World} {ls: List Loc} {ws: List W} {K: Act -> World -> Prop} {Q: Exit -> Act -> World -> Prop}
def FY {t:TypeId}{x y:Operand}(ho:o.op=.store t x y)(hdst:o.dst=none)(hS:aO cx G g a w)(h:(Cf P t x y).Runs g ls (.ws ws)) 
 (hk:∀ a' w',fC cx (aT g ws) a' w'->K a' w'):o.wp P a w K Q:=by
 unfold Cf at h;cases hti:oO P t with
 |none=>simp[hti,Rd.Runs]at h
 | some ti=>
   simp only[hti]at h;obtain⟨x0,ls1,hx,h⟩:=bA hS h;obtain⟨r0,ls2,hr,h⟩:=dI hS h;cases hl:dK r0 with
   |none=>simp[hl,Rd.Runs]at h
   | some as=>
     simp only[hl]at h;obtain⟨vs,yO,hv⟩:=iZ r0 as _ hl hr;obtain⟨iti,z,ei1,ei2,ei3,ei4,ei5⟩:=hD hti;have hslen:=(iw ei4).2.2;cases x0 with
     | pt r j=>
       simp only at h;obtain⟨lts,srcs,Ss,ls3,hp,hpl,h⟩:=pZ hS _ _ _ yO _ _ _ h;split at h
       ·rename_i hd;simp only[Zc,Yo]at hd;obtain⟨hdist,hrng⟩:=hd;have hrng':∀ r' j',(r',j')∈srcs->¬ (r'=r/\j<=j'/\j'<j+lts.length):=by
         intro r' j' hm ⟨e1,e2,e3⟩;have:=hrng (r',j') hm;simp[E1,e1,e2,e3]at this
        obtain⟨w1,ls4,hS1,h,hg1,hg2⟩:=gy srcs g hS (fun _ _ _=>rfl) hdist _ _ _ h;have hno:∀ r' j',(r',j')∈srcs->vz (aT g w1) r' j':=by
         intro r' j' hm h' l q1 q2;obtain⟨h2,p1,p2⟩:=hg1 r' j' hm;rw[av,p1]at q1;cases q1;rw[p2]at q2;cases q2
        obtain⟨b,off,e1,e2⟩:=hx;have hlen:vs.length=lts.length:=hp.length.1;obtain⟨w2,ls5,G',w',s1,s2,s3⟩:=nG (g:=g) P r b off j lts.length lts vs Ss j _ G w _ _ _ hS1 e1 (hp.items hS hdist hno hrng') (hp.orgs hS) (Zf _) (Zf _)
         (fun i hi=>hg2 _ (by rintro r' j' e hm;cases e;exact hrng' _ _ hm ⟨rfl,Uc,Uc⟩)) h
        simp only[Rd.Runs,Out.ws.injEq]at s2;obtain⟨_,rfl⟩:=s2;rw[Nat.sub_self]at s3;refine qj hdst (vf hti ho e2 (rh hv (hp.one hS)) (by rw[hlen,hpl,hslen]) s3) (hk _ _ ?_);rw[cr];exact⟨G',s1⟩
       ·simp[Rd.Runs]at h
     | pn r j ver iv p=>
       simp only at h;obtain⟨lts,srcs,Ss,ls3,ht,htl,h⟩:=fX hS _ _ _ yO _ _ _ h;split at h
       ·rename_i hd;simp only[Zc,Yo]at hd;obtain⟨hdist,hrng⟩:=hd;have hnm:(r,j)∉srcs:=fun hm=>by have:=hrng (r,j) hm;simp at this
        obtain⟨w1,ls4,hS1,h,hg1,hg2⟩:=gy srcs g hS (fun _ _ _=>rfl) hdist _ _ _ h;obtain⟨h0,ls5,q1,q2,h⟩:=bB h;split at h
        ·rename_i hgood;cases hc:h0.c with
         | own l=>
           simp only[hc]at h;cases hg:bT l p with
           |none=>simp[hg,Rd.Runs]at h
           | some pr=>
             obtain⟨rec,jj⟩:=pr;simp only[hg,Rd.Runs,Out.ws.injEq]at h;obtain⟨hlen,_,rfl⟩:=h;obtain⟨h1,f1,f2,f3,f4,f5⟩:=hx;rw[q1]at f1;cases f1;obtain⟨b,o0,g1,g2⟩:=f5 hgood l hc;have q3:aT g w1 (.leaf r j)=some (.h h0):=by rw[hg2 _ (by rintro r' j' e hm;cases e;exact hnm hm)];exact q2
             have hok:=hS1.hok (av.2 q3);simp only[ew,hc]at hok;obtain⟨cur,ty,fz,base,Sa,S1,Sb,m1,m2,m3,m4,m5,m6,m7⟩:=focus p l _ _ b o0 rec jj hok.1 hok.2.1 g1 hg;have hbS:b∈G.fp r j:=by rw[m2];simp[m3]
             obtain⟨how,hunf⟩:=hok.2.2 b hbS;have hfz:=hunf.cells m1;subst hfz;have hlt:lts.length=vs.length:=by rw[ht.toPks.length.1];simp
             have hvl:(lts.map (·.1)).length=vs.length:=by simp[hlt]
             let cur':=(cur.toList.take o0++vs++cur.toList.drop (o0+vs.length)).toArray
             let w':=w.setRow b cur'
             have hsz:cur'.size=cur.size:=by
              simp only[cur',Yw,Zh,Zm,Zz,ZS];rw[m4];omega
             have hst:(storeCells ⟨b,o0,none⟩ vs 0).run P w=.ok () w':=by
              have:=run_storeCells_at P b o0 ty vs 0 cur w m1 Uc (ht.one hS)
              simpa[w',cur']using this
             have hoth:∀ b',b'≠b->w'.heap[b']?=w.heap[b']?:=fun b' hb'=>setRow_other w b b' _ hb'
             have hnew0:w'.heap[b]?=some (.cells cur' ty (0,0)):=setRow_heap w b cur _ ty _ m1;have hcell:∀ i,cur'[i]?=if o0<=i/\i<o0+vs.length then vs[i-o0]? else cur[i]?:=by
              intro i;simp only[cur',List.getElem?_toArray];have l1:(cur.toList.take o0).length=o0:=by simp only[Zm,ZS];omega
              rcases ZY i o0 with hi|hi
              ·rw[VF Uc,Zj,Yd Uc,ZC,VE hi];simp
              ·rcases ZY i (o0+vs.length)with hi2|hi2
               ·rw[VE ⟨hi,hi2⟩,Zj,ZX Uc,l1,Yd Uc]
               ·rw[VF Uc,Zj,ZX Uc,l1,ZX Uc,Zy];have:o0+vs.length+(i-o0-vs.length)=i:=by omega
                rw[this];simp
             have hfac:=ht.facts hS hdist;have hndb:b∉S1/\b∉Sb:=by
              have hn:=hok.2.1;rw[m2]at hn;rw[Zu]at hn;obtain⟨n1,n2,n3⟩:=hn;rw[Zu]at n1;exact⟨fun hb=>n1.2.2 b m3 b hb rfl,fun hb=>n3 b (by simp[m3]) b hb rfl⟩
             have hlen':jj+vs.length<=rec.length:=by omega
             have m6':ak w (rec.take jj++((rec.drop jj).take vs.length++(rec.drop jj).drop vs.length)) ((cur.toList.drop base).take rec.length) S1:=by
              rw[ZR,ZR];exact m6
             obtain⟨Sx,Sr,rfl,x1,x2⟩:=ak.split m6';obtain⟨Sy,Sz,rfl,x3,x4⟩:=ak.split x2;have lj:(rec.take jj).length=jj:=by simp only[Zm];omega
             have ly:((rec.drop jj).take vs.length).length=vs.length:=by simp only[Zm,Zz];omega
             have hnb:∀ c∈Ss.flatten,c≠b:=by
              rintro c hc0 rfl;obtain⟨_,r',j',k1,k2⟩:=hfac.2 c hc0;rw[how]at k2;cases k2;exact hnm k1
             have hnfp:∀ c∈Ss.flatten,c∉G.fp r j:=by
              intro c hc0 hcf;obtain⟨_,r',j',k1,k2⟩:=hfac.2 c hc0;rw[(hok.2.2 c hcf).1]at k2;cases k2;exact hnm k1
             have rd1:ak w' (rec.take jj) (((cur'.toList.drop base).take rec.length).take jj) Sx:=by
              have:=ak.keep (w':=w') _ _ _ x1 (fun c hc0=>hoth c (by rintro rfl;exact hndb.1 (by simp[hc0])));rw[lj]at this;have e:(((cur'.toList.drop base).take rec.length).take jj)=(((cur.toList.drop base).take rec.length).take jj):=by
               apply ZN;intro i;simp only[ZC,Zy,Z1];by_cases ci:i<jj
               ·have hci:=hcell (base+i);rw[VF Uc]at hci;rw[hci]
               ·simp[ci]
              rw[e];simpa using this
             have rd2:ak w' (lts.map (·.1)) vs Ss.flatten:=ak.keep _ _ _ (ht.rec_ hS) (fun c hc0=>hoth c (hnb c hc0));have rd3:ak w' ((rec.drop jj).drop vs.length) (((cur'.toList.drop base).take rec.length).drop (jj+vs.length)) Sz:=by
              have:=ak.keep (w':=w') _ _ _ x4 (fun c hc0=>hoth c (by rintro rfl;exact hndb.1 (by simp[hc0])));rw[lj,ly]at this;have e:(((cur'.toList.drop base).take rec.length).drop (jj+vs.length))=(((cur.toList.drop base).take rec.length).drop (jj+vs.length)):=by
               apply ZN;intro i;simp only[ZC,Zy,Z1];by_cases ci:jj+vs.length+i<rec.length
               ·have hci:=hcell (base+(jj+vs.length+i));rw[VF Uc]at hci;rw[hci]
               ·simp[ci]
              rw[e, <-Ye];exact this
             have hmid:(cur'.toList.drop base).take rec.length=((cur'.toList.drop base).take rec.length).take jj++(vs++((cur'.toList.drop base).take rec.length).drop (jj+vs.length)):=by
              have e3:((cur'.toList.drop base).take rec.length).drop jj=vs++((cur'.toList.drop base).take rec.length).drop (jj+vs.length):=by
               rw[<-Ye]
               conv=>lhs;rw[<-ZR vs.length (((cur'.toList.drop base).take rec.length).drop jj)]
               congr 1
               apply ZN;intro i;simp only[ZC,Zy,Z1];by_cases ci:i<vs.length
               ·have hci:=hcell (base+(jj+i));rw[VE Uc]at hci;rw[VE ci,VE Uc,hci]
                congr 1;omega
               ·rw[VF ci,ZV Uc]
              rw[<-e3,ZR]
             have rdall:ak w' (rec.take jj++lts.map (·.1)++rec.drop (jj+(lts.map (·.1)).length)) ((cur'.toList.drop base).take rec.length) (Sx++(Ss.flatten++Sz)):=by
              rw[hmid,Zj,hvl, <-Ye];exact rd1.append (rd2.append rd3)
             have hrd:=m7 w' cur' _ _ hnew0 hsz (by
              intro i hi;rw[hcell,VF Uc]) (by
              simp only[Zh,Zm,Zz,hvl];omega) rdall
              (fun c hc0 hcb=>hoth c hcb)
             rw[<-nF p l rec jj _ hg]at hrd;have hS':(Sa++(Sx++(Ss.flatten++Sz))++Sb).Nodup:=by
              have hn:=hok.2.1;rw[m2]at hn;have e4:Sa++(Sx++(Ss.flatten++Sz))++Sb=(Sa++Sx)++Ss.flatten++(Sz++Sb):=by simp
              have e5:Sa++(Sx++(Sy++Sz))++Sb=(Sa++Sx)++Sy++(Sz++Sb):=by simp
              rw[e4];rw[e5]at hn;refine tp hn hfac.1 (fun c hc0 hcA=>hnfp c hc0 ?_) (fun c hc0 hcB=>hnfp c hc0 ?_)
              ·rw[m2];rcases Zg.1 hcA with q|q<;>simp[q]
              ·rw[m2];rcases Zg.1 hcB with q|q<;>simp[q]
             have hlsz:∃ sz es,l=.s sz es:=by
              cases l with
              |s sz es=>exact⟨sz,es,rfl⟩
              |v y=>cases p<;>simp[bT]at hg
              |g=>cases p<;>simp[bT]at hg
              |m _ _=>cases p<;>simp[bT]at hg
             obtain⟨sz,es,hls⟩:=hlsz;obtain⟨es',hes1,hes2⟩:=BD l p (rec.take jj++lts.map (·.1)++rec.drop (jj+(lts.map (·.1)).length)) sz es hls;rw[<-nF p l rec jj _ hg]at hes1;obtain⟨G',s1,_⟩:=hS1.upd q3 ⟨h0.ver,h0.iv+1,h0.org,.own (mR l p (lts.map (·.1)))⟩ (G.val r j) (Sa++(Sx++(Ss.flatten++Sz))++Sb) w'
              (.inr ⟨rfl,YE _,rfl,.inl ⟨sz,es,es',by rw[hc,hls],by simp only[hes1],hes2⟩⟩) rfl rfl rfl (by simp[w'])
              (fun b' _ _ h2=>hoth b' (by rintro rfl;exact h2 l hc hbS))
              (by
                intro b1 off1 hl1;obtain⟨mm,hm⟩:=hS1.noloc r _ hl1;obtain⟨b2,off2,c2,t2,u1,u2,u3,u4,u5⟩:=hS1.boxes r mm hm;rw[hl1]at u1;cases u1;have hne:b1≠b:=by rintro rfl;rw[how]at u2;cases u2
                obtain⟨_,mm',bx,_,p2,p3,_⟩:=hS1.leaf r j _ q3;rw[hm]at p2;cases p2;exact⟨c2,c2,t2,u3,by rw[hoth b1 hne];exact u3,rfl,fun _=>u5 j p3,fun _ _=>rfl⟩)
              (by
                intro l' hc' b1 hb1;by_cases hb:b1=b
                ·subst hb;exact .inl ⟨cur',ty,hnew0⟩
                ·exact(hok.2.2 b1 hb1).2.keep (hoth b1 hb))
              (by
                simp only;refine⟨hrd,hS',fun b1 hb1=>?_⟩;have hcase:b1∈G.fp r j\/b1∈Ss.flatten:=by
                 rw[m2];simp only[Zg]at hb1 ⊢;rcases hb1 with(q|q|q|q)|q;exact .inl (.inl (.inl q));exact .inl (.inl (.inr (.inl q)));exact .inr q;exact .inl (.inl (.inr (.inr (.inr q))));exact .inl (.inr q)
                rcases hcase with q|q
                ·refine⟨?_,.inr ⟨l,hc,q⟩⟩;by_cases hb:b1=b
                 ·subst hb;exact .inl ⟨cur',ty,hnew0⟩
                 ·exact(hok.2.2 b1 q).2.keep (hoth b1 hb)
                ·obtain⟨u,r',j',k1,k2⟩:=hfac.2 b1 q;refine⟨u.keep (hoth b1 (hnb b1 q)),.inl (.inr ⟨r',j',k2,fun h' l' z1 z2=>?_⟩)⟩;obtain⟨h2,p1,p2⟩:=hg1 r' j' k1;rw[av,p1]at z1;cases z1;rw[p2]at z2;cases z2)
              (fun i e1=>hS1.anc r j h0 (av.2 q3) i e1)
             refine qj hdst (vf hti ho g2 (rh hv (ht.one hS)) (by rw[<-hlt,htl,hslen]) hst) (hk _ _ ?_);rw[cr];exact⟨G',s1⟩
         |ro l=>simp[hc,Rd.Runs]at h
         |gone=>simp[hc,Rd.Runs]at h
        ·simp[Rd.Runs]at h
       ·simp[Rd.Runs]at h
     |_=>simp[Rd.Runs]at h
end
end Go.V
namespace Go.V
def xy {w:World}:∀ {ls:ax} {vs:List Value} {S:List Nat},sn ls->ak w ls vs S->S=[]
 |[],vs,S,_,h=>by simp only[ak]at h;exact h.2
 | .v y::ls,vs,S,hs,h=>by
   simp only[ak]at h;obtain⟨v,vs',S1,S2,rfl,h1,h2,rfl⟩:=h;simp only[bN]at h1;have:=xy (ls:=ls) hs h2;subst this;simp[h1.2.2]
 | .g::ls,vs,S,hs,h=>hs.elim
 | .s _ _::ls,vs,S,hs,h=>hs.elim
def qd {w:World}{sz:Nat}:∀ {es:ab} {vs:List Value} {S:List Nat},cG es->bH w sz es vs S->S=[]
 |[],vs,S,_,h=>by simp only[bH]at h;exact h.2
 | e::es,vs,S,hs,h=>by
   simp only[bH]at h;obtain⟨v1,v2,S1,S2,rfl,hl,h1,h2,rfl⟩:=h;have q1:=xy hs.1 h1;have q2:=qd hs.2 h2;subst q1 q2;rfl
def ak.ones {w:World}:∀ {ls:ax} {vs:List Value} {S:List Nat},ak w ls vs S->∀ u∈vs,u.oneCell'=true
 |[],vs,S,h,u,hu=>by simp only[ak]at h;rw[h.1]at hu;cases hu
 | l::ls,vs,S,h,u,hu=>by
   simp only[ak]at h;obtain⟨v,vs',S1,S2,rfl,h1,h2,rfl⟩:=h;rcases Zk.1 hu with rfl|hu;exact bN.one h1;exact ak.ones h2 u hu
def bH.ones {w:World}{sz:Nat}:∀ {es:ab} {vs:List Value} {S:List Nat},bH w sz es vs S->∀ u∈vs,u.oneCell'=true
 |[],vs,S,h,u,hu=>by simp only[bH]at h;rw[h.1]at hu;cases hu
 | e::es,vs,S,h,u,hu=>by
   simp only[bH]at h;obtain⟨v1,v2,S1,S2,rfl,hl,h1,h2,rfl⟩:=h;rcases Zg.1 hu with hu|hu;exact ak.ones h1 u hu;exact bH.ones h2 u hu
section
variable {P: Program} {o: Oper} {cx: Cx} {G: Gh} {g: Gm} {a: Act} {w: World}
structure Src (g:Gm)(G:Gh)(w:World)(sz:Nat)(v:Value)(es:ab)(src:List (Nat×Nat))(base:Option Addr)(m c:Nat)(news:List Value)(S:List Nat):Prop where
 val:v=.slice base m c
 len:m=es.length
 cells:0<m->∃ b off,base=some ⟨b,off,none⟩/\∀ j u,news[j]?=some u->w.cell? ⟨b,off+j,none⟩=some u
 rd:bH w sz es news S
 nodup:S.Nodup
 tok:∀ b∈S,eV w b/\∃ r j,(r,j)∈src/\G.ow b=some (.leaf r j)
def yT {P:Program}(base:Option Addr)(w:World)(t ty e:TypeId)(i:TypeInfo)(z:Value)(ht:P.underlying t=some (.slice e))(hi:P.info? e=some i)(hz:i.zero=some z) 
 (a:Addr) (n c:Nat) (news:List Value) (hl:news.length=n*i.size) (hnews:∀ j v,news[j]?=some v->w.cell? (a.add j)=some v)
 (h0:0<n) (h63:(n:Int)<=9223372036854775807) (h48:n*i.bytes<=140737488355328):
 (Xa #[t,t] ty #[.slice base 0 0,.slice (some a) n c]).run P w=
   .ok (.slice (some ⟨w.heap.size,0,none⟩) n (grownCap w n 0 e)) (w.drew.alloc (.cells (news.toArray++Yn z.cells (grownCap w n 0 e-n)) e)):=by
 cases base with
 |none=>exact run_append_nil w t ty e i z ht hi hz a n c news hl hnews h0 h63 Uc
 | some b=>
   have:=run_append_grow (P:=P) w t ty e i z ht hi hz b 0 0 [] (by simp) (by simp) a n c news hl hnews Uc (by simpa using h63) (by
    rw[Zx,nextslicecap_zero h0];omega)
   simpa using this
def Src.of_view {sz lo m:Nat}{es:ab}{hv v:Value}{S:List Nat}(hr:bN w (.s sz es) hv S)(hsc:cG es)(hlo:lo+m<=es.length)(hw:d9 hv sz lo m v):
 ∃ base c news,Src g G w sz v ((es.drop lo).take m) [] base m c news []:=by
 obtain⟨base,len,cap,base',cap',g1,g2,g3,g4,g5,g6⟩:=hw;simp only[bN]at hr;obtain⟨base0,len0,cap0,q1,q2,q3,q4,q5⟩:=hr;rw[g1]at q1;cases q1;have hlen:((es.drop lo).take m).length=m:=by simp only[Zm,Zz];omega
 rcases q5 with⟨e2,e3⟩|⟨b,off,cur,ty,fz,S',f1,f2,f3,f4,f5⟩
 ·have hz:es.length=0:=by omega
  have:m=0:=by omega
  subst this;exact⟨base',cap',[],g2,hlen.symm,fun h=>by omega,by simp[bH],ZL,fun b hb=>by cases hb⟩
 ·have hS':=qd hsc f4;subst hS';obtain⟨S1,k1,k2⟩:=f4.sub lo m;have hS1:S1=[]:=by
   cases S1 with
   |nil=>rfl
   |cons x xs=>exact absurd (k2 x (by simp)) (by simp)
  subst hS1;refine⟨base',cap',_,g2,hlen.symm,fun hm=>?_,k1,ZL,fun b hb=>by cases hb⟩;rcases g6 with⟨r1,r2⟩|⟨b1,off1,off',r1,r2,r3,r4⟩;exfalso;omega
  ·rw[r1]at f1;cases f1;refine⟨_,off',r2,fun j u hj=>?_⟩;rw[hlen,ZC]at hj;split at hj
   ·rw[Zy]at hj;have:=fW f2 hj;rw[<-this,r4 hm];congr 2;omega
   ·cases hj
def rR (hS:aO cx G g a w){ti:TI}{x:A}{v:Value}(hx:iC (gl g) G w x v){α:Type}{k:ab->List (Nat×Nat)->Rd α}{ls:List Loc}{out:α}(h:(rQ ti x k).Runs g ls out):
 ∃ es src base m c news S ls',Src g G w ti.zero.length v es src base m c news S/\(k es src).Runs g ls' out:=by
 unfold rQ at h;cases x with
 | nl=>
   have hv:v=.slice none 0 0:=hx;exact⟨[],[],none,0,0,[],[],ls,⟨hv,rfl,fun h=>by omega,by simp[bH],ZL,fun b hb=>by cases hb⟩,h⟩
 | ro sz es=>
   simp only at h;split at h
   ·rename_i hb;simp only[Zc,beq_iff_eq]at hb;simp only[Rd.Runs]at h;obtain⟨S,h1,h2⟩:=hx;obtain⟨base,c,news,hsrc⟩:=Src.of_view (g:=g) (G:=G) (lo:=0) (m:=es.length) h1 h.1 Uc (d9.full h1);rw[<-hb.1];exact⟨_,_,base,_,c,news,[],ls,by simpa using hsrc,h.2⟩
   ·simp[Rd.Runs]at h
 | vw r j ver lo m=>
   simp only at h;obtain⟨hv,ls2,q1,q2,h⟩:=bB h;split at h
   ·rename_i sz es hc;split at h
    ·rename_i hb;simp only[Zc,beq_iff_eq]at hb;obtain⟨h2,f1,f2,f3⟩:=hx;rw[q1]at f1;cases f1;obtain⟨f4,f5⟩:=f3 hb.1 sz es hc;have hok:=hS.hok q1;simp only[ew,hc]at hok;rw[<-hb.2];split at h
     ·simp only[Rd.Runs]at h;obtain⟨base,c,news,hsrc⟩:=Src.of_view (g:=g) (G:=G) hok.1 h.1 f4 f5;exact⟨_,_,base,_,c,news,[],ls2,hsrc,h.2⟩
     ·simp only[Rd.Runs]at h;obtain⟨⟨h0,h1⟩,h⟩:=h;obtain⟨base,len,cap,base',cap',g1,g2,g3,g4,g5,g6⟩:=f5;have hok':=hok.1;simp only[bN]at hok';obtain⟨base0,len0,cap0,q1',q2',q3',q4',q5'⟩:=hok';rw[g1]at q1';cases q1';have hvv:=g5 h0 Uc;rcases q5' with⟨e2,e3⟩|⟨b,off,cur,ty,fz,S',f1',f2',f3',f4',f5'⟩
      ·have hz:es=[]:=YS Uc;subst hz;exact⟨[],_,base,len,cap,[],[],ls2,⟨by rw[hvv,g1],by simpa using q2',fun h=>by simp at q2';omega,by simp[bH],ZL,fun b hb=>by cases hb⟩,h⟩
      ·have hnd:=hok.2.1;rw[f5']at hnd;refine⟨es,_,base,len,cap,_,S',ls2,⟨by rw[hvv,g1],q2',fun _=>⟨b,off,f1',fun j' u hj=>fW f2' hj⟩,f4',(Yr.1 hnd).2,fun b' hb'=>?_⟩,h⟩;have:=hok.2.2 b' (by rw[f5'];simp[hb']);exact⟨this.2,r,j,by simp,this.1⟩
    ·simp[Rd.Runs]at h
   ·simp[Rd.Runs]at h
 | vn r j ver iv p lo m=>
   simp only at h;obtain⟨hv,ls2,q1,q2,h⟩:=bB h;split at h
   ·rename_i l hc;split at h
    ·rename_i hb;simp only[Zc]at hb;cases hg:bT l p with
     |none=>simp[hg,Rd.Runs]at h
     | some pr=>
       obtain⟨rec,j0⟩:=pr;simp only[hg]at h;split at h
       ·rename_i sz es hrec;split at h
        ·rename_i hsz;simp only[beq_iff_eq]at hsz;simp only[Rd.Runs]at h;obtain⟨h2,f1,f2,f2',fne,f3⟩:=hx;rw[q1]at f1;cases f1;obtain⟨bb,oo,hvv,f4,f5,f6,f7⟩:=f3 hb.1 l rec j0 sz es hc hg hrec;have hok:=hS.hok q1;simp only[ew,hc]at hok;obtain⟨cur,ty,fz,base,Sa,S1,Sb,m1,m2,m3,m4,m5,m6,_⟩:=focus p l _ _ bb oo rec j0 hok.1 hok.2.1 f4 hg;obtain⟨_,Sx,_,v',_,k2,k3⟩:=m6.at j0 _ hrec;have hvv':v'=hvv:=by
          have:=fW m1 k2;rw[<-m4,f5]at this;exact(YA this).symm
         subst hvv';obtain⟨base',c,news,hsrc⟩:=Src.of_view (g:=g) (G:=G) k3 h.1 f6 f7;rw[<-hsz];exact⟨_,_,base',_,c,news,[],ls2,hsrc,h.2⟩
        ·simp[Rd.Runs]at h
       ·simp[Rd.Runs]at h
    ·simp[Rd.Runs]at h
   ·simp[Rd.Runs]at h
 |_=>simp[Rd.Runs]at h
def aO.newSlice (hS:aO cx G g a w){d:Nat}(hlt:d<cx.n)(hd:g (.meta_ d)=none)(w':World)(hos:w'.os=w.os)(htape:w'.tape=w.tape)(hout:w'.output=w.output)(hsize:w.heap.size<=w'.heap.size) 
 (hsame:∀ b,b<w.heap.size->(∀ r j,G.ow b=some (.leaf r j)->∃ h l,gl g r j=some h/\h.c=.own l)->w'.heap[b]?=w.heap[b]?)
 (sz:Nat) (es:ab) (v:Value) (S:List Nat) (hr:bN w' (.s sz es) v S) (hnd:S.Nodup) (hf:∀ b∈S,eV w' b/\sX g G w b):
 fC cx (aT g (ownRow d sz es)) (a.put (some d) v) w':=by
 obtain⟨G',k1,k2,_,_⟩:=hS.newRoot' hd false [⟨0,0,none,.own (.s sz es)⟩] w' hos htape hout hsize hsame (fun _=>v) (fun _=>S)
  (by
    intro j h hj;have hj0:j=0:=by
     cases j with
     |zero=>rfl
     |succ j=>simp at hj
    subst hj0;simp at hj;subst hj;exact⟨hr,hnd,hf⟩)
  (fun j h hj=>by cases j with
    |zero=>simp at hj;subst hj;exact fg.none
    |succ j=>simp at hj)
  (by intro i j hi hj hij;simp at hi hj;omega) 0 0 (by simp)
 simp only[ownRow,aT];refine⟨G',k1.put hlt ?_⟩;simp only[cW];have hg:gl ((W.root d false [⟨0,0,none,.own (.s sz es)⟩]).app g) d 0=some ⟨0,0,none,.own (.s sz es)⟩:=by simp[gl,W.app]
 refine⟨_,hg,Zf _,fun _ sz' es' e=>?_⟩;cases e;rw[k2];exact⟨Uc,d9.full hr⟩
def wA (w:World)(t ty e:TypeId)(i:TypeInfo)(ht:P.underlying t=some (.slice e))(hi:P.info? e=some i) 
 (b off sLen sCap:Nat) (cur:Array Value) (bt:TypeId) (hg:w.heap[b]?=some (.cells cur bt (0,0)))
 (ad:Addr) (m c:Nat) (news:List Value) (hl:news.length=m*i.size) (hnews:∀ j u,news[j]?=some u->w.cell? (ad.add j)=some u) (h1:∀ u∈news,u.oneCell'=true)
 (hroom:sLen+m<=sCap) (hfit:off+sLen*i.size+news.length<=cur.size):
 (Xa #[t,t] ty #[.slice (some ⟨b,off,none⟩) sLen sCap,.slice (some ad) m c]).run P w=
   .ok (.slice (some ⟨b,off,none⟩) (sLen+m) sCap) (w.setRow b (cur.toList.take (off+sLen*i.size)++news++cur.toList.drop (off+sLen*i.size+news.length)).toArray):=by
 have hf:=run_firstCells_some (P:=P) w i.size m ad m c news hl hnews;have hst:=run_storeCells_at P b (off+sLen*i.size) bt news 0 cur w hg (by simpa using hfit) h1;simp only[Zi]at hst;simp[Xa,run_underlying ht,sizeOf,typeInfo,hi,WQ,hroom,hf,add_lit,hst]
def yU (w:World)(t ty e:TypeId)(i:TypeInfo)(ht:P.underlying t=some (.slice e))(hi:P.info? e=some i)(base base2:Option Addr)(sLen sCap c:Nat)(hroom:sLen<=sCap):
 (Xa #[t,t] ty #[.slice base sLen sCap,.slice base2 0 c]).run P w=.ok (.slice base sLen sCap) w:=by
 cases base<;>cases base2<;>simp[Xa,run_underlying ht,sizeOf,typeInfo,hi,WQ,hroom,Vu,loadCells,loadCellsFrom,storeCells]
variable {ls: List Loc} {ws: List W} {K: Act -> World -> Prop} {Q: Exit -> Act -> World -> Prop}
def jW {t:TypeId}{s x:Operand}(ho:o.op=.call {callee:=.builtin .append,args:= #[s,x],argTypes:= #[t,t]}){v vx v':Value}{w':World}(hs:a.eval s=v)(hx:a.eval x=vx) 
 (hr:(Xa #[t,t] o.type #[v,vx]).run P w=.ok v' w'):(execOp a.eval o).run P w=.ok (.value v') w':=by
 unfold execOp;simp only[ho,resolve,invoke,builtin,ZQ,Yi,Z2,List.map_toArray,ZT,YT,hs,hx,hr]
def wT {t:TypeId}{s x:Operand}(ho:o.op=.call {callee:=.builtin .append,args:= #[s,x],argTypes:= #[t,t]}){g1:Gm}(hS1:aO cx G g1 a w){d:Nat}(hd:o.dst=some d)(hlt:d<cx.n)(hm1:g1 (.meta_ d)=none) 
 {e:TypeId} {ti:TI} {bytes:Nat} (hel:Gu P t=some (e,ti,bytes)) {es:ab} {S:List Nat} (hrd0:bN w (.s ti.zero.length es) (a.eval s) S) (hnd0:S.Nodup) (htokS:∀ b∈S,eV w b/\sX g1 G w b)
 {es2:ab} {base2:Option Addr} {m c2:Nat} {news:List Value} {S2:List Nat} (hx2:a.eval x=.slice base2 m c2) (hlen2:m=es2.length) (hcell2:0<m->∃ b off,base2=some ⟨b,off,none⟩/\∀ j u,news[j]?=some u->w.cell? ⟨b,off+j,none⟩=some u)
 (hrd2:bH w ti.zero.length es2 news S2) (hnd2:S2.Nodup) (htokS2:∀ b∈S2,eV w b/\sX g1 G w b) (hdis:∀ b∈S,b∉S2) (hb1:(es.length+es2.length)*bytes<=70368744177664) (hb2:es.length+es2.length<=70368744177664)
 (hk:∀ a' w',fC cx (aT g1 (ownRow d ti.zero.length (es++es2))) a' w'->K a' w'):o.wp P a w K Q:=by
 obtain⟨e1,e2,inf,e3,e4,e5,e6⟩:=oX hel;obtain⟨i,z,f1,f2,f3,f4,f5⟩:=hD e2;rw[e3]at f1;cases f1;subst e4;have hrl:=hrd0;simp only[bN]at hrl;obtain⟨base,len,cap,q1,q2,q3,q4,q5⟩:=hrl;have hnl:news.length=m*inf.size:=by rw[hrd2.length,hlen2,e6]
 have hmlen:=hlen2;have hmax:(len+m)*inf.bytes<=70368744177664/\len+m<=70368744177664:=by rw[q2,hmlen];exact⟨hb1,hb2⟩
 have hdd:=hd;by_cases hm0:m=0
 ·have hes2:es2=[]:=YS Uc;subst hes2;have run:=yU (P:=P) w t o.type e inf e1 e3 base base2 len cap c2 q3;refine dM (jW ho q1 (by rw[hx2,hm0]) run) (hk _ _ ?_);rw[hdd,Yb, <-q1];exact hS1.newSlice hlt hm1 w rfl rfl rfl (Zf _) (fun _ _ _=>rfl) _ _ _ S hrd0 hnd0 htokS
 ·obtain⟨b2,off2,hbase2,hcells⟩:=hcell2 Uc;subst hbase2;have hnews:∀ j u,news[j]?=some u->w.cell? ((⟨b2,off2,none⟩:Addr).add j)=some u:=fun j u hj=>by rw[add_lit];exact hcells j u hj
  have hz0:z.cells.size=inf.size:=by
   have:=(iw f4).2.1
   simpa[e6]using this
  have wsame:∀ ob,Same (fun _=>True) w (w.drew.alloc ob):=fun ob=>⟨rfl,rfl,rfl,by simp,fun b hb _=>heap_alloc_old w.drew ob hb⟩
  have hold:∀ ob b,b<w.heap.size->(w.drew.alloc ob).heap[b]?=w.heap[b]?:=fun ob b hb=>heap_alloc_old w.drew ob hb
  rcases q5 with⟨r2,r3⟩|⟨b,off,cur,ty,fz,S',r1,r2,r3,r4,r5⟩
  ·subst r2 r3;have hl0:len=0:=by omega
   subst hl0;have hes:es=[]:=YS q2.symm;subst hes;have run:=yT (P:=P) base w t o.type e inf z e1 e3 f2 ⟨b2,off2,none⟩ m c2 news hnl hnews Uc Uc (by simp only[Zx]at hmax;omega);refine dM (jW ho q1 hx2 run) (hk _ _ ?_);rw[hdd,List.nil_append];have hge:=grownCap_ge w m 0 e;have hgm:=grownCap_le_maxLen w m 0 e (by unfold maxLen;omega);refine hS1.newRow hlt hm1 _ (wsame _) w.heap.size _ e (Zf _) (heap_alloc_new w.drew _) _ _ m _ hmlen hge hgm ?_ S2 ?_ hnd2 ?_
   ·simp only[WR,Yw,hnl,size_zeroCells,hz0, <-e6];rw[<-Zs];exact Z4 _ Uc
   ·have:(news.toArray++Yn z.cells (grownCap w m 0 e-m)).toList.take (m*ti.zero.length)=news:=by
     rw[<-e6, <-hnl];simp
    rw[this];exact bH.keep _ _ _ _ hrd2 (fun b hb=>hold _ b (htokS2 b hb).1.lt)
   ·intro b hb;have:=htokS2 b hb;exact⟨this.1.keep (hold _ b this.1.lt),this.2,fun e=>by have:=this.1.lt;omega⟩
  ·subst r1 r5;obtain⟨ub,hfb⟩:=htokS b (by simp);have hfz:fz=(0,0):=ub.cells r2;subst hfz;have hnd:=Yr.1 hnd0;have hrow:=r4.length;have hlc:(len+m)*inf.size=len*inf.size+m*inf.size:=Zs _ _ _;have hcapb:∀ k,k<=cap->k*ti.zero.length<=cap*ti.zero.length:=fun k hk=>Z4 _ hk
   by_cases hroom:len+m<=cap
   ·have hfit:off+len*inf.size+news.length<=cur.size:=by
     have:=hcapb _ hroom;rw[hnl];rw[<-e6]at this r3;omega
    have run:=wA (P:=P) w t o.type e inf e1 e3 b off len cap cur ty r2 ⟨b2,off2,none⟩ m c2 news hnl hnews hrd2.ones hroom hfit;refine dM (jW ho q1 hx2 run) (hk _ _ ?_);rw[hdd];have hoth:∀ (cs:Array Value) b',b'≠b->(w.setRow b cs).heap[b']?=w.heap[b']?:=fun cs b' hb'=>setRow_other w b b' _ hb'
    refine hS1.newSlice hlt hm1 (w.setRow b (cur.toList.take (off+len*inf.size)++news++cur.toList.drop (off+len*inf.size+news.length)).toArray) rfl rfl rfl (by simp) (fun b' hb' hl=>hoth _ b' (by
     rintro rfl;rcases hfb with hfb|⟨rb,jb,mb2,hno⟩
     ·have:=ub.lt;omega
     obtain⟨h',l',z1,z2⟩:=hl rb jb mb2;exact hno h' l' z1 z2)) _ _ _ (b::(S'++S2)) ?_ ?_ ?_
    ·simp only[bN];refine⟨_,len+m,cap,rfl,by simp[<-q2, <-hmlen],hroom,q4,.inr ⟨b,off,_,ty,(0,0),S'++S2,rfl,setRow_heap w b cur _ ty _ r2,?_,?_,rfl⟩⟩
     ·simp only[Yw,Zh,Zm,Zz,ZS];omega
     ·have hl1:(cur.toList.take (off+len*inf.size)).length=off+len*inf.size:=by simp only[Zm,ZS];omega
      have:((cur.toList.take (off+len*inf.size)++news++cur.toList.drop (off+len*inf.size+news.length)).toArray.toList.drop off).take ((len+m)*ti.zero.length)=(cur.toList.drop off).take (len*ti.zero.length)++news:=by
       rw[<-e6];apply ZN;intro k;have hl2:((cur.toList.drop off).take (len*inf.size)).length=len*inf.size:=by simp only[Zm,Zz,ZS];omega
       simp only[ZC,Zy];rcases ZY k (len*inf.size)with hk|hk
       ·have rhs:((cur.toList.drop off).take (len*inf.size)++news)[k]?=((cur.toList.drop off).take (len*inf.size))[k]?:=Yd Uc;have lhs:(cur.toList.take (off+len*inf.size)++news++cur.toList.drop (off+len*inf.size+news.length))[off+k]?=(cur.toList.take (off+len*inf.size))[off+k]?:=by
         rw[Zj];exact Yd Uc
        rw[VE Uc,rhs,lhs];simp only[ZC,Zy];rw[VE Uc,VE hk]
       ·have rhs:((cur.toList.drop off).take (len*inf.size)++news)[k]?=news[k-len*inf.size]?:=by
         rw[ZX Uc,hl2]
        rw[rhs];by_cases ck:k<(len+m)*inf.size
        ·have lhs:(cur.toList.take (off+len*inf.size)++news++cur.toList.drop (off+len*inf.size+news.length))[off+k]?=news[k-len*inf.size]?:=by
          rw[Zj,ZX Uc,hl1,Yd Uc];congr 1;omega
         rw[VE ck,lhs]
        ·rw[VF ck,ZV Uc]
      rw[this];exact(bH.keep _ _ _ _ r4 (fun c hc=>hoth _ c (by rintro rfl;exact hnd.1 hc))).append (bH.keep _ _ _ _ hrd2 (fun c hc=>hoth _ c (by rintro rfl;exact hdis _ (by simp) hc)))
    ·rw[Yr,Zu];refine⟨?_,hnd.2,hnd2,fun x hx y hy e=>hdis x (by simp[hx]) (by rw[e];exact hy)⟩;simp only[Zg,not_or];exact⟨hnd.1,hdis b (by simp)⟩
    ·intro c hc;have hcase:(c=b\/c≠b):=by omega
     rcases hcase with rfl|hcb;exact⟨.inl ⟨_,ty,setRow_heap w c cur _ ty _ r2⟩,(htokS c (by simp)).2⟩
     ·rcases Zk.1 hc with rfl|hc;exact absurd rfl hcb
      ·rcases Zg.1 hc with hc|hc;exact⟨(htokS c (by simp[hc])).1.keep (hoth _ c hcb),(htokS c (by simp[hc])).2⟩;exact⟨(htokS2 c hc).1.keep (hoth _ c hcb),(htokS2 c hc).2⟩
   ·have holds:∀ j u,((cur.toList.drop off).take (len*ti.zero.length))[j]?=some u->w.cell? ((⟨b,off,none⟩:Addr).add j)=some u:=fun j u hj=>by rw[add_lit];exact fW r2 hj
    have run:=run_append_grow (P:=P) w t o.type e inf z e1 e3 f2 ⟨b,off,none⟩ len cap _ (by rw[hrow, <-q2,e6]) holds ⟨b2,off2,none⟩ m c2 news hnl hnews Uc Uc (growslice_fits Uc Uc);refine dM (jW ho q1 hx2 run) (hk _ _ ?_);rw[hdd];have hge:=grownCap_ge w (len+m) cap e;have hgm:=grownCap_le_maxLen w (len+m) cap e (by unfold maxLen;omega);refine hS1.newRow hlt hm1 _ (wsame _) w.heap.size _ e (Zf _) (heap_alloc_new w.drew _) _ _ (len+m) _ (by simp[<-q2, <-hmlen]) hge hgm ?_ (S'++S2) ?_ ?_ ?_
    ·have hrow':((cur.toList.drop off).take (len*inf.size)).length=es.length*inf.size:=by rw[e6];exact hrow
     simp only[WR,Yw,hnl,size_zeroCells,hz0, <-e6,hrow', <-q2];rw[<-Zs, <-Zs];exact Z4 _ Uc
    ·have:(((cur.toList.drop off).take (len*ti.zero.length)).toArray++news.toArray++Yn z.cells (grownCap w (len+m) cap e- (len+m))).toList.take ((len+m)*ti.zero.length)=(cur.toList.drop off).take (len*ti.zero.length)++news:=by
      have hln:(((cur.toList.drop off).take (len*ti.zero.length))++news).length=(len+m)*ti.zero.length:=by
       rw[Zh,hrow,hnl, <-q2,e6,Zs]
      rw[<-hln];simp only[Array.toList_append,Zj];rw[<-Zj];exact List.take_left
     rw[this];exact(bH.keep _ _ _ _ r4 (fun c hc=>hold _ c (htokS c (by simp[hc])).1.lt)).append (bH.keep _ _ _ _ hrd2 (fun c hc=>hold _ c (htokS2 c hc).1.lt))
    ·rw[Zu];exact⟨hnd.2,hnd2,fun x hx y hy e=>hdis x (by simp[hx]) (by rw[e];exact hy)⟩
    ·intro c hc;have hu:eV w c/\sX (g1) G w c:=by
      rcases Zg.1 hc with hc|hc;exact htokS c (by simp[hc]);exact htokS2 c hc
     exact⟨hu.1.keep (hold _ c hu.1.lt),hu.2,fun e=>by have:=hu.1.lt;omega⟩
def sW {t t':TypeId}{s x:Operand}(ho:o.op=.call {callee:=.builtin .append,args:= #[s,x],argTypes:= #[t,t']})(hS:aO cx G g a w)(h:(nJ P cx.n o.dst t t' s x).Runs g ls (.ws ws)) 
 (hk:∀ a' w',fC cx (aT g ws) a' w'->K a' w'):o.wp P a w K Q:=by
 unfold nJ at h;split at h
 ·simp[Rd.Runs]at h
 ·rename_i e ti bytes hel;obtain⟨e1,e2,inf,e3,e4,e5,e6⟩:=oX hel;obtain⟨i,z,f1,f2,f3,f4,f5⟩:=hD e2;rw[e3]at f1;cases f1;subst e4;split at h
  ·rename_i htt;simp only[beq_iff_eq]at htt;subst htt;obtain⟨xa,ls1,hxa,h⟩:=bA hS h;obtain⟨xb,ls2,hxb,h⟩:=bA hS h;obtain⟨l,og,src,S,ls3,tk,h⟩:=nI hS hxa h;split at h
   ·rename_i sz0 es;split at h
    case isFalse=>simp[Rd.Runs]at h
    rename_i hsz0;simp only[beq_iff_eq]at hsz0;subst hsz0;obtain⟨es2,src2,base2,m,c2,news,S2,ls4,hsrc,h⟩:=rR hS hxb h;split at h
    ·rename_i hdist;simp only[Rd.Runs]at h;obtain⟨⟨hb1,hb2⟩,h⟩:=h;obtain⟨w1,ls5,hS1,h,hg1,hg2⟩:=gy (src++src2) g hS (fun _ _ _=>rfl) hdist _ _ _ h;obtain⟨d,ls6,hd,hlt,hm,h⟩:=cV h;simp only[Rd.Runs,Out.ws.injEq]at h;obtain⟨_,rfl⟩:=h;have hm1:aT g w1 (.meta_ d)=none:=by rw[hg2 _ (by intro r j e;cases e)];exact hm
     have tf:=tk.facts hS;obtain⟨d1,d2,d3⟩:=cJ hdist;have hno:∀ r j,(r,j)∈src++src2->vz (aT g w1) r j:=by
      intro r' j' hm' h' l' q1 q2;obtain⟨h2,p1,p2⟩:=hg1 r' j' hm';rw[av,p1]at q1;cases q1;rw[p2]at q2;cases q2
     have htokS:∀ b∈S,eV w b/\sX (aT g w1) G w b:=fun b hb=>by
      obtain⟨u,r,j,m1,m2⟩:=tf.2.2 b hb;exact⟨u,.inr ⟨r,j,m2,hno r j (by simp[m1])⟩⟩
     have htokS2:∀ b∈S2,eV w b/\sX (aT g w1) G w b:=fun b hb=>by
      obtain⟨u,r,j,m1,m2⟩:=hsrc.tok b hb;exact⟨u,.inr ⟨r,j,m2,hno r j (by simp[m1])⟩⟩
     have hdis:∀ b∈S,b∉S2:=by
      intro b hb hb2;obtain⟨_,r,j,m1,m2⟩:=tf.2.2 b hb;obtain⟨_,r',j',m3,m4⟩:=hsrc.tok b hb2;rw[m2]at m4;cases m4;exact d3 _ m1 m3
     refine wT ho hS1 hd hlt hm1 hel tf.1 tf.2.1 htokS hsrc.val hsrc.len hsrc.cells hsrc.rd hsrc.nodup htokS2 hdis hb1 hb2 (fun a' w' h2=>hk a' w' ?_);rw[cr];exact h2
    ·simp[Rd.Runs]at h
   ·simp[Rd.Runs]at h
  ·simp[Rd.Runs]at h
def bH.split {w:World}{sz:Nat}:∀ {l1 l2:ab} {vs:List Value} {S:List Nat},bH w sz (l1++l2) vs S->∃ v1 v2 S1 S2,vs=v1++v2/\S=S1++S2/\bH w sz l1 v1 S1/\bH w sz l2 v2 S2
 |[],l2,vs,S,h=>⟨[],vs,[],S,rfl,rfl,⟨rfl,rfl⟩,h⟩
 | e::l1,l2,vs,S,h=>by
   simp only[List.cons_append,bH]at h;obtain⟨v1,v2,S1,S2,rfl,hl,h1,h2,rfl⟩:=h;obtain⟨v3,v4,S3,S4,rfl,rfl,k1,k2⟩:=bH.split h2;refine⟨v1++v3,v4,S1++S3,S4,by simp,by simp,?_,k2⟩;simp only[bH];exact⟨v1,v3,S1,S3,rfl,hl,h1,k1,rfl⟩
def aO.reown (hS:aO cx G g a w){r j J:Nat}{S2:List Nat}(ho:∀ b∈S2,G.ow b=some (.leaf r j))(hfp:∀ b∈S2,b∉G.fp r j):
 aO cx {G with ow:=fun b=>if b∈S2 then some (.leaf r J)else G.ow b} g a w:=by
 have ro:∀ b,G.ow b=some .ro->(if b∈S2 then some (Tok.leaf r J)else G.ow b)=some .ro:=by
  intro b hb;split
  ·rename_i h;rw[ho b h]at hb;cases hb
  ·exact hb
 have fz:∀ b,G.ow b=some .fz->(if b∈S2 then some (Tok.leaf r J)else G.ow b)=some .fz:=by
  intro b hb;split
  ·rename_i h;rw[ho b h]at hb;cases hb
  ·exact hb
 have ro':∀ b,(if b∈S2 then some (Tok.leaf r J)else G.ow b)=some .ro->G.ow b=some .ro:=by
  intro b hb;split at hb
  ·cases hb
  ·exact hb
 let G2:Gh:={G with ow:=fun b=>if b∈S2 then some (.leaf r J)else G.ow b}
 have st:Step g G w g G2 w:=⟨fun r1 j1 h1 e=>⟨h1,e,.inl ⟨rfl,rfl,fun _ _ _ _=>rfl⟩⟩,fun b hb=>⟨ro b hb,rfl⟩,fun b hb=>⟨fz b hb,rfl⟩,fun _ _ h=>h⟩;refine⟨hS.defers,hS.tm,?_,?_,?_,hS.metas,hS.noloc,?_,hS.frame,?_,hS.anc,hS.aloc,hS.afr,hS.sep,hS.newb,fun b hb=>hS.roX b (ro' b hb)⟩
 ·intro d x hx;obtain⟨h1,r1,e,h2⟩:=hS.reg d x hx;exact⟨h1,r1,e,cW.step hS st r1 _ h2⟩
 ·intro r1 k hk;obtain⟨b,off,cur,ty,e1,e2,e3⟩:=hS.boxes r1 k hk;refine⟨b,off,cur,ty,e1,?_,e3⟩;show(if b∈S2 then some (Tok.leaf r J)else G.ow b)=_;rw[VF (fun h=>by rw[ho b h]at e2;cases e2)];exact e2
 ·intro r1 j1 x hx;obtain⟨h,k,box,e1,e2,e3,e4⟩:=hS.leaf r1 j1 x hx;refine⟨h,k,box,e1,e2,e3,?_⟩;unfold ew at e4 ⊢;split at e4
  ·rename_i l hc;simp only;refine⟨e4.1,e4.2.1,fun b hb=>⟨?_,(e4.2.2 b hb).2⟩⟩;have q:=(e4.2.2 b hb).1;show(if b∈S2 then some (Tok.leaf r J)else G.ow b)=_;rw[VF (fun h=>by
    rw[ho b h]at q;cases q;exact hfp b h hb)];exact q
  ·rename_i l hc;simp only;obtain⟨S,q1,q2⟩:=e4;exact⟨S,q1,fun b hb=>ro b (q2 b hb)⟩
  ·trivial
 ·intro b t hb;by_cases h:b∈S2;exact hS.lt b _ (ho b h)
  ·have hb':(if b∈S2 then some (Tok.leaf r J)else G.ow b)=some t:=hb;rw[VF h]at hb';exact hS.lt b t hb'
 ·intro b h1 h2;by_cases h:b∈S2
  ·rcases hS.frow b h1 h2 with q|q<;>rw[ho b h]at q<;>cases q
  ·show(if b∈S2 then some (Tok.leaf r J)else G.ow b)=none\/(if b∈S2 then some (Tok.leaf r J)else G.ow b)=some .ro;rw[VF h];exact hS.frow b h1 h2
end
end Go.V
namespace Go.V
def ak.items {w:World}:∀ {ls:ax} {vs:List Value} {S:List Nat},ak w ls vs S->∃ Ss:List (List Nat),Ss.flatten=S/\Ss.length=ls.length/\∀ j l,ls[j]?=some l->∃ v,vs[j]?=some v/\bN w l v (Ss.getD j [])
 |[],vs,S,h=>by simp only[ak]at h;exact⟨[],by simp[h.2],rfl,fun j l e=>by simp at e⟩
 | l::ls,vs,S,h=>by
   simp only[ak]at h;obtain⟨v,vs',S1,S2,rfl,h1,h2,rfl⟩:=h;obtain⟨Ss,k1,k2,k3⟩:=ak.items h2;refine⟨S1::Ss,by simp[k1],by simp[k2],fun j l' e=>?_⟩;cases j with
   |zero=>simp at e;subst e;exact⟨v,rfl,by simpa using h1⟩
   |succ j=>simp at e;obtain⟨v',q1,q2⟩:=k3 j l' e;exact⟨v',by simpa using q1,by simpa using q2⟩
def fF:∀ {Ss:List (List Nat)},Ss.flatten.Nodup->∀ i j,i≠j->∀ b∈Ss.getD i [],b∉Ss.getD j []
 |[],_,i,j,_,b,hb=>by simp at hb
 | S::Ss,h,i,j,hij,b,hb=>by
   rw[ZZ,Zu]at h;have mem:∀ k,b∈Ss.getD k []->b∈Ss.flatten:=by
    intro k hk;rw[XK];by_cases hl:k<Ss.length;exact⟨Ss[k],by simp,by simpa[Zv,hl]using hk⟩
    ·simp[Zv,ZV (Wl hl)]at hk
   intro hb2;cases i with
   | zero=>
     cases j with
     |zero=>exact hij rfl
     |succ j=>exact h.2.2 b (by simpa using hb) b (mem j (by simpa using hb2)) rfl
   | succ i=>
     cases j with
     |zero=>exact h.2.2 b (by simpa using hb2) b (mem i (by simpa using hb)) rfl
     |succ j=>exact fF h.2.1 i j Uc b (by simpa using hb) (by simpa using hb2)
def eS {Ss:List (List Nat)}{k b:Nat}(hk:b∈Ss.getD k []):b∈Ss.flatten:=by
 rw[XK];by_cases hl:k<Ss.length;exact⟨Ss[k],by simp,by simpa[Zv,hl]using hk⟩
 ·simp[Zv,ZV (Wl hl)]at hk
def ie:∀ {Ss:List (List Nat)},Ss.flatten.Nodup->∀ k,(Ss.getD k []).Nodup
 |[],_,k=>by simp
 | S::Ss,h,k=>by
   rw[ZZ,Zu]at h;cases k with
   |zero=>simpa using h.1
   |succ k=>simpa using ie h.2.1 k
section
variable {P: Program} {o: Oper} {cx: Cx} {G: Gh} {g: Gm} {a: Act} {w: World}
def Lk:A->List (Nat×Nat)
 | .vw r j _ _ _=>[(r,j)]
 | .vn r j _ _ _ _ _=>[(r,j)]
 |_=>[]
def Gj (hS:aO cx G g a w){slot:Option Nat}{x:A}{v:Value}(hx:iC (gl g) G w x v){α:Type}{k:L->Rd α}{ls:List Loc}{out:α}(h:(H5 slot x k).Runs g ls out):
 ∃ l S ls',bN w l v S/\(∀ b∈S,G.ow b=some .ro\/∃ r j,(r,j)∈Lk x/\G.ow b=some (.leaf r j))/\(k l).Runs g ls' out:=by
 have view:∀ {sz lo m:Nat} {es:ab} {hv:Value} {S:List Nat},bN w (.s sz es) hv S->lo+m<=es.length->d9 hv sz lo m v->∃ S1,bN w (.s sz ((es.drop lo).take m)) v S1/\∀ b∈S1,b∈S:=by
  intro sz lo m es hv S hr hlo hw;obtain⟨base,len,cap,base',cap',g1,g2,g3,g4,g5,g6⟩:=hw;have hr0:=hr;simp only[bN]at hr;obtain⟨base0,len0,cap0,q1,q2,q3,q4,q5⟩:=hr;rw[g1]at q1;cases q1;have hlen:((es.drop lo).take m).length=m:=by simp only[Zm,Zz];omega
  rcases q5 with⟨e1,e3⟩|⟨b,off,cur,ty,fz,S',f1,f2,f3,f4,f5⟩
  ·refine⟨[],?_,fun b hb=>by cases hb⟩;simp only[bN];exact⟨base',m,cap',g2,hlen.symm,g3,Uc,.inl ⟨Uc,trivial⟩⟩
  ·rcases g6 with⟨r1,r3⟩|⟨b1,off1,off',r1,r2,r3,r4⟩
   ·refine⟨[],?_,fun b hb=>by cases hb⟩;simp only[bN];exact⟨base',m,cap',g2,hlen.symm,g3,Uc,.inl ⟨r3,trivial⟩⟩
   rw[r1]at f1;cases f1;obtain⟨S1,k1,k2⟩:=f4.sub lo m;by_cases hm:0<m
   ·have ho:=r4 hm;refine⟨b::S1,?_,fun c hc=>by rw[f5];rcases Zk.1 hc with rfl|hc;exact .head _;exact .tail _ (k2 c hc)⟩;simp only[bN];refine⟨base',m,cap',g2,hlen.symm,g3,Uc,.inr ⟨b,off',cur,ty,fz,S1,r2,f2,Uc,?_,rfl⟩⟩;have hl2:m*sz+lo*sz<=len*sz:=by rw[<-Zs];exact Z4 _ Uc
    have:(cur.toList.drop off').take (m*sz)=(((cur.toList.drop off).take (len*sz)).drop (lo*sz)).take (((es.drop lo).take m).length*sz):=by
     apply ZN;intro k;rw[hlen,ho];simp only[ZC,Zy];by_cases ck:k<m*sz
     ·simp only[ck,if_true];rw[VE Uc];congr 1;omega
     ·simp[ck]
    rw[this];exact k1
   ·have hm0:m=0:=by omega
    subst hm0;refine⟨[b],?_,fun c hc=>by rw[f5];rcases Zk.1 hc with rfl|hc;exact .head _;cases hc⟩;simp only[bN,List.take_zero];exact⟨base',0,cap',g2,rfl,g3,Uc,.inr ⟨b,off',cur,ty,fz,[],r2,f2,Uc,by simp[bH],rfl⟩⟩
 unfold H5 at h;split at h
 ·rename_i y;have hv:v=y:=hx;subst hv;split at h
  ·rename_i hs;exact⟨_,[],ls,by simp[bN,hs],(fun b hb=>by cases hb),h⟩
  ·simp[Rd.Runs]at h
 ·have hv:v=.slice none 0 0:=hx;subst hv;exact⟨_,[],ls,by simp only[bN];exact⟨none,0,0,rfl,rfl,Zf _,Nat.zero_le _,.inl (by simp)⟩,(fun b hb=>by cases hb),h⟩
 ·split at h
  ·obtain⟨S,h1,h2⟩:=hx;exact⟨_,S,ls,h1,fun b hb=>.inl (h2 b hb),h⟩
  ·simp[Rd.Runs]at h
 ·obtain⟨hv,ls2,q1,q2,h⟩:=bB h;split at h
  ·rename_i sz' es hc;split at h
   ·rename_i hb;simp only[Zc,beq_iff_eq]at hb;obtain⟨h2,f1,f2,f3⟩:=hx;rw[q1]at f1;cases f1;obtain⟨f4,f5⟩:=f3 hb.1 _ es hc;have hok:=hS.hok q1;simp only[ew,hc]at hok;obtain⟨S1,k1,k2⟩:=view hok.1 f4 f5;exact⟨_,S1,ls2,k1,fun b hb=>.inr ⟨_,_,.head _,(hok.2.2 b (k2 b hb)).1⟩,h⟩
   ·simp[Rd.Runs]at h
  ·simp[Rd.Runs]at h
 ·obtain⟨hv,ls2,q1,q2,h⟩:=bB h;split at h
  ·rename_i l hc;split at h
   ·rename_i hgood;split at h
    ·rename_i rec j0 hg;split at h
     ·rename_i sz' es hrec;split at h
      ·obtain⟨h2,f1,f2,f2',fne,f3⟩:=hx;rw[q1]at f1;cases f1;obtain⟨bb,oo,hvv,f4,f5,f6,f7⟩:=f3 hgood l rec j0 _ es hc hg hrec;have hok:=hS.hok q1;simp only[ew,hc]at hok;obtain⟨cur,ty,fz,base,Sa,S1,Sb,m1,m2,m3,m4,m5,m6,_⟩:=focus _ l _ _ bb oo rec j0 hok.1 hok.2.1 f4 hg;obtain⟨Sy,Sx,Sz,v',e6,k2,k3⟩:=m6.at j0 _ hrec;have hvv':v'=hvv:=by
        have:=fW m1 k2;rw[<-m4,f5]at this;exact(YA this).symm
       subst hvv';obtain⟨S2,k1,k4⟩:=view k3 f6 f7;exact⟨_,S2,ls2,k1,fun b hb=>.inr ⟨_,_,.head _,(hok.2.2 b (by rw[m2,e6];simp[k4 b hb])).1⟩,h⟩
      ·simp[Rd.Runs]at h
     ·simp[Rd.Runs]at h
    ·simp[Rd.Runs]at h
   ·simp[Rd.Runs]at h
  ·simp[Rd.Runs]at h
 ·simp[Rd.Runs]at h
def H6 (hS:aO cx G g a w){slot:Option Nat}{x:A}{v:Value}(hx:iC (gl g) G w x v){α:Type}{k:L->Rd α}{ls:List Loc}{out:α}(h:(H5 slot x k).Runs g ls out):
 ∃ l S ls',bN w l v S/\(k l).Runs g ls' out:=by
 obtain⟨l,S,ls',h1,_,h2⟩:=Gj hS hx h;exact⟨l,S,ls',h1,h2⟩
def vC (hS:aO cx G g a w){α:Type}:∀ (slots:List (Option Nat)) (as:List A) (vs:List Value),bX (gl g) G w as vs->∀ (k:ax->Rd α) (ls:List Loc) (out:α),(f9 slots as k).Runs g ls out->
 ∃ l S ls',ak w l vs S/\(∀ b∈S,G.ow b=some .ro\/∃ r j,(r,j)∈as.flatMap Lk/\G.ow b=some (.leaf r j))/\(k l).Runs g ls' out
 |[],[],vs,hx,k,ls,out,h=>by simp only[bX]at hx;subst hx;exact⟨[],[],ls,by simp[ak],(fun b hb=>by cases hb),by simpa[f9]using h⟩
 |[],_::_,vs,hx,k,ls,out,h=>by simp[f9,Rd.Runs]at h
 |_::_,[],vs,hx,k,ls,out,h=>by simp[f9,Rd.Runs]at h
 | sl::sls,x::as,vs,hx,k,ls,out,h=>by
   obtain⟨v,vs',rfl,h1,h2⟩:=hx;simp only[f9]at h;obtain⟨l,S,ls2,k1,t1,h⟩:=Gj hS h1 h;obtain⟨l2,S2,ls3,k2,t2,h⟩:=vC hS sls as vs' h2 _ _ _ h;refine⟨l::l2,S++S2,ls3,by simp only[ak];exact⟨v,vs',S,S2,rfl,k1,k2,rfl⟩,fun b hb=>?_,h⟩;rcases Zg.1 hb with hb|hb
   ·rcases t1 b hb with q|⟨r,j,q1,q2⟩;exact .inl q;exact .inr ⟨r,j,by simp[q1],q2⟩
   ·rcases t2 b hb with q|⟨r,j,q1,q2⟩;exact .inl q;exact .inr ⟨r,j,Zg.2 (.inr q1),q2⟩
def qS (hS:aO cx G g a w){α:Type}:∀ (slots:List (Option Nat)) (as:List A) (vs:List Value),bX (gl g) G w as vs->∀ (k:ax->Rd α) (ls:List Loc) (out:α),(f9 slots as k).Runs g ls out->
 ∃ l S ls',ak w l vs S/\(k l).Runs g ls' out
 |[],[],vs,hx,k,ls,out,h=>by simp only[bX]at hx;subst hx;exact⟨[],[],ls,by simp[ak],by simpa[f9]using h⟩
 |[],_::_,vs,hx,k,ls,out,h=>by simp[f9,Rd.Runs]at h
 |_::_,[],vs,hx,k,ls,out,h=>by simp[f9,Rd.Runs]at h
 | sl::sls,x::as,vs,hx,k,ls,out,h=>by
   obtain⟨v,vs',rfl,h1,h2⟩:=hx;simp only[f9]at h;obtain⟨l,S,ls2,k1,h⟩:=H6 hS h1 h;obtain⟨l2,S2,ls3,k2,h⟩:=qS hS sls as vs' h2 _ _ _ h;exact⟨l::l2,S++S2,ls3,by simp only[ak];exact⟨v,vs',S,S2,rfl,k1,k2,rfl⟩,h⟩
def Of {cur:Array Value}{o m:Nat}{f:Nat->Value}(h:∀ i,i<m->cur[o+i]?=some (f i)):(cur.toList.drop o).take m=(Zl m).map f:=by
 apply ZN;intro i;rw[ZC];split
 ·rename_i hi;rw[Zy,ZD,Y7 hi]
  simpa using h i hi
 ·rw[ZV];simp;omega
def mN (hS:aO cx G g a w){r:Nat}{α:Type}:∀ (m j:Nat) (k:ax->Rd α) (ls:List Loc) (out:α),(gz r j m k).Runs g ls out->
 ∃ rec S ls',rec.length=m/\ak w rec ((YU j m).map fun i=>G.val r i) S/\(∀ i,j<=i->i<j+m->∃ h,g (.leaf r i)=some (.h h))/\(k rec).Runs g ls' out
 |0,j,k,ls,out,h=>⟨[],[],ls,rfl,by simp[ak],fun i h1 h2=>by omega,by simpa[gz]using h⟩
 | m+1,j,k,ls,out,h=>by
   obtain⟨hv,ls2,q1,q2,hk⟩:=bB (k:=fun h=>match h.c with
    | .own l=>gz r (j+1) m fun ls=>k (l::ls)
    | .ro l=>gz r (j+1) m fun ls=>k (l::ls)
    | .gone=>.fail) h
   have hok:=hS.hok q1;have fin:∀ l S0,bN w l (G.val r j) S0->(gz r (j+1) m fun ls=>k (l::ls)).Runs g ls2 out->∃ rec S ls',rec.length=m+1/\ak w rec ((YU j (m+1)).map fun i=>G.val r i) S/\(∀ i,j<=i->i<j+(m+1)->∃ h,g (.leaf r i)=some (.h h))/\(k rec).Runs g ls' out:=by
    intro l S0 hl hk;obtain⟨rec,S,ls3,e1,e2,e3,e4⟩:=mN hS m (j+1) _ _ _ hk;refine⟨l::rec,S0++S,ls3,by simp[e1],?_,fun i h1 h2=>?_,e4⟩
    ·rw[List.range'_succ,ZT];simp only[ak];exact⟨_,_,S0,S,rfl,hl,e2,rfl⟩
    ·by_cases c:i=j
     ·subst c;exact⟨hv,q2⟩
     ·exact e3 i Uc Uc
   cases hc:hv.c with
   |own l=>simp only[hc]at hk;simp only[ew,hc]at hok;exact fin l _ hok.1 hk
   |ro l=>simp only[hc]at hk;simp only[ew,hc]at hok;obtain⟨S0,e,_⟩:=hok;exact fin l _ e hk
   |gone=>simp[hc,Rd.Runs]at hk
def G7 (hS:aO cx G g a w){r b off j m:Nat}(hl:G.loc r=some (b,off))(hg:∀ i,j<=i->i<j+m->∃ h,g (.leaf r i)=some (.h h)):
 ∃ cur ty,w.heap[b]?=some (.cells cur ty (0,0))/\(0<m->off+j+m<=cur.size)/\(cur.toList.drop (off+j)).take m=(YU j m).map fun i=>G.val r i:=by
 obtain⟨k,hk⟩:=hS.noloc r _ hl;obtain⟨b',off',cur,ty,f1,f2,f3,f4,f5⟩:=hS.boxes r k hk;rw[hl]at f1;cases f1;have hlt:∀ i,j<=i->i<j+m->i<k:=by
  intro i h1 h2;obtain⟨h,e⟩:=hg i h1 h2;obtain⟨_,k',bx,_,e2,e3,_⟩:=hS.leaf r i _ e;rw[hk]at e2;cases e2;exact e3
 refine⟨cur,ty,f3,fun h0=>?_,?_⟩
 ·have:=hlt (j+m-1) Uc Uc;omega
 ·rw[Of (f:=fun i=>G.val r (j+i)) (fun i hi=>by rw[show off+j+i=off+(j+i)from by omega];exact f5 _ (hlt _ Uc Uc))];rw[List.range'_eq_map_range,List.map_map];rfl
def jS (hS:aO cx G g a w){α:Type}:∀ (cs:List HQ) (ps:List Value) (k:ab->Rd α) (ls:List Loc) (out:α),fe G w cs ps->(gJ cs k).Runs g ls out->
 ∃ recs S ls',lJ w recs ps S/\(k recs).Runs g ls' out
 |[],ps,k,ls,out,hc,h=>⟨[],[],ls,by simp only[fe]at hc;simp[lJ,hc],by simpa[gJ]using h⟩
 | .rp rec j::cs,ps,k,ls,out,hc,h=>by
   obtain⟨v,vs,rfl,h1,h2⟩:=hc;simp only[gJ]at h;split at h
   ·rename_i hj;obtain⟨recs,S,ls2,e1,e2⟩:=jS hS cs vs _ _ _ h2 h;obtain⟨b,off,cur,ty,fz,S',f1,f2,f3,f4,f5,f6⟩:=h1;obtain⟨S1,s1,s2⟩:=f5.sub j (rec.length-j);have hlen:(rec.drop j).length=rec.length-j:=Zz;refine⟨rec.drop j::recs,(b::S1)++S,ls2,?_,e2⟩;simp only[lJ];refine⟨_,_,_,S,rfl,⟨b,off+j,cur,ty,fz,S1,f1,f2,?_,?_,rfl⟩,e1,rfl⟩;omega
    ·rw[<-hlen,List.take_length,hlen,YL,Ye,YV]at s1;rw[hlen]
     rwa [show min (rec.length-j) (rec.length-j)=rec.length-j from by omega]at s1
   ·exact h.elim
 | .pt r j::cs,ps,k,ls,out,hc,h=>by
   obtain⟨v,vs,rfl,⟨b,off,h0,rfl⟩,h2⟩:=hc;simp only[gJ,Rd.Runs]at h;obtain⟨ls',rfl,h⟩:=h;split at h
   ·split at h
    ·obtain⟨rec,S1,ls2,e1,e2,e3,h⟩:=mN hS _ _ _ _ _ h;obtain⟨recs,S,ls3,e4,e5⟩:=jS hS cs vs _ _ _ h2 h;obtain⟨cur,ty,f1,f2,f3⟩:=G7 hS h0 e3;refine⟨rec::recs,(b::S1)++S,ls3,?_,e5⟩;simp only[lJ];refine⟨_,_,_,S,rfl,⟨b,off+j,cur,ty,(0,0),S1,rfl,f1,?_,?_,rfl⟩,e4,rfl⟩
     ·have:=f2 Uc;omega
     ·rw[e1,f3];exact e2
    ·exact h.elim
   ·exact h.elim
def H7 (hS:aO cx G g a w){ti:Option TI}{x:Operand}{α:Type}{k:DV->Rd α}{ls:List Loc}{out:α}(h:(LZ ti x k).Runs g ls out):
 ∃ d S ls',qP w d (a.eval x) S/\(k d).Runs g ls' out:=by
 obtain⟨x0,ls',hx,h⟩:=bA hS h;cases x0 with
 | pt r j=>
   cases ti with
   |none=>exact h.elim
   | some ti=>
     simp only at h;split at h
     ·rename_i hpos;obtain⟨b,off,h0,h1⟩:=hx;obtain⟨rec,S,ls2,e1,e2,e3,h⟩:=mN hS _ _ _ _ _ h;obtain⟨cur,ty,f1,f2,f3⟩:=G7 hS h0 e3;refine⟨.ptr rec,_,ls2,⟨b,off+j,cur,ty,(0,0),S,h1,f1,?_,?_,rfl⟩,h⟩
      ·have:=f2 hpos;omega
      ·rw[e1,f3];exact e2
     ·exact h.elim
 | rp rec j=>
   cases ti with
   |none=>exact h.elim
   | some ti=>
     simp only at h;split at h
     ·rename_i hj;obtain⟨b,off,cur,ty,fz,S',f1,f2,f3,f4,f5,f6⟩:=hx;obtain⟨S1,s1,s2⟩:=f5.sub j ti.zero.length;refine⟨.ptr _,_,ls',⟨b,off+j,cur,ty,fz,S1,f1,f2,?_,?_,rfl⟩,h⟩
      ·simp;omega
      ·rw[YL,Ye,YV]at s1;rw[show((rec.drop j).take ti.zero.length).length=ti.zero.length from by simp;omega];rw[show min ti.zero.length (rec.length-j)=ti.zero.length from by omega]at s1;exact s1
     ·exact h.elim
 | fn f caps=>
   obtain⟨ps,e,hc⟩:=hx;obtain⟨recs,S,ls2,e1,h⟩:=jS hS _ _ _ _ _ hc h;exact⟨.fn f recs,S,ls2,⟨ps,e,e1⟩,h⟩
 |_=>exact h.elim
def H4 (hS:aO cx G g a w){t:TypeId}{x:Operand}{α:Type}{k:DV->Rd α}{ls:List Loc}{out:α}(h:(H3 P t x k).Runs g ls out):
 ∃ d S ls',qP w d (a.eval x) S/\(k d).Runs g ls' out:=by
 unfold H3 at h;cases hti:oO P t with
 |none=>simp only[hti]at h;exact H7 hS h
 | some ti=>
   simp only[hti]at h;obtain⟨r,ls1,hr,h⟩:=dI hS h;cases r with
   | one x0=>
     simp only[cW]at hr;simp only at h;split at h
     ·simp[Rd.Runs]at h
     ·obtain⟨l,S,ls2,k1,h⟩:=qS hS _ [x0] [a.eval x] (by simp[bX,hr]) _ _ _ h;split at h
      ·rename_i l0;simp only[ak]at k1;obtain⟨v,vs',S1,S2,e1,k2,⟨e2,e3⟩,e4⟩:=k1;cases e1;exact⟨.one l0,S1,ls2,k2,h⟩
      ·simp[Rd.Runs]at h
   | agg as=>
     simp only[cW]at hr;obtain⟨vs,e,hr⟩:=hr;simp only at h;split at h
     ·obtain⟨l,S,ls2,k1,h⟩:=qS hS _ as vs hr _ _ _ h;exact⟨.agg l,S,ls2,⟨vs,e,k1⟩,h⟩
     ·simp[Rd.Runs]at h
   |tup rs=>simp[Rd.Runs]at h
def nk (hS:aO cx G g a w){α:Type}:∀ (ts:List TypeId) (xs:List Operand) (k:List DV->Rd α) (ls:List Loc) (out:α),(tH P ts xs k).Runs g ls out->
 ∃ ds ls',gR (fun _=>True) w ds (xs.map a.eval)/\(k ds).Runs g ls' out
 |[],[],k,ls,out,h=>⟨[],ls,rfl,by simpa[tH]using h⟩
 |[],_::_,k,ls,out,h=>by simp[tH,Rd.Runs]at h
 |_::_,[],k,ls,out,h=>by simp[tH,Rd.Runs]at h
 | t::ts,x::xs,k,ls,out,h=>by
   simp only[tH]at h;obtain⟨d,S,ls2,k1,h⟩:=H4 hS h;obtain⟨ds,ls3,k2,h⟩:=nk hS ts xs _ _ _ h;exact⟨d::ds,ls3,⟨_,_,S,rfl,k1,fun _ _=>trivial,k2⟩,h⟩
def bU.leaves:∀ {ds:List DV} {vs:List Value} {S:List Nat},bU w ds vs S->∃ lv,ak w (ds.flatMap aR) lv S
 |[],vs,S,h=>by simp only[bU]at h;exact⟨[],by simp[ak,h.2]⟩
 | d::ds,vs,S,h=>by
   simp only[bU]at h;obtain⟨v,vs',S1,S2,rfl,h1,h2,rfl⟩:=h;obtain⟨lv,k⟩:=bU.leaves h2;simp only[YF];cases d with
   |one l=>exact⟨v::lv,by simp only[aR,WS,ak];exact⟨v,lv,S1,S2,rfl,h1,k,rfl⟩⟩
   |agg ls=>obtain⟨us,e,h1⟩:=h1;exact⟨us++lv,h1.append k⟩
   |_=>exact h1.elim
end
section
variable {P: Program} {o: Oper} {cx: Cx} {G: Gh} {g: Gm} {a: Act} {w: World}
def tw {γ:Nat->Nat->Option Hv}{d:Nat}:∀ (ls:ax) (j:Nat) (vs:List Value) (S:List Nat),ak w ls vs S->(∀ i l,ls[i]?=some l->∃ og,γ d (j+i)=some ⟨0,0,og,.own l⟩)->
 (∀ i v,vs[i]?=some v->G.val d (j+i)=v)->bX γ G w (er d j ls) vs
 |[],j,vs,S,h,_,_=>by simp only[ak]at h;simp[er,bX,h.1]
 | l::ls,j,vs,S,h,hg,hv=>by
   simp only[ak]at h;obtain⟨v,vs',S1,S2,rfl,h1,h2,rfl⟩:=h;have ih:=tw ls (j+1) vs' S2 h2 (fun i l' e=>by rw[show j+1+i=j+(i+1)from by omega];exact hg (i+1) l' (by simpa using e)) (fun i v' e=>by rw[show j+1+i=j+(i+1)from by omega];exact hv (i+1) v' (by simpa using e));obtain⟨og0,g0⟩:=hg 0 l (by simp);have v0:=hv 0 v (by simp);simp only[Zi]at g0 v0;cases l with
   |v y=>simp only[er,bX];simp only[bN]at h1;exact⟨v,vs',rfl,h1.1,ih⟩
   |g=>simp only[er,bX];exact⟨v,vs',rfl,trivial,ih⟩
   |m _ _=>simp only[er,bX];exact⟨v,vs',rfl,trivial,ih⟩
   | s sz es=>
     simp only[er,bX];refine⟨v,vs',rfl,⟨_,g0,Zf _,fun _ sz' es' e=>?_⟩,ih⟩;cases e;rw[v0];exact⟨Uc,d9.full h1⟩
def Kx {γ:Nat->Nat->Option Hv}{d:Nat}{dv:DV}{j:Nat}{v:Value}{S:List Nat}(h:pw w dv v S)(hg:∀ i l,(aR dv)[i]?=some l->∃ og,γ d (j+i)=some ⟨0,0,og,.own l⟩) 
 (hv:∀ lv,ak w (aR dv) lv S->(∀ dl,dv=.one dl->lv=[v])->(∀ dls,dv=.agg dls->v=.agg lv.toArray)->∀ i u,lv[i]?=some u->G.val d (j+i)=u):cW γ G w (G5 d j dv) v:=by
 cases dv with
 | one l=>
   have h':ak w [l] [v] S:=by simp only[ak];exact⟨v,[],S,[],rfl,h,⟨rfl,rfl⟩,by simp⟩
   have:=tw (G:=G) (γ:=γ) (d:=d) [l] j [v] S h' (by simpa[aR]using hg) (hv [v] (by simpa[aR]using h') (fun _ _=>rfl) (fun _ e=>by cases e));unfold G5;cases l<;>simp only[er,bX]at this ⊢ <;>simp only[cW]<;>(obtain⟨v',vs',e,h1,_⟩:=this;cases e;exact h1)
 | agg ls=>
   obtain⟨us,e,h'⟩:=h;have:=tw (G:=G) (γ:=γ) (d:=d) ls j us S h' (by simpa[aR]using hg) (hv us (by simpa[aR]using h') (fun _ e=>by cases e) (fun _ e'=>by cases e';exact e));simp only[G5,cW];exact⟨us,e,this⟩
 |_=>exact h.elim
def Em (w:World):List DV->List Value->List Value->List Nat->Prop
 |[],vs,lv,S=>vs=[]/\lv=[]/\S=[]
 |d::ds,vs,lv,S=>∃ v vs' l1 l2 S1 S2,vs=v::vs'/\lv=l1++l2/\S=S1++S2/\pw w d v S1/\ak w (aR d) l1 S1/\(∀ dl,d=.one dl->l1=[v])/\(∀ dls,d=.agg dls->v=.agg l1.toArray)/\Em w ds vs' l2 S2
def bU.lv:∀ {ds:List DV} {vs:List Value} {S:List Nat},bU w ds vs S->∃ lv,Em w ds vs lv S
 |[],vs,S,h=>by simp only[bU]at h;exact⟨[],h.1,rfl,h.2⟩
 | d::ds,vs,S,h=>by
   simp only[bU]at h;obtain⟨v,vs',S1,S2,rfl,h1,h2,rfl⟩:=h;obtain⟨lv,k⟩:=bU.lv h2;cases d with
   |one l=>exact⟨[v]++lv,v,vs',[v],lv,S1,S2,rfl,rfl,rfl,h1,by simp only[aR,ak];exact⟨v,[],S1,[],rfl,h1,⟨rfl,rfl⟩,by simp⟩,fun _ _=>rfl,(fun _ e=>by cases e),k⟩
   | agg ls=>
     obtain⟨us,e,h1'⟩:=h1;exact⟨us++lv,v,vs',us,lv,S1,S2,rfl,rfl,rfl,⟨us,e,h1'⟩,h1',(fun _ e=>by cases e),(fun _ e'=>by cases e';exact e),k⟩
   |_=>exact h1.elim
def Em.rec_ :∀ {ds:List DV} {vs lv:List Value} {S:List Nat},Em w ds vs lv S->ak w (ds.flatMap aR) lv S
 |[],vs,lv,S,h=>by obtain⟨rfl,rfl,rfl⟩:=h;simp[ak]
 | d::ds,vs,lv,S,h=>by
   obtain⟨v,vs',l1,l2,S1,S2,rfl,rfl,rfl,h1,h2,_,_,h3⟩:=h;simp only[YF];exact h2.append h3.rec_
def rL {γ:Nat->Nat->Option Hv}{d:Nat}:∀ (ds:List DV) (j:Nat) (vs lv:List Value) (S:List Nat),Em w ds vs lv S->(∀ i l,(ds.flatMap aR)[i]?=some l->∃ og,γ d (j+i)=some ⟨0,0,og,.own l⟩)->
 (∀ i v,lv[i]?=some v->G.val d (j+i)=v)->jo γ G w (mQ d j ds) vs
 |[],j,vs,lv,S,h,_,_=>by obtain⟨rfl,_,_⟩:=h;simp[mQ,jo]
 | dv::ds,j,vs,lv,S,h,hg,hv=>by
   obtain⟨v,vs',l1,l2,S1,S2,rfl,rfl,rfl,h1,h2,h3,h4,h5⟩:=h;have hlen:=h2.length;simp only[mQ,jo];refine⟨v,vs',rfl,?_,?_⟩
   ·refine Kx h1 (fun i l e=>hg i l ?_) (fun lv' q1 q2 q3 i u e=>hv i u ?_)
    ·simp only[YF];rw[Yd (ZF.1 e).1];exact e
    ·have:lv'=l1:=by
      cases dv with
      |one l=>rw[q2 l rfl,h3 l rfl]
      |agg ls=>have e1:=q3 ls rfl;rw[h4 ls rfl]at e1;simpa using e1.symm
      |_=>exact h1.elim
     subst this;rw[Yd (ZF.1 e).1];exact e
   ·refine rL ds _ vs' l2 S2 h5 (fun i l e=>?_) (fun i u e=>?_)
    ·have:=hg ((aR dv).length+i) l (by simp only[YF];rw[ZX Uc];simpa using e);rw[show j+(aR dv).length+i=j+((aR dv).length+i)from by omega];exact this
    ·have:=hv (l1.length+i) u (by rw[ZX Uc];simpa using e);rw[hlen]at this;rw[<-this];congr 1;omega
variable {ls: List Loc} {K: Act -> World -> Prop} {Q: Exit -> Act -> World -> Prop}
def gI {f:FuncId}(h:eh P f=true)(args:Array Value):(callFunc f args).run P w=.ok (.enter f args) w:=by
 unfold eh at h;cases hf:P.funcs[f]? with
 |none=>simp[hf]at h
 | some fn=>
   simp only[hf,Zc,bne_iff_ne,ne_eq]at h;cases hb:fn.body with
   |none=>simp[hb]at h
   |some c=>simp[callFunc,hf,hb,h.2]
def Df (hS:aO cx G g a w){d:Nat}(hlt:d<cx.n)(hm:g (.meta_ d)=none){res:List DV}{v:Value}{S:List Nat}{w':World}(hres:lK w' res v S)(hnd:S.Nodup)(hfr:∀ b∈S,w.heap.size<=b/\eV w' b)(hsame:Same (fun _=>True) w w'):
 fC cx (aT g (dT d res)) (a.put (some d) v) w':=by
 obtain⟨vs,lv,hlv,hv⟩:∃ vs lv,Em w' res vs lv S/\((∃ dv,res=[dv]/\vs=[v])\/v=.tuple vs.toArray/\∀ dv,res≠[dv]):=by
  cases res with
  |nil=>obtain⟨vs,e,h2⟩:=hres;obtain⟨lv,k⟩:=bU.lv h2;exact⟨vs,lv,k,.inr ⟨e,fun dv e=>by cases e⟩⟩
  | cons d1 rest=>
    cases rest with
    | nil=>
      have h2:bU w' [d1] [v] S:=by simp only[bU];exact⟨v,[],S,[],rfl,hres,⟨rfl,rfl⟩,by simp⟩
      obtain⟨lv,k⟩:=bU.lv h2;exact⟨[v],lv,k,.inl ⟨d1,rfl,rfl⟩⟩
    |cons d2 rest=>obtain⟨vs,e,h2⟩:=hres;obtain⟨lv,k⟩:=bU.lv h2;exact⟨vs,lv,k,.inr ⟨e,fun dv e=>by cases e⟩⟩
 have hrec:=hlv.rec_;obtain⟨Ss,s1,s2,s3⟩:=hrec.items;rw[<-s1]at hnd;obtain⟨G',k1,k2,_,_⟩:=hS.newRoot hm false ((res.flatMap aR).map fun l=>⟨0,0,none,.own l⟩) w' hsame (fun j=>lv.getD j undef) (fun j=>Ss.getD j [])
  (by
    intro j h hj;simp only[ZD,ZB]at hj;obtain⟨l,e1,rfl⟩:=hj;obtain⟨u,q1,q2⟩:=s3 j l e1;simp only[KS];refine⟨by simpa[Zv,q1]using q2,ie hnd j,fun b hb=>?_⟩;have:=hfr b (by rw[<-s1];exact eS hb);exact⟨this.2,.inl this.1⟩)
  (by
    intro j h hj;simp only[ZD,ZB]at hj;obtain⟨l,e1,rfl⟩:=hj;exact fg.none)
  (fun i j _ _ hij=>fF hnd i j hij) 0 0 (by simp)
 simp only[dT,aT];refine⟨G',k1.put hlt ?_⟩;have hgl:∀ i l,(res.flatMap aR)[i]?=some l->gl ((W.root d false ((res.flatMap aR).map fun l=>⟨0,0,none,.own l⟩)).app g) d (0+i)=some ⟨0,0,none,.own l⟩:=by
  intro i l e;simp[gl,W.app,e]
 have hval:∀ i u,lv[i]?=some u->G'.val d (0+i)=u:=by
  intro i u e;rw[k2,Zx];simp[Zv,e]
 have hall:=rL (G:=G') res 0 vs lv S hlv (fun i l e=>⟨none,hgl i l e⟩) hval;rcases hv with⟨dv,rfl,rfl⟩|⟨rfl,hne⟩
 ·simp only[jc];simp only[mQ,jo]at hall;obtain⟨v',vs',e,h1,_⟩:=hall;cases e;exact h1
 ·have:jc d res=.tup (mQ d 0 res):=by
   unfold jc;split;exact absurd rfl (hne _);rfl
  rw[this];simp only[cW];exact⟨vs,rfl,hall⟩
def Hu {f:FuncId}{ts:Array TypeId}{args:Array Operand}(ho:o.op=.call {callee:=.value (.func f),args:=args,argTypes:=ts})(hS:aO cx G g a w) 
 {ds:List DV} {mk:List DV->List W} (h:(D7 P cx.n o.dst f ts args).Runs g ls (.call f ds mk)) {res:List DV} (hc:LI P f ds res)
 (hk:∀ a' w',fC cx (aT g (mk res)) a' w'->K a' w'):o.wp P a w K Q:=by
 unfold D7 at h;split at h
 ·rename_i hbody;obtain⟨ds',ls1,hargs,h⟩:=nk hS _ _ _ _ _ h;obtain⟨d,ls2,hd,hlt,hm,h⟩:=cV h;simp only[Rd.Runs,Out.call.injEq]at h;obtain⟨_,_,rfl,rfl⟩:=h;have hex:(execOp a.eval o).run P w=.ok (.enter f (args.map a.eval)) w:=by
   unfold execOp;simp only[ho,resolve,XL,Xb,ZQ,Yi,Z2,invoke,Xc,XM];exact gI hbody _
  unfold YR;rw[hex];simp only[Y9];have hcall:=hc w (args.toList.map a.eval) hargs;have harr:(args.toList.map a.eval).toArray=args.map a.eval:=by rw[<-Yx,Yy]
  rw[harr]at hcall;refine hcall.mono ?_;rintro e w' ⟨v,S,rfl,hres,hnd,hfr,hsame⟩;rw[hd];exact hk _ _ (Df hS hlt hm hres hnd hfr hsame)
 ·simp[Rd.Runs]at h
end
end Go.V
namespace Go.V
section
variable {P: Program} {o: Oper} {cx: Cx} {G: Gh} {g: Gm} {a: Act} {w: World} {ls: List Loc} {ws: List W} {K: Act -> World -> Prop} {Q: Exit -> Act -> World -> Prop}
def wW {x:Operand}(ho:o.op=.move x\/o.op=.assign x):(execOp a.eval o).run P w=.ok (.value (a.eval x)) w:=by
 unfold execOp;rcases ho with h|h<;>rw[h]<;>rfl
def ip {x:Operand}{r:R}(ho:o.op=.move x\/o.op=.assign x)(hS:aO cx G g a w)(hr:cW (gl g) G w r (a.eval x))(h:(bE cx.n o.dst r).Runs g ls (.ws ws)) 
 (hk:∀ a' w',fC cx (aT g ws) a' w'->K a' w'):o.wp P a w K Q:=bc hS h hr (wW ho) hk
def Et {x:Operand}(ho:o.op=.assign x)(hS:aO cx G g a w)(h:(vop P cx.n o).Runs g ls (.ws ws)) 
 (hk:∀ a' w',fC cx (aT g ws) a' w'->K a' w'):o.wp P a w K Q:=by
 unfold vop at h;simp only[ho]at h;obtain⟨r,ls1,hr,h⟩:=dI hS h;cases x with
 | tmp t=>
   cases r with
   | one y=>
     cases y with
     | vw r0 j ver lo m=>
       cases hdst:o.dst with
       |none=>simp only[hdst]at h;exact ip (.inr ho) hS hr (by rw[hdst];exact h) hk
       | some d=>
         simp only[hdst]at h;split at h
         ·rename_i hcond;obtain⟨hc1,hc2,hlt⟩:=hcond;simp only[Rd.Runs]at h;obtain⟨ls2,_,h⟩:=h;split at h
          ·obtain⟨hv,ls3,q1,q2,h⟩:=bB h;split at h
           ·rename_i sz es hcc horg;split at h
            ·rename_i hver;simp only[beq_iff_eq]at hver;simp only[Rd.Runs]at h;obtain⟨⟨h0,h1⟩,ls4,_,h⟩:=h;simp only[cW]at hr;obtain⟨h2,f1,f2,f3⟩:=hr;rw[q1]at f1;cases f1;obtain⟨f4,base,len,cap,base',cap',g1,g2,g3,g4,g5,g6⟩:=f3 hver sz es hcc;have hok:=hS.hok q1;simp only[ew,hcc]at hok;have hml:m=len:=by
              have hok1:=hok.1;simp only[bN]at hok1;obtain⟨b0,n0,c0,r1,r2,_⟩:=hok1;rw[g1]at r1;cases r1;omega
             have hval:=g5 h0 hml;have hS1:=hS.gone q2;have hgone:gl ((W.leaf r0 j ⟨hv.ver+1,hv.iv,none,.gone⟩).app g) r0 j=some ⟨hv.ver+1,hv.iv,none,.gone⟩:=by simp[gl,W.app]
             have hfree:∀ b∈G.fp r0 j,eV w b/\sX ((W.leaf r0 j ⟨hv.ver+1,hv.iv,none,.gone⟩).app g) G w b:=fun b hb=>by
              have:=hok.2.2 b hb;refine⟨this.2,.inr ⟨r0,j,this.1,fun h' l' z1 z2=>?_⟩⟩;rw[hgone]at z1;cases z1;cases z2
             refine dM (wW (.inr ho)) (hk _ _ ?_);rw[hdst];split at h
             ·rename_i hmd;simp only[Rd.Runs,Out.ws.injEq]at h;obtain⟨_,rfl⟩:=h;simp only[WS,aT];refine hS1.newSlice hlt (by simp[W.app,hmd]) w rfl rfl rfl (Zf _) (fun _ _ _=>rfl) sz es _ (G.fp r0 j) (by rw[hval];exact hok.1) hok.2.1 hfree
             ·rename_i hmd;obtain⟨hv2,ls5,p1,p2,h⟩:=bB h;simp only[Rd.Runs,Out.ws.injEq]at h;obtain⟨_,rfl⟩:=h;have hne:¬ (d=r0/\0=j):=fun e=>hc2 e.1.symm
              have p3:(W.leaf r0 j ⟨hv.ver+1,hv.iv,none,.gone⟩).app g (.leaf d 0)=some (.h hv2):=by
               simp only[W.app];rw[VF (by intro e;cases e;exact hne ⟨rfl,rfl⟩)];exact p2
              obtain⟨G',s1,s2,s3,_⟩:=hS1.upd p3 ⟨hv2.ver+1,hv2.iv+1,none,.own (.s sz es)⟩ (G.val r0 j) (G.fp r0 j) w (.inl ⟨YE _,Wk _⟩) rfl rfl rfl (Zf _) (fun _ _ _ _=>rfl)
               (by
                 intro b off hl;obtain⟨k,hk'⟩:=hS.noloc d _ hl;rw[hmd]at hk';cases hk')
               (by
                 intro l hcl b hb;have:=hS1.hok (av.2 p3);simp only[ew,hcl]at this;exact(this.2.2 b hb).2)
               (by simp only;exact⟨hok.1,hok.2.1,fun b hb=>⟨(hfree b hb).1,.inl (hfree b hb).2⟩⟩) fg.none
              simp only[aT];refine⟨G',s1.put hlt ?_⟩;simp only[cW];have hg:gl ((W.leaf d 0 ⟨hv2.ver+1,hv2.iv+1,none,.own (.s sz es)⟩).app ((W.leaf r0 j ⟨hv.ver+1,hv.iv,none,.gone⟩).app g)) d 0=some ⟨hv2.ver+1,hv2.iv+1,none,.own (.s sz es)⟩:=by simp[gl,W.app]
              refine⟨_,hg,Zf _,fun _ sz' es' e=>?_⟩;cases e;rw[s3,VE ⟨rfl,rfl⟩,hval];exact⟨Uc,d9.full hok.1⟩
             ·simp[Rd.Runs]at h
            ·simp[Rd.Runs]at h
           ·simp[Rd.Runs]at h
          ·simp[Rd.Runs]at h
         ·exact ip (.inr ho) hS hr (by rw[hdst];exact h) hk
     |_=>exact ip (.inr ho) hS hr h hk
   |_=>exact ip (.inr ho) hS hr h hk
 |_=>exact ip (.inr ho) hS hr h hk
def H8 {x:A}{v:Value}(hx:iC (gl g) G w x v){α:Type}{k:Rd α}{out:α}(h:(aam x k).Runs g ls out):v.oneCell'=true/\∃ ls',k.Runs g ls' out:=by
 unfold aam at h;cases x with
 | v y=>
   have hv:v=y:=hx;subst hv;simp only at h;split at h
   ·exact⟨Ud,ls,h⟩
   ·simp[Rd.Runs]at h
 |nl=>have hv:v=.slice none 0 0:=hx;subst hv;exact⟨rfl,ls,h⟩
 |ro sz es=>obtain⟨S,h1,_⟩:=hx;exact⟨bN.one h1,ls,h⟩
 | vw r j ver lo m=>
   simp only at h;obtain⟨hv,ls2,q1,q2,h⟩:=bB h;split at h
   ·rename_i sz es hc;split at h
    ·rename_i hver;simp only[beq_iff_eq]at hver;obtain⟨h2,f1,f2,f3⟩:=hx;rw[q1]at f1;cases f1;obtain⟨f4,base,len,cap,base',cap',g1,g2,_⟩:=f3 hver sz es hc;rw[g2];exact⟨rfl,ls2,h⟩
    ·simp[Rd.Runs]at h
   ·simp[Rd.Runs]at h
 |_=>simp[Rd.Runs]at h
def uw (hS:aO cx G g a w){α:Type}{k:Rd α}{out:α}:∀ (as:List A) (vs:List Value) (ls:List Loc),bX (gl g) G w as vs->(AY as k).Runs g ls out->(∀ u∈vs,u.oneCell'=true)/\∃ ls',k.Runs g ls' out
 |[],vs,ls,hx,h=>by simp only[bX]at hx;subst hx;exact⟨fun u hu=>(by cases hu),ls,by simpa[AY]using h⟩
 | x::as,vs,ls,hx,h=>by
   obtain⟨v,vs',rfl,h1,h2⟩:=hx;simp only[AY]at h;obtain⟨k1,ls2,h⟩:=H8 h1 h;obtain⟨k2,ls3,h⟩:=uw hS as vs' ls2 h2 h;exact⟨fun u hu=>by rcases Zk.1 hu with rfl|hu;exact k1;exact k2 u hu,ls3,h⟩
def oT (hS:aO cx G g a w){bd:List (Nat×Nat)}{α:Type}:∀ (ps:List (Nat×Operand)) (as:List A) (vs:List Value) (k:List A->Rd α) (ls:List Loc) (out:α),bX (gl g) G w as vs->(jq bd ps as k).Runs g ls out->
 ∃ as' vs' ls',bX (gl g) G w as' vs'/\(k as').Runs g ls' out/\Y8 (bd.toArray[·]?) vs.toArray (ps.map fun p=>(p.1,a.eval p.2))=some vs'.toArray
 |[],as,vs,k,ls,out,hx,h=>⟨as,vs,ls,hx,by simpa[jq]using h,rfl⟩
 | (i,x)::ps,as,vs,k,ls,out,hx,h=>by
  simp only[jq]at h;split at h
  ·simp[Rd.Runs]at h
  ·rename_i off m hbd;obtain⟨r,ls1,hr,h⟩:=dI hS h;cases hl:dK r with
   |none=>simp[hl,Rd.Runs]at h
   | some bs=>
     simp only[hl]at h;obtain⟨us,hus,hv⟩:=iZ r bs _ hl hr;split at h
     ·rename_i hcond;obtain⟨c1,c2,c3⟩:=hcond;obtain⟨hone,ls2,h⟩:=uw hS _ _ _ hus h;have hlen:us.length=bs.length:=hus.length;have hlv:=hx.length;have hsp:bX (gl g) G w (splice as off bs) (vs.take off++us++vs.drop (off+us.length)):=by
       unfold splice;rw[hlen];exact((hx.take_drop off).1.append hus).append (hx.take_drop _).2
      obtain⟨as',vs',ls3,k1,k2,k3⟩:=oT hS ps _ _ _ _ _ hsp h;refine⟨as',vs',ls3,k1,k2,?_⟩;simp only[ZT,Y8];have hb2:bd.toArray[i]?=some (off,m):=by simpa using hbd
      have hc:=rh hv hone;rw[hb2];simp only[hc];rw[VF (by simp;omega)];have e1:Array.foldl (fun cs (x:Value×Nat)=>match x with|(c,j)=>cs.setIfInBounds (off+j) c) vs.toArray us.toArray.zipIdx=(vs.take off++us++vs.drop (off+us.length)).toArray:=by
       rw[<-Array.foldl_toList];have:=wg off us 0 vs.toArray (by simp;omega)
       simpa using this
      rw[e1];exact k3
     ·simp[Rd.Runs]at h
def vq {γ:Nat->Nat->Option Hv}:∀ {sl:List (Option Nat)} {xs:List Value} {zr:ax},qk sl xs=some zr->bX γ G w (zr.map OY) xs
 |[],[],zr,h=>by simp[qk]at h;subst h;simp[bX]
 |none::sl,[],zr,h=>by simp[qk]at h
 |some sz::sl,[],zr,h=>by simp[qk]at h
 |[],v::xs,zr,h=>by simp[qk]at h
 | none::sl,v::xs,zr,h=>by
   simp only[qk]at h;split at h
   ·simp only[ZB]at h;obtain⟨zr',h1,rfl⟩:=h;exact⟨v,xs,rfl,rfl,vq h1⟩
   ·cases h
 | some sz::sl,v::xs,zr,h=>by
   unfold qk at h;split at h
   ·rename_i e1 e2;cases e1
   ·rename_i e1 e2;cases e1
   ·rename_i sz' ss xs' e1 e2;cases e1;cases e2;simp only[ZB]at h;obtain⟨zr',h1,rfl⟩:=h;exact⟨_,xs,rfl,rfl,vq h1⟩
   ·rename_i sz' ss xs' e1 e2;cases e1;cases e2;simp only[ZB]at h;obtain⟨zr',h1,rfl⟩:=h;exact⟨_,xs,rfl,trivial,vq h1⟩
   ·cases h
def IT {fs:Array Field}{bd:List (Nat×Nat)}(h:fs.toList.mapM (fun f=>(P.info? f.type).map fun i=>(f.offset,i.size))=some bd)(w:World):
 (fs.mapM fun f=>do pure (f.offset, <-sizeOf f.type):Sem (Array (Nat×Nat))).run P w=.ok bd.toArray w:=by
 rw[Array.mapM_eq_mapM_toList];have key:∀ (l:List Field) (bd:List (Nat×Nat)),l.mapM (fun f=>(P.info? f.type).map fun i=>(f.offset,i.size))=some bd->(l.mapM fun f=>do pure (f.offset, <-sizeOf f.type):Sem (List (Nat×Nat))).run P w=.ok bd w:=by
  intro l
  induction l with
  |nil=>intro bd h;simp at h;subst h;rfl
  | cons f l ih=>
    intro bd h;simp only[Wm]at h ⊢;cases hf:P.info? f.type with
    |none=>simp[hf]at h
    | some i=>
      cases hl:l.mapM (fun f=>(P.info? f.type).map fun i=>(f.offset,i.size))with
      |none=>simp[hf,hl]at h
      | some bd'=>
        simp[hf,hl]at h;subst h;simp only[ZQ,Yi,run_sizeOf hf,Z2,ih bd' hl]
 simp only[Sem.run_map,key _ _ h,Z2]
def FH {t:TypeId}{parts:Array (Nat×Operand)}(ho:o.op=.build t parts)(hS:aO cx G g a w)(h:(B7 P cx.n o.dst t parts).Runs g ls (.ws ws)) 
 (hk:∀ a' w',fC cx (aT g ws) a' w'->K a' w'):o.wp P a w K Q:=by
 unfold B7 at h;split at h
 ·rename_i ti bd hti hbd;obtain⟨i,z,e1,e2,e3,e4,e5⟩:=hD hti;obtain⟨as,vs,ls2,k1,k2,k3⟩:=oT hS _ _ _ _ _ _ (vq e4) h;refine bc hS k2 (v:=.agg vs.toArray) (by simp only[cW];exact⟨vs,rfl,k1⟩) ?_ hk;unfold bdI at hbd;split at hbd
  ·rename_i fs hfs;unfold execOp;have hp:=IT hbd w;have k3':Y8 (fun x=>bd.toArray[x]?) z.cells (parts.map fun x=>(x.1,a.eval x.2)).toList=some vs.toArray:=by simpa using k3
   simp only[ho,Instr.build,zeroValue,typeInfo,ZQ,run_program,Z2,e1,Yi,e2,run_underlying hfs,hp,k3']
  ·cases hbd
 ·simp[Rd.Runs]at h
def pN (hS:aO cx G g a w){α:Type}:∀ (xs:List Operand) (k:List Value->Rd α) (ls:List Loc) (out:α),(rl xs k).Runs g ls out->∃ ls',(k (xs.map a.eval)).Runs g ls' out
 |[],k,ls,out,h=>⟨ls,by simpa[rl]using h⟩
 | x::xs,k,ls,out,h=>by
   simp only[rl]at h;obtain⟨y,ls1,hy,h⟩:=bA hS h;split at h
   ·rename_i v;have hv:a.eval x=v:=hy;obtain⟨ls2,h⟩:=pN hS xs _ _ _ h;exact⟨ls2,by simpa[hv]using h⟩
   ·simp[Rd.Runs]at h
def Bq {isMax:Bool}{vs:List Value}{v:Value}(h:wm isMax vs=some v)(ats:Array TypeId)(ty:TypeId):
 ((if isMax then WT ats ty vs.toArray else WU ats ty vs.toArray)).run P w=.ok v w:=by
 unfold wm at h;split at h
 ·rename_i k x k' y;split at h
  ·rename_i hk;subst hk;cases h;cases isMax<;>simp[WT,WU,Vv,Vw]
  ·cases h
 ·cases h
def Iw {x:A}{v:Value}(hx:iC (gl g) G w x v){α:Type}{k:Nat->Rd α}{out:α}(h:(Qj x k).Runs g ls out):
 ∃ base n cap ls',v=.slice base n cap/\(k n).Runs g ls' out:=by
 unfold Qj at h;cases x with
 |nl=>have hv:v=.slice none 0 0:=hx;exact⟨none,0,0,ls,hv,h⟩
 | ro sz es=>
   obtain⟨S,h1,_⟩:=hx;simp only[bN]at h1;obtain⟨base,len,cap,q1,q2,_⟩:=h1;exact⟨base,es.length,cap,ls,by rw[q1,q2],h⟩
 | vw r j ver lo m=>
   simp only at h;obtain⟨hv,ls2,q1,q2,h⟩:=bB h;split at h
   ·rename_i sz es hc;split at h
    ·rename_i hver;simp only[beq_iff_eq]at hver;obtain⟨h2,f1,f2,f3⟩:=hx;rw[q1]at f1;cases f1;obtain⟨f4,base,len,cap,base',cap',g1,g2,_⟩:=f3 hver sz es hc;exact⟨base',m,cap',ls2,g2,h⟩
    ·simp[Rd.Runs]at h
   ·simp[Rd.Runs]at h
 | vn r j ver iv p lo m=>
   simp only at h;obtain⟨hv,ls2,q1,q2,h⟩:=bB h;split at h
   ·rename_i l hc;split at h
    ·rename_i hgood;split at h
     ·rename_i rec j0 hg;split at h
      ·rename_i sz es hrec;obtain⟨h2,f1,f2,f2',fne,f3⟩:=hx;rw[q1]at f1;cases f1;obtain⟨bb,oo,hvv,f4,f5,f6,base,len,cap,base',cap',g1,g2,_⟩:=f3 hgood l rec j0 sz es hc hg hrec;exact⟨base',m,cap',ls2,g2,h⟩
      ·simp[Rd.Runs]at h
     ·simp[Rd.Runs]at h
    ·simp[Rd.Runs]at h
   ·simp[Rd.Runs]at h
 |_=>simp[Rd.Runs]at h
def Qk {t:TypeId}{x:Operand}(hty:rt P t=true)(ho:o.op=.call {callee:=.builtin .len,args:= #[x],argTypes:= #[t]}){base:Option Addr}{n cap:Nat}(hx:a.eval x=.slice base n cap):
 (execOp a.eval o).run P w=.ok (.value (.int Za n)) w:=by
 unfold rt at hty;split at hty
 ·rename_i e he;unfold execOp;simp[ho,resolve,invoke,builtin,Vx,hx,run_underlying he,goInt]
 ·cases hty
def L1 {xs:Array Operand}{x:Operand}(h:xs.toList=[x]):xs= #[x]:=by cases xs;simp_all
def Gl {xs:Array Operand}{x y:Operand}(h:xs.toList=[x,y]):xs= #[x,y]:=by cases xs;simp_all
def Lo {xs:Array TypeId}{x:TypeId}(h:xs.toList=[x]):xs= #[x]:=by cases xs;simp_all
def D6 {xs:Array TypeId}{x y:TypeId}(h:xs.toList=[x,y]):xs= #[x,y]:=by cases xs;simp_all
def ra (hS:aO cx G g a w){α:Type}:∀ (xs:List Operand) (k:List HQ->Rd α) (ls:List Loc) (out:α),(Gp xs k).Runs g ls out->∃ cs ls',fe G w cs (xs.map a.eval)/\(k cs).Runs g ls' out
 |[],k,ls,out,h=>⟨[],ls,rfl,h⟩
 | x::xs,k,ls,out,h=>by
   obtain⟨x0,ls1,hx,h⟩:=bA hS h;cases x0 with
   |pt r j=>obtain⟨cs,ls2,h1,h2⟩:=ra hS xs _ _ _ h;exact⟨.pt r j::cs,ls2,⟨_,_,rfl,hx,h1⟩,h2⟩
   |rp rec j=>obtain⟨cs,ls2,h1,h2⟩:=ra hS xs _ _ _ h;exact⟨.rp rec j::cs,ls2,⟨_,_,rfl,hx,h1⟩,h2⟩
   |_=>exact h.elim
def Lu (hS:aO cx G g a w)(h:(vop P cx.n o).Runs g ls (.ws ws))(hk:∀ a' w',fC cx (aT g ws) a' w'->K a' w'):o.wp P a w K Q:=by
 have h0:=h;unfold vop at h;split at h
 ·rename_i x ho;obtain⟨r,ls1,hr,h⟩:=dI hS h;exact ip (.inl ho) hS hr h hk
 ·rename_i x ho;exact Et ho hS h0 hk
 ·rename_i c x y ho;obtain⟨b,ls1,hb,h⟩:=uz hS h;obtain⟨x0,ls2,hx,h⟩:=bA hS h;obtain⟨y0,ls3,hy,h⟩:=bA hS h;have run:(execOp a.eval o).run P w=.ok (.value (if b then a.eval x else a.eval y)) w:=by
   unfold execOp;simp[ho,hb,asBool]
  have fin:∀ v,(bE cx.n o.dst (.one (.v v))).Runs g ls3 (.ws ws)->v=(if b then a.eval x else a.eval y)->o.wp P a w K Q:=by
   intro v hv e;exact bc hS hv (v:=v) (by simp[cW,iC]) (by rw[e];exact run) hk
  have core:∀ u v,x0=.v u->y0=.v v->o.wp P a w K Q:=by
   rintro u v rfl rfl;have hx':a.eval x=u:=hx;have hy':a.eval y=v:=hy;simp only at h;split at h
   ·exact fin _ h (by rw[hx',hy'];cases b<;>rfl)
   ·simp only[Rd.Runs]at h;rcases h with⟨_,h⟩|⟨e,h⟩;exact h.elim;exact fin _ h (by rw[hy',e];rfl)
   ·simp only[Rd.Runs]at h;rcases h with⟨e,h⟩|⟨_,h⟩;exact fin _ h (by rw[hx',e];rfl);exact h.elim
   ·simp[Rd.Runs]at h
  cases x0 with
  | v u=>cases y0 with
    |v v=>exact core u v rfl rfl
    |_=>simp[Rd.Runs]at h
  |_=>simp[Rd.Runs]at h
 ·rename_i t ho;exact FF ho hS h hk
 ·rename_i t x ho;exact I8 ho hS h hk
 ·rename_i t ps ho;exact FH ho hS h hk
 ·rename_i t n ps ho;exact vm ho hS h hk
 ·rename_i t x ho;exact xC ho cx.n cx rfl G g a w ls ws hS h K Q hk
 ·rename_i t x y ho;split at h
  ·rename_i hd;exact FY ho hd hS h hk
  ·simp[Rd.Runs]at h
 ·rename_i s x f ho;exact wO ho hS h hk
 ·rename_i t x i ho;exact pk ho hS h hk
 ·rename_i x ho;obtain⟨x0,ls1,hx,h⟩:=bA hS h;have run:∀ b off,a.eval x=.pointer (some ⟨b,off,none⟩)->(execOp a.eval o).run P w=.ok (.value (a.eval x)) w:=by
   intro b off e;unfold execOp;simp[ho,e]
  cases x0 with
  |pt r j=>obtain⟨b,off,e1,e2⟩:=hx;exact bc hS h (by simp only[cW];exact⟨b,off,e1,e2⟩) (run _ _ e2) hk
  |rp rec j=>obtain⟨b,off,cur,ty,fz,S,e1,e2⟩:=hx;exact bc hS h (by simp only[cW];exact⟨b,off,cur,ty,fz,S,e1,e2⟩) (run _ _ e1) hk
  |_=>simp[Rd.Runs]at h
 ·rename_i op t x y t' ho;exact B6 ho hS h hk
 ·rename_i op t x ho;exact Lt ho hS h hk
 ·rename_i src dst x ho;obtain⟨kd,n,ls1,hx,h⟩:=eR hS h;split at h
  ·rename_i k0 k hik0 hik;unfold MS at hik hik0;split at hik
   ·rename_i k' hu;cases hik;split at hik0
    ·rename_i k'' hu0;refine bc hS h (v:=.int k (k.wrap n)) (by simp[cW,iC]) ?_ hk;unfold execOp;simp[ho,hx,convert,run_underlying hu0,run_underlying hu,Conv.intToInt]
    ·cases hik0
   ·cases hik
  ·simp[Rd.Runs]at h
 ·rename_i t l c ho;exact HD ho hS h hk
 ·rename_i t x lo hi mx ho;exact FW ho hS h hk
 ·rename_i fn first captured ho;split at h
  ·rename_i f he;obtain⟨cs,ls1,hc,h⟩:=ra hS _ _ _ _ h;have hfirst:first= #[]:=by cases first;simp_all
   refine bc hS h (v:=.func (.func f) #[] (captured.map a.eval)) (by simp only[cW];exact⟨captured.toList.map a.eval,by rw[<-Yx,Yy],hc⟩) ?_ hk;unfold execOp;simp[ho,Instr.makeFunc,hfirst]
  ·exact h.elim
 ·rename_i x i ho;obtain⟨r,ls1,hr,h⟩:=dI hS h;split at h
  ·rename_i rs;split at h
   ·rename_i r0 hr0;simp only[cW]at hr;obtain⟨vs,e,hr⟩:=hr;have key:∀ (rs:List R) (vs:List Value),jo (gl g) G w rs vs->∀ (i:Nat) (r0:R),rs[i]?=some r0->∃ v,vs[i]?=some v/\cW (gl g) G w r0 v:=by
     intro rs
     induction rs with
     |nil=>intro vs _ i r0 e;simp at e
     | cons x xs ih=>
       intro vs hx i r0 e;simp only[jo]at hx;obtain⟨v,vs',rfl,h1,h2⟩:=hx;cases i with
       |zero=>simp at e;subst e;exact⟨v,rfl,h1⟩
       |succ i=>simp at e;obtain⟨v',q1,q2⟩:=ih vs' h2 i r0 e;exact⟨v',by simpa using q1,q2⟩
    obtain⟨v,hv,hok⟩:=key rs vs hr i r0 hr0;refine bc hS h hok ?_ hk;unfold execOp;simp[ho,e,Instr.extract,hv]
   ·simp[Rd.Runs]at h
  ·simp[Rd.Runs]at h
 ·rename_i c ho;obtain⟨callee,args,argTypes⟩:=c;simp only at h;split at h
  ·split at h
   ·rename_i x t e1 e2;obtain rfl:=L1 e1;obtain rfl:=Lo e2;split at h
    ·rename_i hty;obtain⟨x0,ls1,hx,h⟩:=bA hS h;obtain⟨base,n,cap,ls2,hv,h⟩:=Iw hx h;exact bc hS h (v:=.int Za n) (by simp[cW,iC]) (Qk hty ho hv) hk
    ·simp[Rd.Runs]at h
   ·simp[Rd.Runs]at h
  ·split at h
   ·rename_i s x t t' e1 e2;obtain rfl:=Gl e1;obtain rfl:=D6 e2;exact sW ho hS h hk
   ·simp[Rd.Runs]at h
  ·obtain⟨ls1,h⟩:=pN hS _ _ _ _ h;split at h
   ·rename_i v hv;refine bc hS h (v:=v) (by simp[cW,iC]) ?_ hk;have:=Bq (P:=P) (w:=w) hv argTypes o.type;unfold execOp;simp only[ZI,if_false]at this;have e:(args.toList.map a.eval).toArray=args.map a.eval:=by rw[<-Yx,Yy]
    rw[e]at this;simp[ho,resolve,invoke,builtin,this]
   ·simp[Rd.Runs]at h
  ·obtain⟨ls1,h⟩:=pN hS _ _ _ _ h;split at h
   ·rename_i v hv;refine bc hS h (v:=v) (by simp[cW,iC]) ?_ hk;have:=Bq (P:=P) (w:=w) hv argTypes o.type;unfold execOp;simp only[if_true]at this;have e:(args.toList.map a.eval).toArray=args.map a.eval:=by rw[<-Yx,Yy]
    rw[e]at this;simp[ho,resolve,invoke,builtin,this]
   ·simp[Rd.Runs]at h
  ·unfold D7 at h;split at h
   ·obtain⟨ds,ls2,_,h⟩:=nk hS _ _ _ _ _ h;obtain⟨d,ls3,_,_,_,h⟩:=cV h;simp only[Rd.Runs]at h;cases h.2
   ·simp[Rd.Runs]at h
  ·simp[Rd.Runs]at h
 ·simp[Rd.Runs]at h
end
end Go.V
namespace Go.V
abbrev VS :=List W
def get:VS->Gm
 |[]=>fun _=>none
 |x::σ=>x.app (get σ)
def push (σ:VS):List W->VS
 |[]=>σ
 |x::ws=>push (x::σ) ws
def Bb:∀ (ws:List W) (σ:VS),get (push σ ws)=aT (get σ) ws
 |[],σ=>rfl
 |x::ws,σ=>by simp only[push,aT];rw[Bb ws (x::σ)];rfl
def Be (all:Array Oper)(o:Oper):Rd Bool:=
 match o.guard with
 |none=>.ret true
 | some (j,want)=>match(all[j]?).bind (·.dst)with
   | some d=>G3 d fun r=>match r with
     | .one (.v (.bool b))=>.br b (.ret (true==want)) (.ret (false==want))
     | .one (.v (.tuple _))=>.ret false
     |_=>.fail
   |none=>.fail
def kj (o:Oper):Option (FuncId×Array TypeId×Array Operand):=
 match o.op with
 | .call c=>match c.callee with
   | .value (.func f)=>some (f,c.argTypes,c.args)
   |_=>none
 |_=>none
section
variable {P: Program} {cx: Cx} {a: Act} {w: World} {σ : VS}
def EV {G:Gh}{g:Gm}(hS:aO cx G g a w){all:Array Oper}{o:Oper}{ls:List Loc}{b:Bool}(h:(Be all o).Runs g ls b):YW o (yielded all a.tmps)=b:=by
 unfold Be at h;unfold YW;cases hg:o.guard with
 |none=>simp only[hg,Rd.Runs]at h;exact h.2.symm
 | some jw=>
   obtain⟨j,want⟩:=jw;simp only[hg]at h;simp only;split at h
   ·rename_i d hd;obtain⟨r,ls',hr,hreg,h⟩:=sk hS h;have hlt:=(hS.reg d _ hreg).1;have ht:a.tmps[d]?=some (a.tmps.getD d undef):=by
     rw[<-hS.tm]at hlt;simp[Yt,hlt]
    split at h
    ·rename_i bb;simp only[cW,iC]at hr;have hy:yielded all a.tmps j=some bb:=by unfold yielded;rw[hd];simp only[YC,ht,hr]
     rw[hy];simp only[Rd.Runs]at h;rcases h with⟨rfl,_,rfl⟩|⟨rfl,_,rfl⟩<;>cases want<;>rfl
    ·simp only[cW,iC]at hr;have hy:yielded all a.tmps j=none:=by unfold yielded;rw[hd];simp only[YC,ht,hr]
     rw[hy];simp only[Rd.Runs]at h;rw[h.2];rfl
    ·simp[Rd.Runs]at h
   ·simp[Rd.Runs]at h
def q8 {o:Oper}{f:FuncId}{ts:Array TypeId}{args:Array Operand}(h:kj o=some (f,ts,args)):o.op=.call {callee:=.value (.func f),args:=args,argTypes:=ts}:=by
 unfold kj at h;split at h
 ·rename_i c hc;obtain⟨callee,as,ats⟩:=c;simp only at h;split at h
  ·cases h;exact hc
  ·cases h
 ·cases h
end
end Go.V
namespace Go.V
inductive Ex where
 |normal
 |exit (id:Nat)
 |ret
def PS:Ex->Exit
 | .normal=>.normal
 | .exit i=>.exit i
 | .ret=>.ret
section
variable {P: Program} {cx: Cx}
def wp_loop_ghost {α:Type}{c:Code}{Q:Exit->Act->World->Prop}(I:α->Act->World->Prop)(μ:α->Nat){a:Act}{w:World}(s0:α)(h₀:I s0 a w) 
 (round:∀ s a w,I s a w->c.wp P (Exit.then (fun a' w'=>∃ s',I s' a' w'/\μ s'<μ s) Q) a w):(Code.loop c).wp P Q a w:=by
 intro b k cs;have key:∀ n s a w,μ s=n->I s a w->∃ e a' w',Q e a' w'/\Arrives P (lone (b.at a (.code c:: .inLoop c::k)) cs w) b k cs e a' w':=by
  intro n
  induction n using Nat.strongRecOn with
  | _ n ih=>
    intro s a w hn hI;obtain⟨e,a₁,w₁,hq,harr⟩:=round s a w hI b (.inLoop c::k) cs;cases e with
    | normal=>
      obtain⟨s',hI₁,hlt⟩:=hq;obtain⟨e₂,a₂,w₂,hq₂,harr₂⟩:=ih (μ s') (hn▸hlt) s' a₁ w₁ rfl hI₁;exact⟨e₂,a₂,w₂,hq₂,.of_steps (Steps.trans harr (.one step_inLoop)) harr₂⟩
    |exit id=>exact⟨_,a₁,w₁,hq,.pass (x:=.inLoop c) rfl (fun _ _=>.inl (by simp)) harr⟩
    |goto l=>exact⟨_,a₁,w₁,hq,.pass (x:=.inLoop c) rfl (fun _ _=>.inl (by simp)) harr⟩
    |ret=>exact⟨_,a₁,w₁,hq,.pass (x:=.inLoop c) rfl (fun _ _=>.inl (by simp)) harr⟩
    |panic ch=>exact⟨_,a₁,w₁,hq,.pass (x:=.inLoop c) rfl (fun _ _=>.inl (by simp)) harr⟩
    |outgrown=>exact⟨_,a₁,w₁,hq,.pass (x:=.inLoop c) rfl (fun _ _=>.inl (by simp)) harr⟩
 obtain⟨e,a',w',hq,harr⟩:=key _ s0 a w rfl h₀;exact⟨e,a',w',hq,.of_steps (.one step_loop) harr⟩
end
def tJ:DV->R
 | .one l=>.one (roA l)
 | .agg ls=>.agg (ls.map roA)
 | .ptr rec=>.one (.rp rec 0)
 | .fn f caps=>.one (.fn f (caps.map fun rec=>.rp rec 0))
 | .mp _=>.one .un
def k9:Nat->List DV->VS
 |_,[]=>[]
 |p,d::ds=>.reg p (tJ d)::k9 (p+1) ds
def Od {α:Type}(P:Program)(t:TypeId)(rv:ResultVar)(k:DV->List (Nat×Nat)->Rd α):Rd α:=
 match oO P t with
 |none=>.fail
 | some ti=>
   let fin (as:List A):Rd α:=dc ti.slots as fun lts srcs=>if ti.agg then k (.agg (lts.map (·.1))) srcs else match lts with
    |[(l,_)]=>k (.one l) srcs
    |_=>.fail
   match rv with
   | .tmp x=>G3 x fun r=>match r with
     | .one a=>if ti.agg then .fail else fin [a]
     | .agg as=>if ti.agg then fin as else .fail
     | .tup _=>.fail
   | .cell x t'=>if t'==t then G3 x fun r=>match r with
     | .one (.pt r j)=>fb r j ti.zero.length fin
     |_=>.fail
     else .fail
def BF {α:Type}(P:Program):List TypeId->List ResultVar->(List DV->List (Nat×Nat)->Rd α)->Rd α
 |[],[],k=>k [] []
 |t::ts,rv::rvs,k=>Od P t rv fun d src=>BF P ts rvs fun ds srcs=>k (d::ds) (src++srcs)
 |_,_,_=>.fail
end Go.V
namespace Go.V
section
variable {P: Program} {cx: Cx} {G: Gh} {g: Gm} {a: Act} {w: World}
def tx (tmps:Array Value):ResultVar->Sem Value
 | .tmp t=>pure (tmps.getD t undef)
 | .cell x t=>do loadVar t (<-asAddr (tmps.getD x undef))
def tc (hS:aO cx G g a w){ti:TI}{as:List A}{vs:List Value}(hx:bX (gl g) G w as vs){α:Type}{k:DV->List (Nat×Nat)->Rd α}{ls:List Loc}{out:α} 
 (h:(dc ti.slots as fun lts srcs=>if ti.agg then k (.agg (lts.map (·.1))) srcs else match lts with
   |[(l,_)]=>k (.one l) srcs
   |_=>.fail).Runs g ls out):
 ∃ (d:DV) (srcs:List (Nat×Nat)) (Ss:List (List Nat)) (ls':List Loc),(if ti.agg then pw w d (.agg vs.toArray) Ss.flatten else∃ v,vs=[v]/\pw w d v Ss.flatten)/\(bp srcs=true->Ss.flatten.Nodup)/\(∀ b∈Ss.flatten,eV w b/\∃ r j,(r,j)∈srcs/\G.ow b=some (.leaf r j))/\(k d srcs).Runs g ls' out:=by
 obtain⟨lts,srcs,Ss,ls2,ht,hl,h⟩:=fX hS _ _ _ hx _ _ _ h;have tok:∀ {ls:List (L×Option Nat)} {srcs:List (Nat×Nat)} {vs:List Value} {Ss:List (List Nat)},HI g G w ls srcs vs Ss->∀ b∈Ss.flatten,eV w b/\∃ r j,(r,j)∈srcs/\G.ow b=some (.leaf r j):=by
  intro ls srcs vs Ss ht
  induction ht with
  |nil=>intro b hb;simp at hb
  | cons h hs ih=>
    intro b hb;rw[ZZ,Zg]at hb;rcases hb with hb|hb
    ·obtain⟨u,r,j,m1,m2⟩:=(h.facts hS).2.2 b hb;exact⟨u,r,j,by simp[m1],m2⟩
    ·obtain⟨u,r,j,m1,m2⟩:=ih b hb;exact⟨u,r,j,by simp[m1],m2⟩
 cases ha:ti.agg with
 | true=>
   simp only[ha,if_true]at h;exact⟨_,srcs,Ss,ls2,by simp only[if_true];exact⟨vs,rfl,ht.rec_ hS⟩,fun hd=>(ht.facts hS hd).1,tok ht,h⟩
 | false=>
   simp only[ha,ZI,if_false]at h;split at h
   ·rename_i l og;have hr:=ht.rec_ hS;simp only[ZT,YT,ak]at hr;obtain⟨v,vs',S1,S2,rfl,h1,⟨rfl,rfl⟩,e⟩:=hr;refine⟨.one l,srcs,Ss,ls2,?_,fun hd=>(ht.facts hS hd).1,tok ht,h⟩;simp only[ZI,if_false];exact⟨v,rfl,by simp only[pw];rw[e,Yb];exact h1⟩
   ·simp[Rd.Runs]at h
def IX (hS:aO cx G g a w){t:TypeId}{rv:ResultVar}{α:Type}{k:DV->List (Nat×Nat)->Rd α}{ls:List Loc}{out:α}(h:(Od P t rv k).Runs g ls out):
 ∃ d v srcs S ls',(tx a.tmps rv).run P w=.ok v w/\pw w d v S/\(bp srcs=true->S.Nodup)/\(∀ b∈S,eV w b/\∃ r j,(r,j)∈srcs/\G.ow b=some (.leaf r j))/\(k d srcs).Runs g ls' out:=by
 unfold Od at h;cases hti:oO P t with
 |none=>simp[hti,Rd.Runs]at h
 | some ti=>
   simp only[hti]at h;cases rv with
   | tmp x=>
     simp only at h;obtain⟨r,ls1,hr,_,h⟩:=sk hS h;cases r with
     | one x0=>
       simp only[cW]at hr;simp only at h;by_cases hag:ti.agg=true
       ·rw[VE hag]at h;simp[Rd.Runs]at h
       ·rw[VF hag]at h;have hag':ti.agg=false:=by simpa using hag
        obtain⟨d,srcs,Ss,ls2,h1,h2,h3,h4⟩:=tc (as:=[x0]) (vs:=[a.tmps.getD x undef]) hS ⟨_,_,rfl,hr,rfl⟩ h;simp only[hag',ZI,if_false]at h1;obtain⟨v,e,h1⟩:=h1;cases e;exact⟨d,_,srcs,_,ls2,rfl,h1,h2,h3,h4⟩
     | agg as=>
       simp only[cW]at hr;obtain⟨vs,e,hr⟩:=hr;simp only at h;by_cases hag:ti.agg=true
       ·rw[VE hag]at h;obtain⟨d,srcs,Ss,ls2,h1,h2,h3,h4⟩:=tc hS hr h;simp only[hag,if_true]at h1;exact⟨d,_,srcs,_,ls2,by simp only[tx,e];rfl,h1,h2,h3,h4⟩
       ·rw[VF hag]at h;simp[Rd.Runs]at h
     |tup rs=>simp[Rd.Runs]at h
   | cell x t'=>
     simp only at h;split at h
     ·rename_i htt;simp only[beq_iff_eq]at htt;subst htt;obtain⟨r,ls1,hr,_,h⟩:=sk hS h;cases r with
      |agg xs=>simp[Rd.Runs]at h
      |tup xs=>simp[Rd.Runs]at h
      | one x0=>
        cases x0 with
        |v y=>simp[Rd.Runs]at h
        |nl=>simp[Rd.Runs]at h
        |mv r j ver=>simp[Rd.Runs]at h
        |st r j ver iv k=>simp[Rd.Runs]at h
        |it es vs=>simp[Rd.Runs]at h
        |ro sz es=>simp[Rd.Runs]at h
        |rp rec j=>simp[Rd.Runs]at h
        |pn r j ver iv p=>simp[Rd.Runs]at h
        |vw r j ver lo m=>simp[Rd.Runs]at h
        |vn r j ver iv p lo m=>simp[Rd.Runs]at h
        |un=>simp[Rd.Runs]at h
        |fn f caps=>simp[Rd.Runs]at h
        |pt r0 j=>
        simp only at h;simp only[cW,iC]at hr;obtain⟨b,off,e1,e2⟩:=hr;obtain⟨as,ls2,h1,h2,h⟩:=jL hS r0 _ _ _ _ _ h;obtain⟨d,srcs,Ss,ls3,k1,k2,k3,k4⟩:=tc hS h1 h;have hload:(ti.agg=false->((Zl ti.zero.length).map fun i=>G.val r0 (j+i)).length=1)->(loadVar t' ⟨b,off+j,none⟩).run P w=.ok (if ti.agg then .agg ((Zl ti.zero.length).map fun i=>G.val r0 (j+i)).toArray else((Zl ti.zero.length).map fun i=>G.val r0 (j+i)).getD 0 undef) w:=by
         intro hlen;refine lC hti w b (off+j) _ (by simp) hlen ?_;intro k v hv;rw[ZD]at hv;cases hr:(Zl ti.zero.length)[k]? with
         |none=>simp[hr]at hv
         | some k'=>
           simp only[hr,Yf,Ya]at hv;have hk':k'=k/\k<ti.zero.length:=by
            obtain⟨q1,q2⟩:=ZF.1 hr;simp at q1 q2;exact⟨q2.symm,q1⟩
           obtain⟨rfl,hlt⟩:=hk';obtain⟨m,hm⟩:=hS.noloc r0 _ e1;obtain⟨b',off',cur,ty,f1,f2,f3,f4,f5⟩:=hS.boxes r0 m hm;rw[e1]at f1;cases f1;obtain⟨hh,hgl⟩:=h2 k' hlt;obtain⟨_,m',bx,_,q2,q3,_⟩:=hS.leaf r0 (j+k') _ (av.1 hgl);rw[hm]at q2;cases q2;rw[gh f3, <-hv];rw[show off+j+k'=off+(j+k')from by omega];exact f5 _ q3
        have hasA:∀ v,(loadVar t' ⟨b,off+j,none⟩).run P w=.ok v w->(tx a.tmps (.cell x t')).run P w=.ok v w:=by
         intro v hv;simp[tx,e2,asAddr,hv]
        cases ha:ti.agg with
        | true=>
          simp only[ha,if_true]at k1;have:=hload (by simp[ha]);simp only[ha,if_true]at this;exact⟨d,_,srcs,_,ls3,hasA _ this,k1,k2,k3,k4⟩
        | false=>
          simp only[ha,ZI,if_false]at k1;obtain⟨v,e,k1⟩:=k1;have:=hload (fun _=>by rw[e];rfl);simp only[ha,ZI,if_false,e]at this;exact⟨d,v,srcs,_,ls3,hasA _ (by simpa using this),k1,k2,k3,k4⟩
     ·simp[Rd.Runs]at h
def iq (hS:aO cx G g a w){α:Type}:∀ (ts:List TypeId) (rvs:List ResultVar) (k:List DV->List (Nat×Nat)->Rd α) (ls:List Loc) (out:α),(BF P ts rvs k).Runs g ls out->
 ∃ ds vs srcs S ls',(rvs.mapM (tx a.tmps)).run P w=.ok vs w/\bU w ds vs S/\(bp srcs=true->S.Nodup)/\(∀ b∈S,eV w b/\∃ r j,(r,j)∈srcs/\G.ow b=some (.leaf r j))/\(k ds srcs).Runs g ls' out
 |[],[],k,ls,out,h=>⟨[],[],[],[],ls,rfl,by simp[bU],fun _=>ZL,fun b hb=>(by cases hb),by simpa[BF]using h⟩
 |[],_::_,k,ls,out,h=>by simp[BF,Rd.Runs]at h
 |_::_,[],k,ls,out,h=>by simp[BF,Rd.Runs]at h
 | t::ts,rv::rvs,k,ls,out,h=>by
   simp only[BF]at h;obtain⟨d,v,src,S,ls2,h1,h2,h3,h4,h⟩:=IX hS h;obtain⟨ds,vs,srcs,S2,ls3,k1,k2,k3,k4,h⟩:=iq hS ts rvs _ _ _ h;refine⟨d::ds,v::vs,src++srcs,S++S2,ls3,?_,?_,?_,?_,h⟩
   ·simp only[Wm,ZQ,h1,Z2,k1,Yi]
   ·simp only[bU];exact⟨v,vs,S,S2,rfl,h2,k2,rfl⟩
   ·intro hd;obtain⟨d1,d2,d3⟩:=cJ hd;rw[Zu];refine⟨h3 d1,k3 d2,fun x hx y hy e=>?_⟩;subst e;obtain⟨_,r,j,m1,m2⟩:=h4 x hx;obtain⟨_,r',j',m3,m4⟩:=k4 x hy;rw[m2]at m4;cases m4;exact d3 _ m1 m3
   ·intro b hb;rcases Zg.1 hb with hb|hb
    ·obtain⟨u,r,j,m1,m2⟩:=h4 b hb;exact⟨u,r,j,by simp[m1],m2⟩
    ·obtain⟨u,r,j,m1,m2⟩:=k4 b hb;exact⟨u,r,j,by simp[m1],m2⟩
def IY (fn:Func)(tmps:Array Value):results fn tmps=(fn.results.mapM (tx tmps)>>=fun vs=>pure (if h:vs.size=1 then vs[0]else .tuple vs):Sem Value):=by
 unfold results
 congr 1
def GI (n:Nat)(w:World)(ds:List DV)(vs:List Value)(hargs:gR (fun _=>True) w ds vs)(hn:ds.length<=n):
 fC ⟨n,w,fun _=>True,fun _=>undef,fun _=>none,fun _=>0,fun _=>True⟩ (get (k9 0 ds)) {tmps:=vs.toArray++YX (n-vs.toArray.size) undef,defers:=[]} w:=by
 have hlen:∀ (ds:List DV) (vs:List Value),gR (fun _=>True) w ds vs->vs.length=ds.length:=by
  intro ds
  induction ds with
  |nil=>intro vs h;simp only[gR]at h;simp[h]
  |cons d ds ih=>intro vs h;obtain⟨v,vs',S,rfl,_,_,h2⟩:=h;simp[ih vs' h2]
 have hl:=hlen ds vs hargs
 let G:Gh:={loc:=fun _=>none,val:=fun _ _=>undef,fp:=fun _ _=>[],ow:=fun b=>if b<w.heap.size then some .ro else none,lead:=id}
 have hro:∀ b,b<w.heap.size->G.ow b=some .ro:=fun b hb=>by simp[G,hb]
 have nomem:∀ (ds:List DV) (p:Nat),(∀ r j,get (k9 p ds) (.leaf r j)=none)/\(∀ r,get (k9 p ds) (.meta_ r)=none):=by
  intro ds
  induction ds with
  |nil=>intro p;exact⟨fun _ _=>rfl,fun _=>rfl⟩
  |cons d ds ih=>intro p;simp only[k9,get,W.app];exact⟨fun r j=>by simp[(ih (p+1)).1 r j],fun r=>by simp[(ih (p+1)).2 r]⟩
 have regs:∀ (ds:List DV) (vs:List Value) (p:Nat),gR (fun _=>True) w ds vs->∀ d x,get (k9 p ds) (.reg d)=some x->∃ i r,d=p+i/\i<vs.length/\x=.r r/\cW (gl (get (k9 0 ([]:List DV)))) G w r (vs.getD i undef):=by
  intro ds
  induction ds with
  |nil=>intro vs p _ d x h;simp[k9,get]at h
  | cons d0 ds ih=>
    intro vs p h d x hx;obtain⟨v,vs',S,rfl,h1,_,h2⟩:=h;simp only[k9,get,W.app]at hx;split at hx
    ·rename_i e;cases e;cases hx;refine⟨0,tJ d0,rfl,by simp,rfl,?_⟩;simp only[List.getD_cons_zero];cases d0 with
     | one l=>
       simp only[tJ,cW];have:=wz (γ:=gl (get (k9 0 ([]:List DV)))) (G:=G) [l] [v] S (by simp only[ak];exact⟨v,[],S,[],rfl,h1,⟨rfl,rfl⟩,by simp⟩) (fun b hb=>hro b (bN.lt _ _ _ h1 b hb));simp only[ZT,YT,bX]at this;obtain⟨v',vs'',e,h3,_⟩:=this;cases e;exact h3
     | agg lls=>
       obtain⟨us,e,h1⟩:=h1;simp only[tJ,cW];exact⟨us,e,wz _ _ S h1 (fun b hb=>hro b (ak.lt _ _ _ h1 b hb))⟩
     | ptr rec=>
       obtain⟨b,off,cur,ty,fz,S',e1,e2,e3,e4,e5⟩:=h1;simp only[tJ,cW];exact⟨b,off,cur,ty,fz,S',e1,e2,hro b (ZE.1 e2).1,e3,e4,fun c hc=>hro c (ak.lt _ _ _ e4 c hc)⟩
     | fn f caps=>
       obtain⟨ps,e,h1⟩:=h1;simp only[tJ,cW];refine⟨ps,e,?_⟩;have key:∀ (caps:ab) (ps:List Value) (S:List Nat),lJ w caps ps S->fe G w (caps.map fun rec=>.rp rec 0) ps:=by
        intro caps
        induction caps with
        |nil=>intro ps S h;simp only[lJ]at h;simp[fe,h.1]
        | cons r rs ih=>
          intro ps S h;simp only[lJ]at h;obtain⟨v,vs',S1,S2,rfl,q1,q2,_⟩:=h;obtain⟨b,off,cur,ty,fz,S',e1,e2,e3,e4,e5⟩:=q1;exact⟨v,vs',rfl,⟨b,off,cur,ty,fz,S',e1,e2,hro b (ZE.1 e2).1,e3,e4,fun c hc=>hro c (ak.lt _ _ _ e4 c hc)⟩,ih _ _ q2⟩
       exact key caps ps S h1
     |mp hs=>exact h1.elim
    ·obtain⟨i,r,e1,e2,e3,e4⟩:=ih vs' (p+1) h2 d x hx;exact⟨i+1,r,Uc,by simpa using e2,e3,by simpa using e4⟩
 have hgl:gl (get (k9 0 ds))=gl (get (k9 0 ([]:List DV))):=by
  funext r j;simp[gl,(nomem ds 0).1,(nomem [] 0).1]
 refine⟨G,rfl,by simp;omega,?_,?_,?_,?_,?_,?_,Same.refl _ _,?_,(fun r j h e=>by rw[av,(nomem ds 0).1]at e;cases e),(fun r x e=>by cases e),(fun r b o e=>by cases e),(fun r1 r2 k1 k2 b o1 o2 _ e=>by rw[(nomem ds 0).2]at e;cases e),(fun r b o e=>by cases e),fun _ _=>trivial⟩
 ·intro d x hx;obtain⟨i,r,e1,e2,e3,e4⟩:=regs ds vs 0 hargs d x hx;have hd:d=i:=by omega
  subst hd;refine⟨by show d<n;omega,r,e3,?_⟩;rw[hgl];have:(vs.toArray++YX (n-vs.toArray.size) undef).getD d undef=vs.getD d undef:=by
   simp only[Yt];rw[Array.getElem?_append_left (by simpa using e2)];simp[Zv]
  simp only;rw[this];exact e4
 ·intro r k hk;rw[(nomem ds 0).2]at hk;cases hk
 ·intro r j x hx;rw[(nomem ds 0).1]at hx;cases hx
 ·intro r x hx;rw[(nomem ds 0).2]at hx;cases hx
 ·intro r b hb;cases hb
 ·intro b t hb;by_cases c:b<w.heap.size;exact c
  ·simp[G,c]at hb
 ·intro b hb _;exact .inr (hro b hb)
open Classical in
end
end Go.V
namespace Go.V
abbrev Ups :=Nat->Nat->Option (Hv×List Nat)
section
variable {cx: Cx} {g: Gm} {G: Gh} {a: Act} {w: World}
open Classical in
def aO.call (hS:aO cx G g a w)(u:Ups){d:Nat}(hd:g (.meta_ d)=none)(hs:List Hv)(w':World)(g':Gm) 
 (hgr:∀ e,g' (.reg e)=g (.reg e)) (hgm:∀ r,g' (.meta_ r)=if r=d then some (.m hs.length false)else g (.meta_ r))
 (hgl:∀ r j,g' (.leaf r j)=if r=d then(hs[j]?).map .h else match u r j with
   |some x=>some (.h x.1)
   |none=>g (.leaf r j))
 (hos:w'.os=w.os) (htape:w'.tape=w.tape) (hout:w'.output=w.output) (hsize:w.heap.size<=w'.heap.size)
 (hsame:∀ b,b<w.heap.size->(∀ r j x,u r j=some x->b∉G.fp r j)->w'.heap[b]?=w.heap[b]?)
 (hu:∀ r j h' S',u r j=some (h',S')->∃ h sz es es',g (.leaf r j)=some (.h h)/\h.c=.own (.s sz es)/\h'=⟨h.ver,h.iv+1,h.org,.own (.s sz es')⟩/\es'.length=es.length/\
   bN w' (.s sz es') (G.val r j) S'/\S'.Nodup)
 (nv:Nat->Value) (nf:Nat->List Nat) (hnew:∀ j h,hs[j]?=some h->∃ l,h=⟨0,0,none,.own l⟩/\bN w' l (nv j) (nf j)/\(nf j).Nodup)
 (hfree:∀ b,((∃ j,j<hs.length/\b∈nf j)\/∃ r j h' S',u r j=some (h',S')/\b∈S')->eV w' b/\(w.heap.size<=b\/∃ r j x,u r j=some x/\b∈G.fp r j))
 (P8:∀ i j,i<hs.length->j<hs.length->i≠j->∀ b∈nf i,b∉nf j)
 (hd2:∀ i r j h' S',i<hs.length->u r j=some (h',S')->∀ b∈nf i,b∉S')
 (hd3:∀ r j h' S' r2 j2 h2 S2,u r j=some (h',S')->u r2 j2=some (h2,S2)->(r,j)≠(r2,j2)->∀ b∈S',b∉S2):
 ∃ G',aO cx G' g' a w'/\(∀ j,G'.val d j=nv j):=by
 have hlf:∀ j,g (.leaf d j)=none:=by
  intro j;cases e:g (.leaf d j)with
  |none=>rfl
  |some y=>obtain⟨h,k,bx,e1,e2,_⟩:=hS.leaf d j y e;rw[hd]at e2;cases e2
 have hud:∀ j,u d j=none:=by
  intro j;cases e:u d j with
  |none=>rfl
  |some x=>obtain⟨h,_,_,_,e1,_⟩:=hu d j x.1 x.2 e;rw[hlf]at e1;cases e1
 have hgd:∀ j,gl g d j=none:=fun j=>by simp[gl,hlf]
 have hloc:G.loc d=none:=by
  cases e:G.loc d with
  |none=>rfl
  |some y=>obtain⟨k,hk⟩:=hS.noloc d y e;rw[hd]at hk;cases hk
 let isN:Nat->Prop:=fun b=>∃ j,j<hs.length/\b∈nf j
 let isU:Nat->Prop:=fun b=>∃ p:Nat×Nat,∃ h' S',u p.1 p.2=some (h',S')/\b∈S'
 let G':Gh:={
  loc:=G.loc
  val:=fun r j=>if r=d then nv j else G.val r j
  fp:=fun r j=>if r=d then nf j else match u r j with
   |some x=>x.2
   |none=>G.fp r j
  ow:=fun b=>if h:isN b then some (.leaf d h.choose)else if h:isU b then some (.leaf h.choose.1 h.choose.2)else G.ow b
  lead:=G.lead}
 have ufp:∀ r j x,u r j=some x->∀ b∈G.fp r j,G.ow b=some (.leaf r j)/\eV w b:=by
  intro r j x hx b hb;obtain⟨h,sz,es,es',e1,e2,_⟩:=hu r j x.1 x.2 hx;have:=hS.hok (av.2 e1);simp only[ew,e2]at this;exact this.2.2 b hb
 have ownN:∀ j,j<hs.length->∀ b∈nf j,G'.ow b=some (.leaf d j):=by
  intro j hj b hb;have h2:isN b:=⟨j,hj,hb⟩;simp only[G',dif_pos h2];have:=h2.choose_spec;by_cases e:h2.choose=j
  ·rw[e]
  ·exact absurd hb (P8 _ j this.1 hj e b this.2)
 have ownU:∀ r j h' S',u r j=some (h',S')->∀ b∈S',G'.ow b=some (.leaf r j):=by
  intro r j h' S' hx b hb;have h1:¬ isN b:=fun⟨i,hi,hbi⟩=>hd2 i r j h' S' hi hx b hbi hb
  have h2:isU b:=⟨(r,j),h',S',hx,hb⟩;simp only[G',dif_neg h1,dif_pos h2];obtain⟨h3,S3,q1,q2⟩:=h2.choose_spec;by_cases e:h2.choose=(r,j)
  ·rw[e]
  ·exact absurd hb (hd3 _ _ h3 S3 r j h' S' q1 hx (fun e'=>e e') b q2)
 have fresh:∀ b,isN b\/isU b->eV w' b/\(w.heap.size<=b\/∃ r j x,u r j=some x/\b∈G.fp r j):=by
  intro b hb;refine hfree b ?_;rcases hb with⟨j,hj,hbj⟩|⟨p,h',S',q1,q2⟩;exact .inl ⟨j,hj,hbj⟩;exact .inr ⟨p.1,p.2,h',S',q1,q2⟩
 have notnew:∀ b t,G.ow b=some t->(∀ r j,t=.leaf r j->u r j=none)->¬ isN b/\¬ isU b:=by
  intro b t ht hl;have hb:=hS.lt b t ht;have:¬ (isN b\/isU b):=by
   intro hn;rcases(fresh b hn).2 with h|⟨r,j,x,q1,q2⟩;omega
   ·rw[(ufp r j x q1 b q2).1]at ht;cases ht;rw[hl r j rfl]at q1;cases q1
  exact⟨fun h=>this (.inl h),fun h=>this (.inr h)⟩
 have owk:∀ b t,G.ow b=some t->(∀ r j,t=.leaf r j->u r j=none)->G'.ow b=some t:=by
  intro b t ht hl;obtain⟨h1,h2⟩:=notnew b t ht hl;simp only[G',dif_neg h1,dif_neg h2];exact ht
 have same:∀ b t,G.ow b=some t->(∀ r j,t=.leaf r j->u r j=none)->w'.heap[b]?=w.heap[b]?:=by
  intro b t ht hl;refine hsame b (hS.lt b t ht) (fun r j x hx hb=>?_);rw[(ufp r j x hx b hb).1]at ht;cases ht;rw[hl r j rfl]at hx;cases hx
 have st:Step g G w g' G' w':=by
  refine⟨fun r j h e=>?_,fun b hb=>⟨owk b _ hb (fun r j e=>by cases e),same b _ hb (fun r j e=>by cases e)⟩,fun b hb=>⟨owk b _ hb (fun r j e=>by cases e),same b _ hb (fun r j e=>by cases e)⟩,fun r y e=>e⟩;have hrd:r≠d:=by rintro rfl;rw[hgd]at e;cases e
  cases hx:u r j with
  | none=>
    refine⟨h,av.2 (by rw[hgl,VF hrd,hx];exact av.1 e),.inl ⟨rfl,by simp[G',hrd],fun l hc b hb=>?_⟩⟩;have:=hS.hok e;simp only[ew,hc]at this;exact same b _ (this.2.2 b hb).1 (fun r' j' e'=>by cases e';exact hx)
  | some x=>
    obtain⟨h0,sz,es,es',e1,e2,e3,e4,_⟩:=hu r j x.1 x.2 hx;rw[av,e1]at e;cases e;refine⟨x.1,av.2 (by rw[hgl,VF hrd,hx]),.inr (.inl ⟨by rw[e3],by rw[e3];exact YE _,by simp[G',hrd],.inl ⟨sz,es,es',e2,by rw[e3],e4⟩⟩)⟩
 have hroX:∀ b,G'.ow b=some .ro->cx.ro b:=fun b e=>hS.roX b (by simp only[G']at e;(repeat' split at e)<;>first|(cases e;done)|exact e)
 refine⟨G',⟨hS.defers,hS.tm,?_,?_,?_,?_,?_,?_,⟨hos.trans hS.frame.os,htape.trans hS.frame.tape,hout.trans hS.frame.output,Z8 hS.frame.size hsize,fun b hb hf=>Eq.trans ?_ (hS.frame.block b hb hf)⟩,?_,?_,?_,?_,?_,hS.newb,hroX⟩,fun j=>by simp[G']⟩
 ·intro e y hy;rw[hgr]at hy;obtain⟨e1,y',e2,e3⟩:=hS.reg e y hy;exact⟨e1,y',e2,cW.step hS st _ _ e3⟩
 ·intro r k hk;rw[hgm]at hk;by_cases c:r=d
  ·rw[VE c]at hk;cases hk
  ·rw[VF c]at hk;obtain⟨b,o,cur,ty,f1,f2,f3,f4,f5⟩:=hS.boxes r k hk;exact⟨b,o,cur,ty,f1,owk b _ f2 (fun r j e=>by cases e),by rw[same b _ f2 (fun r j e=>by cases e)];exact f3,f4,fun j hj=>by simp[G',c,f5 j hj]⟩
 ·intro r j y hy;rw[hgl]at hy;by_cases c:r=d
  ·subst c;rw[VE rfl]at hy;cases e:hs[j]? with
   |none=>simp[e]at hy
   | some h=>
     simp[e]at hy;subst hy;have hj:j<hs.length:=(ZF.1 e).1;refine⟨h,hs.length,false,rfl,by rw[hgm,VE rfl],hj,?_⟩;obtain⟨l,rfl,q1,q2⟩:=hnew j h e;simp only[ew];refine⟨by simp only[G',if_true];exact q1,by simp only[G',if_true];exact q2,fun b hb=>?_⟩;have hb':b∈nf j:=by simpa only[G',if_true]using hb
     exact⟨ownN j hj b hb',(fresh b (.inl ⟨j,hj,hb'⟩)).1⟩
  ·rw[VF c]at hy;cases hx:u r j with
   | some x=>
     simp only[hx]at hy;cases hy;obtain⟨h0,sz,es,es',e1,e2,e3,e4,e5,e6⟩:=hu r j x.1 x.2 hx;obtain⟨h,k,bx,q1,q2,q3,_⟩:=hS.leaf r j _ e1;refine⟨x.1,k,bx,rfl,by rw[hgm,VF c];exact q2,q3,?_⟩;rw[e3];simp only[ew,G',VF c,hx];exact⟨e5,e6,fun b hb=>⟨ownU r j x.1 x.2 hx b hb,(fresh b (.inr ⟨(r,j),x.1,x.2,hx,hb⟩)).1⟩⟩
   | none=>
     simp only[hx]at hy;obtain⟨h,k,bx,e1,e2,e3,e4⟩:=hS.leaf r j y hy;refine⟨h,k,bx,e1,by rw[hgm,VF c];exact e2,e3,?_⟩;subst e1;cases hc:h.c with
     | own l=>
       simp only[ew,hc]at e4 ⊢;simp only[G',VF c,hx];refine⟨bN.keep _ _ _ e4.1 (fun b hb=>same b _ (e4.2.2 b hb).1 (fun r' j' e=>by cases e;exact hx)),e4.2.1,fun b hb=>?_⟩;obtain⟨f1,f2⟩:=e4.2.2 b hb;have hk:=same b _ f1 (fun r' j' e=>by cases e;exact hx);exact⟨owk b _ f1 (fun r' j' e=>by cases e;exact hx),f2.keep hk⟩
     | ro l=>
       simp only[ew,hc]at e4 ⊢;obtain⟨S',f1,f2⟩:=e4;exact⟨S',by simp only[G',VF c];exact bN.keep _ _ _ f1 (fun b hb=>same b _ (f2 b hb) (fun r j e=>by cases e)),fun b hb=>owk b _ (f2 b hb) (fun r j e=>by cases e)⟩
     |gone=>simp only[ew,hc]
 ·intro r y hy;rw[hgm]at hy;by_cases c:r=d
  ·rw[VE c]at hy;cases hy;exact⟨_,_,rfl⟩
  ·rw[VF c]at hy;exact hS.metas r y hy
 ·intro r y hy;have c:r≠d:=by rintro rfl;rw[show G'.loc r=G.loc r from rfl,hloc]at hy;cases hy
  obtain⟨k,hk⟩:=hS.noloc r y hy;exact⟨k,by rw[hgm,VF c];exact hk⟩
 ·intro b t ht;by_cases h1:isN b;exact(fresh b (.inl h1)).1.lt
  ·by_cases h2:isU b;exact(fresh b (.inr h2)).1.lt
   ·simp only[G',dif_neg h1,dif_neg h2]at ht;exact Ym (hS.lt b t ht) hsize
 ·refine hsame b (Ym hb hS.frame.size) (fun r j x hx hbf=>?_);rcases hS.frow b hb hf with e|e<;>rw[(ufp r j x hx b hbf).1]at e<;>cases e
 ·intro b hb hf;rcases hS.frow b hb hf with e|e
  ·have:¬ (isN b\/isU b):=by
    intro hn;rcases(fresh b hn).2 with h|⟨r,j,x,q1,q2⟩
    ·have:=hS.frame.size;omega
    ·rw[(ufp r j x q1 b q2).1]at e;cases e
   left
   simp only[G',dif_neg (fun h=>this (.inl h)),dif_neg (fun h=>this (.inr h))];exact e
  ·exact .inr (owk b _ e (fun r j e=>by cases e))
 ·intro r j h e;rw[av,hgl]at e;by_cases c:r=d
  ·subst c;rw[VE rfl,ZB]at e;obtain⟨h2,e1,e2⟩:=e;cases e2;obtain⟨l,rfl,_⟩:=hnew j h e1;exact fg.none
  ·rw[VF c]at e;simp only[G',VF c];cases hx:u r j with
   |none=>simp only[hx]at e;exact hS.anc r j h (av.2 e)
   | some x=>
     simp only[hx]at e;cases e;obtain⟨h0,sz,es,es',e1,e2,e3,_⟩:=hu r j x.1 x.2 hx;intro i hi;rw[e3]at hi;exact hS.anc r j h0 (av.2 e1) i hi
 ·intro r x hx;obtain⟨h1,h2⟩:=hS.aloc r x hx;have c:r≠d:=by rintro rfl;rw[hloc]at h1;cases h1
  exact⟨h1,by rw[hgm,VF c];exact h2⟩
 ·intro r b o hx;obtain⟨h1,h2⟩:=hS.aloc r _ hx;obtain⟨b',o',cur,ty,f1,f2,f3,_⟩:=hS.boxes r _ h2;rw[h1]at f1;cases f1;exact(hS.afr r b o hx).keep (same b _ f2 (fun r j e=>by cases e))
 ·intro r1 r2 k1 k2 b o1 o2 hne h1 h2 q1 q2;rw[hgm]at h1 h2;split at h1
  ·cases h1
  ·split at h2
   ·cases h2
   ·exact hS.sep r1 r2 k1 k2 b o1 o2 hne h1 h2 q1 q2
end
end Go.V
namespace Go.V
def slL:ax->ax
 |[]=>[]
 | .s sz es::ls=>.s sz es::slL ls
 |_::ls=>slL ls
def FB:ax->List Value->List Value
 | .s _ _::ls,v::vs=>v::FB ls vs
 |_::ls,_::vs=>FB ls vs
 |_,_=>[]
def dj:List DV->List Value->List Value
 | .one l::ds,v::vs=>FB [l] [v]++dj ds vs
 | .agg ls::ds,.agg cs::vs=>FB ls cs.toList++dj ds vs
 |_,_=>[]
def Ga (P:Program)(f:FuncId)(ds:List DV)(outs:ax)(res:List DV):Prop:=
 ∀ (w:World) (vs:List Value) (S:List Nat),bU w ds vs S->S.Nodup->(∀ b∈S,eV w b)->
  Calls P f vs.toArray w fun e w'=>∃ v Sr S',e=.returned v/\lK w' res v Sr/\ak w' outs (dj ds vs) S'/\(Sr++S').Nodup/\(∀ b∈Sr++S',eV w' b/\(w.heap.size<=b\/b∈S))/\Same (fun b=>b∉S) w w'
def lz (l:L)(p:List (Nat×Nat)):Option (Nat×ab):=
 match bT l p with
 | some (rec,o)=>match rec[o]? with
   |some (.s sz es)=>some (sz,es)
   |_=>none
 |none=>none
def rowOf:L->ab
 | .s _ es=>es
 |_=>[]
def vy (l:L)(p:List (Nat×Nat)):ab:=match lz l p with
 |some (_,es)=>es
 |none=>[]
def vk (l:L)(p:List (Nat×Nat))(new:ax):ab:=rowOf (mR l p new)
abbrev Pl :=Nat×Nat×List (Nat×Nat)
def rj (ps:List Pl):List (Nat×Nat):=ps.map fun p=>(p.1,p.2.1)
abbrev PsF :=L->List (Nat×Nat)->ab
abbrev UpF :=L->List (Nat×Nat)->ax->ab
def NR {α:Type}(pr:(Unit->Prop)->Prop)(ps:PsF)(slot:Option Nat)(a:A)(k:L->List Pl->Rd α):Rd α:=
 match a,slot with
 | .v x,none=>if scal x then k (.v x) []else .fail
 | .vw r j ver lo m,some sz=>ig r j fun h=>match h.c with
   | .own (.s sz' es)=>if h.ver==ver&&sz'==sz then .req (pr fun _=>lo=0/\m=es.length) (k (.s sz' es) [(r,j,[])])else .fail
   |_=>.fail
 | .vn r j ver iv p lo m,some sz=>ig r j fun h=>match h.c with
   | .own (.s sz0 es0)=>if jm h ver iv then .req (pr fun _=>lo=0/\∃ es,lz (.s sz0 es0) p=some (sz,es)/\m=es.length) (k (.s sz (ps (.s sz0 es0) p)) [(r,j,p)])else .fail
   |_=>.fail
 |_,_=>.fail
def wt {α:Type}(pr:(Unit->Prop)->Prop)(psf:PsF):List (Option Nat)->List A->(ax->List Pl->Rd α)->Rd α
 |[],[],k=>k [] []
 |sl::sls,a::as,k=>NR pr psf sl a fun l p=>wt pr psf sls as fun ls ps=>k (l::ls) (p++ps)
 |_,_,_=>.fail
def Lc {α:Type}(pr:(Unit->Prop)->Prop)(psf:PsF)(ty:TypeId->Option TI)(t:TypeId)(x:Operand)(k:DV->List Pl->Rd α):Rd α:=
 match ty t with
 |none=>.fail
 | some ti=>ev x fun val=>match val with
   | .one a=>if ti.agg then .fail else wt pr psf ti.slots [a] fun ls ps=>match ls with
     |[l]=>k (.one l) ps
     |_=>.fail
   | .agg as=>if ti.agg then wt pr psf ti.slots as fun ls ps=>k (.agg ls) ps else .fail
   | .tup _=>.fail
def DU {α:Type}(pr:(Unit->Prop)->Prop)(psf:PsF)(ty:TypeId->Option TI):List TypeId->List Operand->(List DV->List Pl->Rd α)->Rd α
 |[],[],k=>k [] []
 |t::ts,x::xs,k=>Lc pr psf ty t x fun d p=>DU pr psf ty ts xs fun ds ps=>k (d::ds) (p++ps)
 |_,_,_=>.fail
def OL {α:Type}(pr:(Unit->Prop)->Prop)(upf:UpF):List Pl->ax->(List W->Rd α)->Rd α
 |[],[],k=>k []
 | (r,j,p)::ps,o::os,k=>match o with
  | .s sz es'=>ig r j fun h=>match h.c with
    | .own (.s sz0 es0)=>match p with
      |[]=>if sz0==sz then .req (pr fun _=>es'.length=es0.length) (OL pr upf ps os fun ws=>k (.leaf r j ⟨h.ver,h.iv+1,h.org,.own (.s sz es')⟩::ws))else .fail
      |q::p'=>.req (pr fun _=>∃ es,lz (.s sz0 es0) (q::p')=some (sz,es)) (OL pr upf ps os fun ws=>k (.leaf r j ⟨h.ver,h.iv+1,h.org,.own (.s sz0 (upf (.s sz0 es0) (q::p') [.s sz es']))⟩::ws))
    |_=>.fail
  |_=>.fail
 |_,_,_=>.fail
abbrev MK :=List DV->Option ((Unit->Prop)×ax×List DV)
def wJ (pr:(Unit->Prop)->Prop)(psf:PsF)(upf:UpF)(ty:TypeId->Option TI)(n:Nat)(d:Option Tmp)(body:Bool)(ts:Array TypeId)(args:Array Operand)(mk:MK)(rw:Nat->List DV->List W):Rd Out:=
 if body then DU pr psf ty ts.toList args.toList fun ds ps=>match mk ds with
  |some (pre,outs,res)=>if bp (rj ps)then .req (pr pre) (OL pr upf ps outs fun ws=>fresh n d fun d=>.ret (.ws (ws++rw d res)))else .fail
  |none=>.fail
 else .fail
def pv (f:Unit->Prop):Prop:=f ()
section
variable {P: Program} {o: Oper} {cx: Cx} {G: Gh} {g: Gm} {a: Act} {w: World}
def Lh (l:L)(p:List (Nat×Nat))(x:L):L:=match p with
 |[]=>x
 |q::p=>mR l (q::p) [x]
structure It where
 r:Nat
 j:Nat
 p:List (Nat×Nat)
 sz:Nat
 es:ab
 v:Value
 Sa:List Nat
 S:List Nat
 Sb:List Nat
def It.pl (t:It):Pl:=(t.r,t.j,t.p)
def Ci (g:Gm)(G:Gh)(w:World)(t:It):Prop:=
 ∃ h sz0 es0,g (.leaf t.r t.j)=some (.h h)/\h.c=.own (.s sz0 es0)/\G.fp t.r t.j=t.Sa++t.S++t.Sb/\bN w (.s t.sz t.es) t.v t.S/\
  ((t.p=[]/\sz0=t.sz/\es0=t.es)\/(t.p≠[]/\∃ rec o,bT (.s sz0 es0) t.p=some (rec,o)/\rec[o]?=some (.s t.sz t.es)))/\
  (∀ (w':World) (es':ab) (S':List Nat),bN w' (.s t.sz es') t.v S'->(∀ c,c∈t.Sa\/c∈t.Sb->w'.heap[c]?=w.heap[c]?)->bN w' (Lh (.s sz0 es0) t.p (.s t.sz es')) (G.val t.r t.j) (t.Sa++S'++t.Sb))
def Dv {l:L}{p:List (Nat×Nat)}{sz:Nat}{es:ab}(h:lz l p=some (sz,es)):∃ rec o,bT l p=some (rec,o)/\rec[o]?=some (.s sz es):=by
 unfold lz at h;split at h
 ·rename_i rec o e;split at h
  ·rename_i sz' es' e2;cases h;exact⟨rec,o,e,e2⟩
  ·cases h
 ·cases h
def set_mid {rec:ax}{o:Nat}{x:L}(h:o<rec.length):rec.take o++[x]++rec.drop (o+1)=rec.set o x:=by
 rw[List.set_eq_take_append_cons_drop,VE h];simp
def It.whole (hS:aO cx G g a w){r j:Nat}{h:Hv}{sz:Nat}{es:ab}(h1:g (.leaf r j)=some (.h h))(h2:h.c=.own (.s sz es)):Ci g G w ⟨r,j,[],sz,es,G.val r j,[],G.fp r j,[]⟩:=by
 have hok:=hS.hok (av.2 h1);simp only[ew,h2]at hok;refine⟨h,sz,es,h1,h2,by simp,hok.1,.inl ⟨rfl,rfl,rfl⟩,fun w' es' S' hr _=>?_⟩
 simpa[Lh]using hr
def It.nested (hS:aO cx G g a w){r j ver iv lo m:Nat}{p:List (Nat×Nat)}{v:Value}{h:Hv}{sz0 sz:Nat}{es0 es:ab}(h1:g (.leaf r j)=some (.h h))(h2:h.c=.own (.s sz0 es0)) 
 (hv:iC (gl g) G w (.vn r j ver iv p lo m) v) (hg:jm h ver iv=true) (hs:lz (.s sz0 es0) p=some (sz,es)) (hlo:lo=0) (hm:m=es.length):
 ∃ Sa S Sb,Ci g G w ⟨r,j,p,sz,es,v,Sa,S,Sb⟩:=by
 obtain⟨h',f1,f2,f3,hp,f4⟩:=hv;rw[av.2 h1]at f1;cases f1;obtain⟨rec,o,e1,e2⟩:=Dv hs;obtain⟨b,oo,hv0,t1,t2,t3,t4⟩:=f4 hg _ rec o sz es h2 e1 e2;have hok:=hS.hok (av.2 h1);simp only[ew,h2]at hok;obtain⟨cur,ty,fz,base,Sa,S1,Sb,g1,g2,g3,g4,g5,g6,g7⟩:=focus p _ _ _ b oo rec o hok.1 hok.2.1 t1 e1;obtain⟨Ta,T1,Tb,u,k1,k2,k3,k4⟩:=g6.upd o _ e2;have ho:o<rec.length:=(ZF.1 e2).1;have hu:u=hv0:=by
  have:=fW g1 k2;rw[g4,this]at t2;exact YA t2
 subst hu;have hvv:v=u:=by
  obtain⟨bs,len,cap,bs',cap',y1,y2,y3,y4,y5,y6⟩:=t4;simp only[bN]at k3;obtain⟨bs2,len2,cap2,z1,z2,_⟩:=k3;rw[y1]at z1;cases z1;exact y5 hlo Uc
 subst hvv;refine⟨Sa++Ta,T1,Tb++Sb,h,sz0,es0,h1,h2,by rw[g2,k1];simp,k3,.inr ⟨hp,rec,o,e1,e2⟩,fun w' es' S' hr hk=>?_⟩;have hnd:=hok.2.1;have r1:=k4 w' (.s sz es') S' hr (fun c hc=>hk c (by rcases hc with q|q;exact .inl (by simp[q]);exact .inr (by simp[q])));have hb:w'.heap[b]?=w.heap[b]?:=hk b (.inl (by simp[g3]));have r2:=g7 w' cur (rec.set o (.s sz es')) (Ta++S'++Tb) (by rw[hb];exact g1) rfl (fun _ _=>rfl) (by simp) r1 (fun c hc _=>hk c (by rcases hc with q|q;exact .inl (by simp[q]);exact .inr (by simp[q])));have hset:Lh (.s sz0 es0) p (.s sz es')=qa (.s sz0 es0) p (rec.set o (.s sz es')):=by
  have:Lh (.s sz0 es0) p (.s sz es')=mR (.s sz0 es0) p [.s sz es']:=by
   cases p with
   |nil=>exact absurd rfl hp
   |cons q p=>rfl
  rw[this,nF p _ rec o _ e1,List.length_singleton,set_mid ho]
 simp only;rw[hset]
 simpa using r2
inductive iD (g:Gm)(G:Gh)(w:World):ax->List It->List Value->Prop where
 |nil:iD g G w [] [] []
 |v {x:Value} {ls ts vs} (h:scal x=true) (hs:iD g G w ls ts vs):iD g G w (.v x::ls) ts (x::vs)
 |s {t:It} {ls ts vs} (h1:Ci g G w t) (hs:iD g G w ls ts vs):iD g G w (.s t.sz t.es::ls) (t::ts) (t.v::vs)
def oC (ts:List It):List Nat:=(ts.map (·.S)).flatten
def wZ {ts us:List It}:oC (ts++us)=oC ts++oC us:=by simp[oC]
def iD.rd {ls:ax}{ts:List It}{vs:List Value}(h:iD g G w ls ts vs):ak w ls vs (oC ts):=by
 induction h with
 |nil=>simp[ak,oC]
 |v h hs ih=>simp only[ak];exact⟨_,_,[],_,rfl,by simp[bN,h],ih,rfl⟩
 | @s t ls ts vs h1 hs ih=>
   obtain⟨_,_,_,_,_,_,hr,_⟩:=h1;simp only[ak];exact⟨_,_,t.S,_,rfl,hr,ih,rfl⟩
def iD.vals {ls:ax}{ts:List It}{vs:List Value}(h:iD g G w ls ts vs):FB ls vs=ts.map (·.v):=by
 induction h with
 |nil=>rfl
 |v h hs ih=>simpa[FB]using ih
 |s h1 hs ih=>simp[FB,ih]
def IN (hS:aO cx G g a w){α:Type}{slot:Option Nat}{x:A}{v:Value}(hx:iC (gl g) G w x v){k:L->List Pl->Rd α}{ls:List Loc}{out:α} 
 (h:(NR pv vy slot x k).Runs g ls out):∃ l ts ls',iD g G w [l] ts [v]/\(k l (ts.map It.pl)).Runs g ls' out:=by
 unfold NR at h;split at h
 ·rename_i y;have hv:v=y:=hx;subst hv;split at h
  ·rename_i hs;exact⟨_,[],ls,.v hs .nil,h⟩
  ·exact h.elim
 ·rename_i r j ver lo m sz;obtain⟨hv,ls2,q1,q2,h⟩:=bB h;split at h
  ·rename_i sz' es hc;split at h
   ·rename_i hb;simp only[Zc,beq_iff_eq]at hb;obtain⟨hp,h⟩:=h;obtain⟨h0,h1⟩:lo=0/\m=es.length:=hp;obtain⟨h2,f1,f2,f3⟩:=hx;rw[q1]at f1;cases f1;obtain⟨f4,base,len,cap,base',cap',g1,g2,g3,g4,g5,g6⟩:=f3 hb.1 sz' es hc;have hok:=hS.hok q1;have:m=len:=by
     simp only[ew,hc,bN]at hok;obtain⟨⟨b0,n0,c0,r1,r2,_⟩,_⟩:=hok;rw[g1]at r1;cases r1;omega
    have e:=g5 h0 this;refine⟨_,[⟨r,j,[],sz',es,G.val r j,[],G.fp r j,[]⟩],ls2,?_,h⟩;rw[e];exact .s (It.whole hS q2 hc) .nil
   ·exact h.elim
  ·exact h.elim
 ·rename_i r j ver iv p lo m sz;obtain⟨hv,ls2,q1,q2,h⟩:=bB h;split at h
  ·rename_i sz0 es0 hc;split at h
   ·rename_i hb;obtain⟨hp,h⟩:=h;obtain⟨h0,es,h1,h2⟩:lo=0/\∃ es,lz (.s sz0 es0) p=some (sz,es)/\m=es.length:=hp;obtain⟨Sa,S,Sb,ht⟩:=It.nested hS q2 hc hx hb h1 h0 h2;have he:vy (.s sz0 es0) p=es:=by simp only[vy,h1]
    rw[he]at h;exact⟨_,[⟨r,j,p,sz,es,v,Sa,S,Sb⟩],ls2,.s ht .nil,h⟩
   ·exact h.elim
  ·exact h.elim
 ·exact h.elim
def iD.append {ls ls':ax}{ts ts':List It}{vs vs':List Value}(h:iD g G w ls ts vs)(h':iD g G w ls' ts' vs'):iD g G w (ls++ls') (ts++ts') (vs++vs'):=by
 induction h with
 |nil=>exact h'
 |v h hs ih=>exact .v h ih
 |s h1 hs ih=>exact .s h1 ih
def pX (hS:aO cx G g a w){α:Type}:∀ (slots:List (Option Nat)) (as:List A) (vs:List Value),bX (gl g) G w as vs->∀ (k:ax->List Pl->Rd α) (ls:List Loc) (out:α),(wt pv vy slots as k).Runs g ls out->
 ∃ l ts ls',iD g G w l ts vs/\(k l (ts.map It.pl)).Runs g ls' out
 |[],[],vs,hx,k,ls,out,h=>by simp only[bX]at hx;subst hx;exact⟨[],[],ls,.nil,h⟩
 |[],_::_,vs,hx,k,ls,out,h=>h.elim
 |_::_,[],vs,hx,k,ls,out,h=>h.elim
 | sl::sls,x::as,vs,hx,k,ls,out,h=>by
   obtain⟨v,vs',rfl,h1,h2⟩:=hx;obtain⟨l,p,ls2,k1,h⟩:=IN hS h1 h;obtain⟨l2,p2,ls3,k2,h⟩:=pX hS sls as vs' h2 _ _ _ h;exact⟨l::l2,p++p2,ls3,k1.append k2,by rw[YP];exact h⟩
inductive ni (g:Gm)(G:Gh)(w:World):List DV->List It->List Value->Prop where
 |nil:ni g G w [] [] []
 |one {l:L} {p v ds ps vs} (h:iD g G w [l] p [v]) (hs:ni g G w ds ps vs):ni g G w (.one l::ds) (p++ps) (v::vs)
 |agg {ls:ax} {p:List It} {us:List Value} {ds ps vs} (h:iD g G w ls p us) (hs:ni g G w ds ps vs):ni g G w (.agg ls::ds) (p++ps) (.agg us.toArray::vs)
def ni.rd {ds:List DV}{ps:List It}{vs:List Value}(h:ni g G w ds ps vs):bU w ds vs (oC ps):=by
 induction h with
 |nil=>simp[bU,oC]
 | @one l p v ds ps vs h hs ih=>
   have:=h.rd;simp only[ak]at this;obtain⟨v',vs',S1,S2,e,q1,⟨rfl,rfl⟩,q3⟩:=this;cases e;simp only[bU];exact⟨_,_,oC p,oC ps,rfl,by rw[q3,Yb];exact q1,ih,wZ⟩
 | @agg ls p us ds ps vs h hs ih=>
   simp only[bU];exact⟨_,_,oC p,oC ps,rfl,⟨us,rfl,h.rd⟩,ih,wZ⟩
def ni.vals {ds:List DV}{ps:List It}{vs:List Value}(h:ni g G w ds ps vs):dj ds vs=ps.map (·.v):=by
 induction h with
 |nil=>rfl
 |one h hs ih=>simp only[dj,h.vals,ih,YP]
 |agg h hs ih=>simp only[dj,h.vals,ih,YP]
def iD.mem {ls:ax}{ps:List It}{vs:List Value}(h:iD g G w ls ps vs):∀ p∈ps,Ci g G w p:=by
 induction h with
 |nil=>intro p hp;cases hp
 |v h hs ih=>exact ih
 | s h1 hs ih=>
   intro p hp;rcases Zk.1 hp with rfl|hp;exact h1;exact ih p hp
def ni.mem {ds:List DV}{ps:List It}{vs:List Value}(h:ni g G w ds ps vs):∀ p∈ps,Ci g G w p:=by
 induction h with
 |nil=>intro p hp;cases hp
 | one h hs ih=>
   intro p hp;rcases Zg.1 hp with q|q;exact h.mem p q;exact ih p q
 | agg h hs ih=>
   intro p hp;rcases Zg.1 hp with q|q;exact h.mem p q;exact ih p q
def IP (hS:aO cx G g a w){ty:TypeId->Option TI}{t:TypeId}{x:Operand}{α:Type}{k:DV->List Pl->Rd α}{ls:List Loc}{out:α}(h:(Lc pv vy ty t x k).Runs g ls out):
 ∃ d p ls',(∀ ds ps vs,ni g G w ds ps vs->ni g G w (d::ds) (p++ps) (a.eval x::vs))/\(k d (p.map It.pl)).Runs g ls' out:=by
 unfold Lc at h;cases hti:ty t with
 |none=>simp[hti,Rd.Runs]at h
 | some ti=>
   simp only[hti]at h;obtain⟨r,ls1,hr,h⟩:=dI hS h;cases r with
   | one x0=>
     simp only[cW]at hr;simp only at h;split at h
     ·exact h.elim
     ·obtain⟨l,p,ls2,k1,h⟩:=pX hS _ [x0] [a.eval x] (by simp[bX,hr]) _ _ _ h;split at h
      ·exact⟨_,p,ls2,fun ds ps vs hm=>.one k1 hm,h⟩
      ·exact h.elim
   | agg as=>
     simp only[cW]at hr;obtain⟨us,e,hr⟩:=hr;simp only at h;split at h
     ·obtain⟨l,p,ls2,k1,h⟩:=pX hS _ as us hr _ _ _ h;exact⟨_,p,ls2,fun ds ps vs hm=>by rw[e];exact .agg k1 hm,h⟩
     ·exact h.elim
   |tup rs=>exact h.elim
def xv (hS:aO cx G g a w){ty:TypeId->Option TI}{α:Type}:∀ (ts:List TypeId) (xs:List Operand) (k:List DV->List Pl->Rd α) (ls:List Loc) (out:α),(DU pv vy ty ts xs k).Runs g ls out->
 ∃ ds ps ls',ni g G w ds ps (xs.map a.eval)/\(k ds (ps.map It.pl)).Runs g ls' out
 |[],[],k,ls,out,h=>⟨[],[],ls,.nil,h⟩
 |[],_::_,k,ls,out,h=>h.elim
 |_::_,[],k,ls,out,h=>h.elim
 | t::ts,x::xs,k,ls,out,h=>by
   simp only[DU]at h;obtain⟨d,p,ls2,k1,h⟩:=IP hS h;obtain⟨ds,ps,ls3,k2,h⟩:=xv hS ts xs _ _ _ h;exact⟨d::ds,p++ps,ls3,k1 _ _ _ k2,by rw[YP];exact h⟩
def ach {sz:Nat}{es:ab}{p:List (Nat×Nat)}{new:ax}{y:ax×Nat}(h:bT (.s sz es) p=some y):mR (.s sz es) p new=.s sz (vk (.s sz es) p new)/\(vk (.s sz es) p new).length=es.length:=by
 match p with
 |[]=>simp[bT]at h
 |[(i,j)]=>exact⟨rfl,by simp[vk,mR,rowOf]⟩
 |(i,j)::q::p=>exact⟨rfl,by simp[vk,mR,rowOf]⟩
inductive qQ (g:Gm):List It->ax->List Hv->Prop where
 |nil:qQ g [] [] []
 | cons {t:It} {h:Hv} {sz0:Nat} {es0 es1 es':ab} {ps os hs} (h1:g (.leaf t.r t.j)=some (.h h)) (h2:h.c=.own (.s sz0 es0)) (h3:Lh (.s sz0 es0) t.p (.s t.sz es')=.s sz0 es1) (h4:es1.length=es0.length) (hs':qQ g ps os hs):
    qQ g (t::ps) (.s t.sz es'::os) (⟨h.ver,h.iv+1,h.org,.own (.s sz0 es1)⟩::hs)
def bQ:List (Nat×Nat)->List Hv->List W
 |(r,j)::ps,h::hs=>.leaf r j h::bQ ps hs
 |_,_=>[]
def C8 (ts:List It):List (Nat×Nat):=ts.map fun t=>(t.r,t.j)
def aca {ts:List It}:rj (ts.map It.pl)=C8 ts:=by simp[rj,C8,It.pl,WP]
def tC {α:Type}:∀ (ts:List It) (os:ax) (k:List W->Rd α) (ls:List Loc) (out:α),(∀ t∈ts,Ci g G w t)->(OL pv vk (ts.map It.pl) os k).Runs g ls out->∃ hs ls',qQ g ts os hs/\(k (bQ (C8 ts) hs)).Runs g ls' out
 |[],[],k,ls,out,_,h=>⟨[],ls,.nil,h⟩
 |[],_::_,k,ls,out,_,h=>h.elim
 |_::_,[],k,ls,out,_,h=>h.elim
 | t::ps,o::os,k,ls,out,hm,h=>by
   obtain⟨h0,sz0',es0',m1,m2,_,_,m3,_⟩:=hm t (by simp);cases o with
   |v x=>exact h.elim
   |g=>exact h.elim
   |m _ _=>exact h.elim
   | s sz es'=>
     obtain⟨r,j,p,tsz,tes,tv,tSa,tS,tSb⟩:=t;simp only[ZT,It.pl,OL]at h;obtain⟨hv,ls2,q1,q2,h⟩:=bB h;simp only at m1 m3;rw[q2]at m1;cases m1;split at h
     ·rename_i sz0 es0 hc;rw[hc]at m2;cases m2;cases p with
      | nil=>
        simp only at h;split at h
        ·rename_i hb;simp only[beq_iff_eq]at hb;subst hb;obtain⟨hp,h⟩:=h;obtain⟨hs,ls3,k1,k2⟩:=tC ps os _ _ _ (fun t ht=>hm t (by simp[ht])) h;rcases m3 with⟨_,e1,e2⟩|⟨e1,_⟩
         ·subst e1;exact⟨_,ls3,.cons (t:=⟨r,j,[],sz0',tes,tv,tSa,tS,tSb⟩) q2 hc rfl hp k1,k2⟩
         ·exact absurd rfl e1
        ·exact h.elim
      | cons q p'=>
        obtain⟨hp,h⟩:=h;obtain⟨es,hp⟩:∃ es,lz (.s sz0' es0') (q::p')=some (sz,es):=hp;obtain⟨hs,ls3,k1,k2⟩:=tC ps os _ _ _ (fun t ht=>hm t (by simp[ht])) h;rcases m3 with⟨e1,_⟩|⟨_,rec,o,e1,e2⟩
        ·cases e1
        ·obtain⟨rec',o',e3,e4⟩:=Dv hp
         skip
         rw[e1]at e3;cases e3;rw[e2]at e4;cases e4;obtain⟨z1,z2⟩:=ach (new:=[.s sz es']) e1;exact⟨_,ls3,.cons (t:=⟨r,j,q::p',sz,tes,tv,tSa,tS,tSb⟩) q2 hc z1 z2 k1,k2⟩
     ·exact h.elim
def I5:List (Nat×Nat)->List Hv->List (List Nat)->Ups
 |p::ps,h::hs,S::Ss,r,j=>if(r,j)=p then some (h,S)else I5 ps hs Ss r j
 |_,_,_,_,_=>none
def Hn:∀ {ps:List (Nat×Nat)} {hs:List Hv} {Ss:List (List Nat)} {r j:Nat} {x:Hv×List Nat},I5 ps hs Ss r j=some x->∃ i:Nat,ps[i]?=some (r,j)/\hs[i]?=some x.1/\Ss[i]?=some x.2
 |[],_,_,r,j,x,h=>by cases h
 |_::_,[],_,r,j,x,h=>by cases h
 |_::_,_::_,[],r,j,x,h=>by cases h
 | p::ps,hv::hs,S::Ss,r,j,x,h=>by
   simp only[I5]at h;split at h
   ·rename_i e;cases h;exact⟨0,by simp[e],rfl,rfl⟩
   ·obtain⟨i,h1,h2,h3⟩:=Hn h;exact⟨i+1,by simpa using h1,by simpa using h2,by simpa using h3⟩
def FD:∀ {ps:List (Nat×Nat)} {hs:List Hv} {Ss:List (List Nat)} {r j:Nat},hs.length=ps.length->Ss.length=ps.length->(r,j)∈ps->∃ x,I5 ps hs Ss r j=some x
 |[],_,_,r,j,_,_,h=>by cases h
 |_::_,[],_,r,j,h,_,_=>by simp at h
 |_::_,_::_,[],r,j,_,h,_=>by simp at h
 | p::ps,hv::hs,S::Ss,r,j,h1,h2,h=>by
   simp only[I5];split;exact⟨_,rfl⟩
   ·rename_i e;rcases Zk.1 h with q|q;exact absurd q e;exact FD (by simpa using h1) (by simpa using h2) q
def Hm:∀ {ps:List (Nat×Nat)} {hs:List Hv} {Ss:List (List Nat)} {r j:Nat},(r,j)∉ps->I5 ps hs Ss r j=none
 |[],_,_,r,j,_=>rfl
 |_::_,[],_,r,j,_=>rfl
 |_::_,_::_,[],r,j,_=>rfl
 | p::ps,hv::hs,S::Ss,r,j,h=>by
   simp only[Zk,not_or]at h;simp only[I5];rw[VF h.1];exact Hm h.2
def iG {p:Nat×Nat}{ps:List (Nat×Nat)}(h:bp (p::ps)=true):p∉ps/\bp ps=true:=by
 simp only[bp,Zc,Bool.not_eq_true',List.contains_eq_mem,decide_eq_false_iff_not]at h;exact h
def Gi:∀ {ps:List (Nat×Nat)} {hs:List Hv} {Ss:List (List Nat)} {g:Gm},bp ps=true->hs.length=ps.length->Ss.length=ps.length->
 (∀ d,aT g (bQ ps hs) (.reg d)=g (.reg d))/\(∀ d,aT g (bQ ps hs) (.meta_ d)=g (.meta_ d))/\∀ r j,aT g (bQ ps hs) (.leaf r j)=match I5 ps hs Ss r j with
   |some x=>some (.h x.1)
   |none=>g (.leaf r j)
 |[],[],_,g,_,_,_=>⟨fun _=>rfl,fun _=>rfl,fun _ _=>rfl⟩
 |[],_::_,_,g,_,h,_=>by simp at h
 |_::_,[],_,g,_,h,_=>by simp at h
 |_::_,_::_,[],g,_,_,h=>by simp at h
 | (r0,j0)::ps,h::hs,S::Ss,g,hd,hl,hl2=>by
  obtain⟨hn,hd2⟩:=iG hd;obtain⟨k1,k2,k3⟩:=Gi (Ss:=Ss) (g:=(W.leaf r0 j0 h).app g) hd2 (by simpa using hl) (by simpa using hl2);refine⟨fun d=>?_,fun d=>?_,fun r j=>?_⟩
  ·simp only[bQ,aT];rw[k1];simp[W.app]
  ·simp only[bQ,aT];rw[k2];simp[W.app]
  ·simp only[bQ,aT];rw[k3];simp only[I5];by_cases e:(r,j)=(r0,j0)
   ·cases e;rw[VE rfl,Hm hn];simp[W.app]
   ·rw[VF e];cases I5 ps hs Ss r j with
    |some x=>rfl
    |none=>simp only[W.app];rw[VF (by intro q;cases q;exact e rfl)]
def qQ.length {ps:List It}{os:ax}{hs:List Hv}(h:qQ g ps os hs):hs.length=ps.length/\os.length=ps.length:=by
 induction h with
 |nil=>exact⟨rfl,rfl⟩
 |cons _ _ _ _ _ ih=>simp[ih.1,ih.2]
def qQ.at {ps:List It}{os:ax}{hs:List Hv}(h:qQ g ps os hs):∀ (i:Nat) (t:It) (h':Hv),ps[i]?=some t->hs[i]?=some h'->∃ h sz0 es0 es1 es',g (.leaf t.r t.j)=some (.h h)/\h.c=.own (.s sz0 es0)/\h'=⟨h.ver,h.iv+1,h.org,.own (.s sz0 es1)⟩/\Lh (.s sz0 es0) t.p (.s t.sz es')=.s sz0 es1/\es1.length=es0.length/\os[i]?=some (.s t.sz es'):=by
 induction h with
 |nil=>intro i t h' e;simp at e
 | @cons t0 h0 sz0 es0 es1 es' ps os hs h1 h2 h3 h4 hr ih=>
   intro i t h' e1 e2;cases i with
   |zero=>simp at e1 e2;subst e1 e2;exact⟨h0,sz0,es0,es1,es',h1,h2,rfl,h3,h4,rfl⟩
   |succ i=>simp at e1 e2;obtain⟨a1,a2,a3,a4,a5,q⟩:=ih i t h' e1 e2;exact⟨a1,a2,a3,a4,a5,by simpa using q⟩
def uF {ps:List It}{b:Nat}(h:b∈oC ps):∃ p∈ps,b∈p.S:=by
 simp only[oC,XK,ZO]at h;obtain⟨l,⟨p,hp,rfl⟩,hb⟩:=h;exact⟨p,hp,hb⟩
def Ci.tok (hS:aO cx G g a w){t:It}(h:Ci g G w t):(G.fp t.r t.j).Nodup/\(∀ b∈G.fp t.r t.j,G.ow b=some (.leaf t.r t.j)/\eV w b)/\G.fp t.r t.j=t.Sa++t.S++t.Sb:=by
 obtain⟨h,sz,es,e1,e2,e3,_⟩:=h;have:=hS.hok (av.2 e1);simp only[ew,e2]at this;exact⟨this.2.1,this.2.2,e3⟩
def A6 (hS:aO cx G g a w):∀ {ps:List It},bp (C8 ps)=true->(∀ p∈ps,Ci g G w p)->(oC ps).Nodup/\∀ b∈oC ps,eV w b
 |[],_,_=>⟨ZL,fun b hb=>by cases hb⟩
 | p::ps,hd,hm=>by
   obtain⟨hn,hd2⟩:=iG hd;obtain⟨k1,k2⟩:=A6 hS hd2 (fun q hq=>hm q (by simp[hq]));obtain⟨t1,t2,t3⟩:=(hm p (by simp)).tok hS;have e:oC (p::ps)=p.S++oC ps:=by simp[oC]
   have hin:∀ b∈p.S,b∈G.fp p.r p.j:=fun b hb=>by rw[t3];simp[hb]
   rw[e];refine⟨Zu.2 ⟨(oG (t3▸t1)).1,k1,fun x hx y hy exy=>?_⟩,fun b hb=>?_⟩
   ·subst exy;obtain⟨q,hq,hxq⟩:=uF hy;obtain⟨_,u2,u3⟩:=(hm q (by simp[hq])).tok hS;have h1:=(t2 x (hin x hx)).1;have h2:=(u2 x (by rw[u3];simp[hxq])).1;rw[h1]at h2
    injection h2 with h2
    injection h2 with e1 e2
    exact hn (ZO.2 ⟨q,hq,by show(q.r,q.j)=(p.r,p.j);rw[e1,e2]⟩)
   ·rcases Zg.1 hb with q|q;exact(t2 b (hin b q)).2;exact k2 b q
def oZ (G:Gh)(ps:List (Nat×Nat)):List Nat:=(ps.map fun p=>G.fp p.1 p.2).flatten
def Du {ps:List (Nat×Nat)}{b:Nat}(h:b∈oZ G ps):∃ p∈ps,b∈G.fp p.1 p.2:=by
 simp only[oZ,XK,ZO]at h;obtain⟨l,⟨p,hp,rfl⟩,hb⟩:=h;exact⟨p,hp,hb⟩
def xc (hS:aO cx G g a w):∀ {ps:List (Nat×Nat)},bp ps=true->(∀ p∈ps,∃ h sz es,g (.leaf p.1 p.2)=some (.h h)/\h.c=.own (.s sz es))->(oZ G ps).Nodup/\∀ b∈oZ G ps,eV w b
 |[],_,_=>⟨ZL,fun b hb=>by cases hb⟩
 | p::ps,hd,hm=>by
   obtain⟨hn,hd2⟩:=iG hd;obtain⟨k1,k2⟩:=xc hS hd2 (fun q hq=>hm q (by simp[hq]));have tok:∀ q:Nat×Nat,(∃ h sz es,g (.leaf q.1 q.2)=some (.h h)/\h.c=.own (.s sz es))->(G.fp q.1 q.2).Nodup/\∀ b∈G.fp q.1 q.2,G.ow b=some (.leaf q.1 q.2)/\eV w b:=by
    rintro q ⟨h,sz,es,e1,e2⟩;have:=hS.hok (av.2 e1);simp only[ew,e2]at this;exact this.2
   obtain⟨t1,t2⟩:=tok p (hm p (by simp));have e:oZ G (p::ps)=G.fp p.1 p.2++oZ G ps:=by simp[oZ]
   rw[e];refine⟨Zu.2 ⟨t1,k1,fun x hx y hy exy=>?_⟩,fun b hb=>?_⟩
   ·subst exy;obtain⟨q,hq,hxq⟩:=Du hy;have h1:=(t2 x hx).1;have h2:=((tok q (hm q (by simp[hq]))).2 x hxq).1;rw[h1]at h2
    injection h2 with h2
    injection h2 with e1 e2
    exact hn (by rw[show p=q from Prod.ext e1 e2];exact hq)
   ·rcases Zg.1 hb with q|q;exact(t2 b q).2;exact k2 b q
end
end Go.V
namespace Go.V
def qD:∀ {ps:List (Nat×Nat)},bp ps=true->ps.Nodup
 |[],_=>ZL
 | p::ps,h=>by
   obtain⟨h1,h2⟩:=iG h;exact Yr.2 ⟨h1,qD h2⟩
instance: Inhabited It:=⟨⟨0,0,[],0,[],undef,[],[],[]⟩⟩
section
variable {P: Program} {o: Oper} {cx: Cx} {G: Gh} {g: Gm} {a: Act} {w: World} {ls: List Loc} {K: Act -> World -> Prop} {Q: Exit -> Act -> World -> Prop}
def FL {f:FuncId}{ts:Array TypeId}{args:Array Operand}(ho:o.op=.call {callee:=.value (.func f),args:=args,argTypes:=ts})(hS:aO cx G g a w){ty:TypeId->Option TI}{mk:MK} 
 {ws:List W} (h:(wJ pv vy vk ty cx.n o.dst (eh P f) ts args mk dT).Runs g ls (.ws ws)) (hc:∀ ds pre outs res,mk ds=some (pre,outs,res)->pre ()->Ga P f ds outs res)
 (hk:∀ a' w',fC cx (aT g ws) a' w'->K a' w'):o.wp P a w K Q:=by
 unfold wJ at h;split at h
 case isFalse=>exact h.elim
 rename_i hbody;obtain⟨ds,ps,ls1,hargs,h⟩:=xv hS _ _ _ _ _ h;split at h
 case h_2=>exact h.elim
 rename_i pre outs res hmk;split at h
 case isFalse=>exact h.elim
 rename_i hdist;obtain⟨hpre,h⟩:=h;rw[aca]at hdist;obtain⟨hs,ls2,hups,h⟩:=tC _ _ _ _ _ hargs.mem h;obtain⟨d,ls3,hd,hlt,hm,h⟩:=cV h;simp only[Rd.Runs,Out.ws.injEq]at h;obtain⟨_,rfl⟩:=h;have hex:(execOp a.eval o).run P w=.ok (.enter f (args.map a.eval)) w:=by
  unfold execOp;simp only[ho,resolve,XL,Xb,ZQ,Yi,Z2,invoke,Xc,XM];exact gI hbody _
 unfold YR;rw[hex];simp only[Y9];obtain⟨hnd,hunf⟩:=A6 hS hdist hargs.mem;have hcall:=hc ds pre outs res hmk hpre w (args.toList.map a.eval) (oC ps) hargs.rd hnd hunf;have harr:(args.toList.map a.eval).toArray=args.map a.eval:=by rw[<-Yx,Yy]
 rw[harr]at hcall;refine hcall.mono ?_;rintro e w' ⟨v,Sr,So,rfl,hres,hout,hnd2,hfr,hsame⟩;rw[hd];refine hk _ _ ?_;rw[hargs.vals]at hout;obtain⟨Su,u1,u2,u3⟩:=hout.items;obtain⟨vs,lv,hlv,hv⟩:∃ vs lv,Em w' res vs lv Sr/\((∃ dv,res=[dv]/\vs=[v])\/v=.tuple vs.toArray/\∀ dv,res≠[dv]):=by
  cases res with
  |nil=>obtain⟨vs,e,h2⟩:=hres;obtain⟨lv,k⟩:=bU.lv h2;exact⟨vs,lv,k,.inr ⟨e,fun dv e=>by cases e⟩⟩
  | cons d1 rest=>
    cases rest with
    | nil=>
      have h2:bU w' [d1] [v] Sr:=by simp only[bU];exact⟨v,[],Sr,[],rfl,hres,⟨rfl,rfl⟩,by simp⟩
      obtain⟨lv,k⟩:=bU.lv h2;exact⟨[v],lv,k,.inl ⟨d1,rfl,rfl⟩⟩
    |cons d2 rest=>obtain⟨vs,e,h2⟩:=hres;obtain⟨lv,k⟩:=bU.lv h2;exact⟨vs,lv,k,.inr ⟨e,fun dv e=>by cases e⟩⟩
 have hrec:=hlv.rec_;obtain⟨Ss,s1,s2,s3⟩:=hrec.items;obtain⟨l1,l2⟩:=hups.length;have l3:Su.length=ps.length:=by omega
 rw[Zu]at hnd2;obtain⟨n1,n2,n3⟩:=hnd2
 let F:List (List Nat):=(Zl ps.length).map fun i=>(ps.getD i default).Sa++Su.getD i []++(ps.getD i default).Sb
 have lF:F.length=(C8 ps).length:=by simp[F,C8]
 have l1':hs.length=(C8 ps).length:=by simp[C8,l1]
 obtain⟨a1,a2,a3⟩:=Gi (Ss:=F) (g:=g) hdist l1' lF;have hSu:∀ {i:Nat} {S:List Nat},Su[i]?=some S->Su.getD i []=S:=fun e=>by simp[Zv,e]
 have hSuS:∀ {i:Nat} {b:Nat},b∈Su.getD i []->b∈So:=fun {i b} hb=>by
  rw[<-u1];exact eS (k:=i) hb
 have item:∀ {r j:Nat} {h':Hv} {S':List Nat},I5 (C8 ps) hs F r j=some (h',S')->∃ (i:Nat) (t:It),ps[i]?=some t/\t.r=r/\t.j=j/\hs[i]?=some h'/\S'=t.Sa++Su.getD i []++t.Sb/\Ci g G w t:=by
  intro r j h' S' hx;obtain⟨i,i1,i2,i3⟩:=Hn hx;simp only[C8,ZD,ZB]at i1;obtain⟨t,e1,e2⟩:=i1;cases e2;refine⟨i,t,e1,rfl,rfl,i2,?_,hargs.mem t (Zw e1)⟩;have hi:i<ps.length:=(ZF.1 e1).1;simp only[F,ZD,Y7 hi,Yf,Ya]at i3;rw[<-i3];simp[Zv,e1]
 have side:∀ {t:It} {b:Nat},t∈ps->b∈t.Sa\/b∈t.Sb->b∉oC ps/\G.ow b=some (.leaf t.r t.j)/\eV w b/\b∈G.fp t.r t.j:=by
  intro t b ht hb;obtain⟨t1,t2,t3⟩:=(hargs.mem t ht).tok hS;have hbf:b∈G.fp t.r t.j:=by rw[t3];rcases hb with q|q<;>simp[q]
  refine⟨fun hbS=>?_,(t2 b hbf).1,(t2 b hbf).2,hbf⟩;obtain⟨q,hq,hbq⟩:=uF hbS;obtain⟨_,v2,v3⟩:=(hargs.mem q hq).tok hS;have h1:=(t2 b hbf).1;have h2:=(v2 b (by rw[v3];simp[hbq])).1;rw[h1]at h2
  injection h2 with h2
  injection h2 with e1 e2
  have:t=q:=by
   have hd:=hdist;obtain⟨i,hi⟩:=YG ht;obtain⟨i',hi'⟩:=YG hq;have h3:(C8 ps)[i]?=some (t.r,t.j):=by simp[C8,hi]
   have h4:(C8 ps)[i']?=some (q.r,q.j):=by simp[C8,hi']
   rw[<-e1, <-e2]at h4;obtain⟨l3,m3⟩:=ZF.1 h3;obtain⟨l4,m4⟩:=ZF.1 h4;have:=(List.getElem_inj (qD hd)).1 (m3.trans m4.symm);subst this;rw[hi]at hi';cases hi';rfl
  subst this;have:=(oG (t3▸t1)).2 b hbq;rcases hb with q|q;exact this.1 q;exact this.2 q
 have same:∀ {t:It} {b:Nat},t∈ps->b∈t.Sa\/b∈t.Sb->w'.heap[b]?=w.heap[b]?:=fun {t b} ht hb=>
  hsame.block b (hS.lt b _ (side ht hb).2.1) (side ht hb).1
 have hso:∀ {t:It} {b:Nat},t∈ps->b∈t.Sa\/b∈t.Sb->b∉Sr/\b∉So:=by
  intro t b ht hb;obtain⟨s1,s2,s3,s4⟩:=side ht hb;have hlt:=hS.lt b _ s2;refine⟨fun hx=>?_,fun hx=>?_⟩
  ·rcases(hfr b (Zg.2 (.inl hx))).2 with q|q;omega;exact s1 q
  ·rcases(hfr b (Zg.2 (.inr hx))).2 with q|q;omega;exact s1 q
 have hl:∀ r j,((W.root d false ((res.flatMap aR).map fun l=>⟨0,0,none,.own l⟩)).app (aT g (bQ (C8 ps) hs))) (.leaf r j)=if r=d then(((res.flatMap aR).map fun l=>(⟨0,0,none,.own l⟩:Hv))[j]?).map .h else match I5 (C8 ps) hs F r j with
  |some x=>some (.h x.1)
  |none=>g (.leaf r j):=by
  intro r j;simp only[W.app];split;rfl;exact a3 r j
 obtain⟨G',k1,k2⟩:=hS.call (I5 (C8 ps) hs F) hm ((res.flatMap aR).map fun l=>⟨0,0,none,.own l⟩) w' ((W.root d false ((res.flatMap aR).map fun l=>⟨0,0,none,.own l⟩)).app (aT g (bQ (C8 ps) hs)))
  (fun e=>by simp only[W.app];exact a1 e)
  (fun r=>by
    simp only[W.app];split;rfl
    ·exact a2 r)
  hl hsame.os hsame.tape hsame.output hsame.size
  (by
    intro b hb hno;refine hsame.block b hb (fun hbS=>?_);obtain⟨p,hp,hbp⟩:=uF hbS;obtain⟨x,hx⟩:=FD (Ss:=F) l1' lF (ZO.2 ⟨p,hp,rfl⟩);exact hno p.r p.j x hx (by rw[((hargs.mem p hp).tok hS).2.2];simp[hbp]))
  (by
    intro r j h' S' hx;obtain⟨i,t,i1,rfl,rfl,i2,i3,i4⟩:=item hx;obtain⟨h,sz0,es0,es1,es',q1,q2,q3,q4,q5,q6⟩:=hups.at i t h' i1 i2;obtain⟨h4,sz4,es4,z1,z2,z3,_,_,z4⟩:=i4;rw[q1]at z1;cases z1;rw[q2]at z2;cases z2;have ht:=Zw i1;refine⟨h,sz0,es0,es1,q1,q2,q3,q5,?_,?_⟩
    ·obtain⟨v',y1,y2⟩:=u3 i _ q6;rw[ZD,i1]at y1;cases y1;have:=z4 w' es' _ y2 (fun c hc=>same ht hc);rw[q4]at this;rw[i3];exact this
    ·have m1:=ie (by rw[u1];exact n2) i;have tk:=(hargs.mem t ht).tok hS;have m2:=oG (tk.2.2▸tk.1);have m3:(t.Sa++t.Sb).Nodup:=by
      have h:=tk.2.2▸tk.1;rw[Zu]at h ⊢;obtain⟨x1,x2,x3⟩:=h;rw[Zu]at x1;exact⟨x1.1,x2,fun a ha b hb=>x3 a (by simp[ha]) b hb⟩
     rw[i3];rw[Zu]at m3;refine Zu.2 ⟨Zu.2 ⟨m3.1,m1,fun a ha b hb e=>?_⟩,m3.2.1,fun a ha b hb e=>?_⟩
     ·subst e;exact(hso ht (.inl ha)).2 (hSuS hb)
     ·subst e;rcases Zg.1 ha with q|q;exact m3.2.2 a q a hb rfl
      ·exact(hso ht (.inr hb)).2 (hSuS q))
  (fun j=>lv.getD j undef) (fun j=>Ss.getD j [])
  (by
    intro j h hj;simp only[ZD,ZB]at hj;obtain⟨l,e1,rfl⟩:=hj;obtain⟨u,q1,q2⟩:=s3 j l e1;exact⟨l,rfl,by simpa[Zv,q1]using q2,ie (by rw[s1];exact n1) j⟩)
  (by
    have fromS:∀ b,b∈Sr++So->eV w' b/\(w.heap.size<=b\/∃ r j x,I5 (C8 ps) hs F r j=some x/\b∈G.fp r j):=by
     intro b hbb;obtain⟨q1,q2⟩:=hfr b hbb;refine⟨q1,?_⟩;rcases q2 with q2|q2;exact .inl q2
     ·obtain⟨p,hp,hbp⟩:=uF q2;obtain⟨x,hx⟩:=FD (Ss:=F) l1' lF (ZO.2 ⟨p,hp,rfl⟩);exact .inr ⟨p.r,p.j,x,hx,by rw[((hargs.mem p hp).tok hS).2.2];simp[hbp]⟩
    rintro b (⟨j,_,hbj⟩|⟨r,j,h',S',hx,hbS⟩);exact fromS b (Zg.2 (.inl (by rw[<-s1];exact eS hbj)))
    ·obtain⟨i,t,i1,rfl,rfl,_,i3,_⟩:=item hx;rw[i3]at hbS;have ht:=Zw i1;have hside:b∈t.Sa\/b∈t.Sb->eV w' b/\(w.heap.size<=b\/∃ r j x,I5 (C8 ps) hs F r j=some x/\b∈G.fp r j):=by
      intro hb;obtain⟨y1,y2,y3,y4⟩:=side ht hb;exact⟨y3.keep (same ht hb),.inr ⟨_,_,_,hx,y4⟩⟩
     rcases Zg.1 hbS with hbS|hbS
     ·rcases Zg.1 hbS with hbS|hbS;exact hside (.inl hbS);exact fromS b (Zg.2 (.inr (hSuS hbS)))
     ·exact hside (.inr hbS))
  (fun i j _ _ hij=>fF (by rw[s1];exact n1) i j hij)
  (by
    intro i r j h' S' _ hx b hb hbS;obtain⟨i2,t,i1,rfl,rfl,_,i3,_⟩:=item hx;have ht:=Zw i1;have hbr:b∈Sr:=by rw[<-s1];exact eS hb
    rw[i3]at hbS;rcases Zg.1 hbS with hbS|hbS
    ·rcases Zg.1 hbS with hbS|hbS;exact(hso ht (.inl hbS)).1 hbr;exact n3 b hbr b (hSuS hbS) rfl
    ·exact(hso ht (.inr hbS)).1 hbr)
  (by
    intro r j h' S' r2 j2 h2 S2 hx hx2 hne b hb hb2;obtain⟨i,t,i1,rfl,rfl,_,i3,_⟩:=item hx;obtain⟨i',t',i1',rfl,rfl,_,i3',_⟩:=item hx2;have hii:i≠i':=by rintro rfl;rw[i1]at i1';cases i1';exact hne rfl
    have ht:=Zw i1;have ht':=Zw i1';have cs:∀ {t:It} {i:Nat},b∈t.Sa++Su.getD i []++t.Sb->(b∈t.Sa\/b∈t.Sb)\/b∈Su.getD i []:=by
     intro t i h;rcases Zg.1 h with h|h
     ·rcases Zg.1 h with h|h;exact .inl (.inl h);exact .inr h
     ·exact .inl (.inr h)
    rw[i3]at hb;rw[i3']at hb2;rcases cs hb with hb|hb<;>rcases cs hb2 with hb2|hb2
    ·have o1:=(side ht hb).2.1;have o2:=(side ht' hb2).2.1;rw[o1]at o2
     injection o2 with o2
     injection o2 with e1 e2
     exact hne (by rw[e1,e2])
    ·exact(hso ht hb).2 (hSuS hb2)
    ·exact(hso ht' hb2).2 (hSuS hb)
    ·exact fF (by rw[u1];exact n2) i i' hii b hb hb2)
 rw[cr];simp only[dT,aT];refine⟨G',k1.put hlt ?_⟩;have hgl:∀ i l,(res.flatMap aR)[i]?=some l->gl ((W.root d false ((res.flatMap aR).map fun l=>⟨0,0,none,.own l⟩)).app (aT g (bQ (C8 ps) hs))) d (0+i)=some ⟨0,0,none,.own l⟩:=by
  intro i l e;simp[gl,W.app,e]
 have hval:∀ i u,lv[i]?=some u->G'.val d (0+i)=u:=by
  intro i u e;rw[k2,Zx];simp[Zv,e]
 have hall:=rL (G:=G') res 0 vs lv Sr hlv (fun i l e=>⟨none,hgl i l e⟩) hval;rcases hv with⟨dv,rfl,rfl⟩|⟨rfl,hne⟩
 ·simp only[jc];simp only[mQ,jo]at hall;obtain⟨v',vs',e,h1,_⟩:=hall;cases e;exact h1
 ·have:jc d res=.tup (mQ d 0 res):=by
   unfold jc;split;exact absurd rfl (hne _);rfl
  rw[this];simp only[cW];exact⟨vs,rfl,hall⟩
end
end Go.V
namespace Go.V
section
variable {cx: Cx} {g: Gm} {G: Gh} {a: Act} {w: World}
abbrev UpP :=Nat->Nat->Option (Hv×Value×List Nat)
open Classical in
def aO.callP (hS:aO cx G g a w)(u:UpP)(nr:Option Nat)(hd:∀ d,nr=some d->g (.meta_ d)=none)(hs:List Hv)(hnr:nr=none->hs=[])(w':World)(g':Gm) 
 (hgr:∀ e,g' (.reg e)=g (.reg e)) (hgm:∀ r,g' (.meta_ r)=if nr=some r then some (.m hs.length false)else g (.meta_ r))
 (hgl:∀ r j,g' (.leaf r j)=if nr=some r then(hs[j]?).map .h else match u r j with
   |some x=>some (.h x.1)
   |none=>g (.leaf r j))
 (hos:w'.os=w.os) (htape:w'.tape=w.tape) (hout:w'.output=w.output) (hsize:w.heap.size<=w'.heap.size)
 (hsame:∀ b,b<w.heap.size->(∀ r j x h l,u r j=some x->g (.leaf r j)=some (.h h)->h.c=.own l->b∉G.fp r j)->(∀ r j x off,u r j=some x->G.loc r≠some (b,off))->w'.heap[b]?=w.heap[b]?)
 (hu:∀ r j x,u r j=some x->∃ h l,g (.leaf r j)=some (.h h)/\h.ver<x.1.ver/\h.iv<=x.1.iv/\x.1.org=none/\x.1.c=.own l/\bN w' l x.2.1 x.2.2/\x.2.2.Nodup)
 (hub:∀ r j x,u r j=some x->∃ y,G.loc r=some y)
 (hbox:∀ b r j x off,u r j=some x->G.loc r=some (b,off)->∃ cur cur' ty,w.heap[b]?=some (.cells cur ty (0,0))/\w'.heap[b]?=some (.cells cur' ty (0,0))/\cur'.size=cur.size/\
   (∀ r' j' x' off',u r' j'=some x'->G.loc r'=some (b,off')->cur'[off'+j']?=some x'.2.1)/\(∀ i,(∀ r' j' x' off',u r' j'=some x'->G.loc r'=some (b,off')->i≠off'+j')->cur'[i]?=cur[i]?))
 (nv:Nat->Value) (nf:Nat->List Nat) (hnew:∀ j h,hs[j]?=some h->∃ l,h=⟨0,0,none,.own l⟩/\bN w' l (nv j) (nf j)/\(nf j).Nodup)
 (hfree:∀ b,((∃ j,j<hs.length/\b∈nf j)\/∃ r j x,u r j=some x/\b∈x.2.2)->eV w' b/\(w.heap.size<=b\/∃ r j x h l,u r j=some x/\g (.leaf r j)=some (.h h)/\h.c=.own l/\b∈G.fp r j))
 (P8:∀ i j,i<hs.length->j<hs.length->i≠j->∀ b∈nf i,b∉nf j)
 (hd2:∀ i r j x,i<hs.length->u r j=some x->∀ b∈nf i,b∉x.2.2)
 (hd3:∀ r j x r2 j2 x2,u r j=some x->u r2 j2=some x2->(r,j)≠(r2,j2)->∀ b∈x.2.2,b∉x2.2.2):
 ∃ G',aO cx G' g' a w'/\(∀ d,nr=some d->∀ j,G'.val d j=nv j):=by
 have hlf:∀ d,nr=some d->∀ j,g (.leaf d j)=none:=by
  intro d hnd j;cases e:g (.leaf d j)with
  |none=>rfl
  |some y=>obtain⟨h,k,bx,e1,e2,_⟩:=hS.leaf d j y e;rw[hd d hnd]at e2;cases e2
 have hgd:∀ d,nr=some d->∀ j,gl g d j=none:=fun d hnd j=>by simp[gl,hlf d hnd]
 have hloc:∀ d,nr=some d->G.loc d=none:=by
  intro d hnd;cases e:G.loc d with
  |none=>rfl
  |some y=>obtain⟨k,hk⟩:=hS.noloc d y e;rw[hd d hnd]at hk;cases hk
 let isN:Nat->Prop:=fun b=>∃ j,j<hs.length/\b∈nf j
 let isU:Nat->Prop:=fun b=>∃ p:Nat×Nat,∃ x,u p.1 p.2=some x/\b∈x.2.2
 let d0:=nr.getD 0
 have hd0:∀ d,nr=some d->d0=d:=fun d e=>by simp[d0,e]
 have hN0:∀ j,j<hs.length->nr=some d0:=by
  intro j hj;cases e:nr with
  |none=>rw[hnr e]at hj;simp at hj
  |some d=>simp[d0,e]
 let G':Gh:={
  loc:=G.loc
  val:=fun r j=>if nr=some r then nv j else match u r j with
   |some x=>x.2.1
   |none=>G.val r j
  fp:=fun r j=>if nr=some r then nf j else match u r j with
   |some x=>x.2.2
   |none=>G.fp r j
  ow:=fun b=>if h:isN b then some (.leaf d0 h.choose)else if h:isU b then some (.leaf h.choose.1 h.choose.2)else G.ow b
  lead:=G.lead}
 have ufp:∀ r j x h l,u r j=some x->g (.leaf r j)=some (.h h)->h.c=.own l->∀ b∈G.fp r j,G.ow b=some (.leaf r j)/\eV w b:=by
  intro r j x h l hx e1 e2 b hb;have:=hS.hok (av.2 e1);simp only[ew,e2]at this;exact this.2.2 b hb
 have ownN:∀ j,j<hs.length->∀ b∈nf j,G'.ow b=some (.leaf d0 j):=by
  intro j hj b hb;have h2:isN b:=⟨j,hj,hb⟩;simp only[G',dif_pos h2];have:=h2.choose_spec;by_cases e:h2.choose=j
  ·rw[e]
  ·exact absurd hb (P8 _ j this.1 hj e b this.2)
 have ownU:∀ r j x,u r j=some x->∀ b∈x.2.2,G'.ow b=some (.leaf r j):=by
  intro r j x hx b hb;have h1:¬ isN b:=fun⟨i,hi,hbi⟩=>hd2 i r j x hi hx b hbi hb
  have h2:isU b:=⟨(r,j),x,hx,hb⟩;simp only[G',dif_neg h1,dif_pos h2];obtain⟨x3,q1,q2⟩:=h2.choose_spec;by_cases e:h2.choose=(r,j)
  ·rw[e]
  ·exact absurd hb (hd3 _ _ x3 r j x q1 hx (fun e'=>e e') b q2)
 have fresh:∀ b,isN b\/isU b->eV w' b/\(w.heap.size<=b\/∃ r j x h l,u r j=some x/\g (.leaf r j)=some (.h h)/\h.c=.own l/\b∈G.fp r j):=by
  intro b hb;refine hfree b ?_;rcases hb with⟨j,hj,hbj⟩|⟨p,x,q1,q2⟩;exact .inl ⟨j,hj,hbj⟩;exact .inr ⟨p.1,p.2,x,q1,q2⟩
 have notnew:∀ b t,G.ow b=some t->(∀ r j,t=.leaf r j->u r j=none)->¬ isN b/\¬ isU b:=by
  intro b t ht hl;have hb:=hS.lt b t ht;have:¬ (isN b\/isU b):=by
   intro hn;rcases(fresh b hn).2 with h|⟨r,j,x,h,l,q1,q3,q4,q2⟩;omega
   ·rw[(ufp r j x h l q1 q3 q4 b q2).1]at ht;cases ht;rw[hl r j rfl]at q1;cases q1
  exact⟨fun h=>this (.inl h),fun h=>this (.inr h)⟩
 have owk:∀ b t,G.ow b=some t->(∀ r j,t=.leaf r j->u r j=none)->G'.ow b=some t:=by
  intro b t ht hl;obtain⟨h1,h2⟩:=notnew b t ht hl;simp only[G',dif_neg h1,dif_neg h2];exact ht
 have ubox:∀ r j x b off,u r j=some x->G.loc r=some (b,off)->G.ow b=some (.box (G.lead r)):=by
  intro r j x b off _ hl;obtain⟨k,hk⟩:=hS.noloc r _ hl;obtain⟨b',off',cur,ty,f1,f2,_⟩:=hS.boxes r k hk;rw[hl]at f1;cases f1;exact f2
 have same:∀ b t,G.ow b=some t->(∀ r j,t=.leaf r j->u r j=none)->(∀ k,t≠ .box k)->w'.heap[b]?=w.heap[b]?:=by
  intro b t ht hl hb;refine hsame b (hS.lt b t ht) (fun r j x h l hx e1 e2 hbf=>?_) (fun r j x off hx hlc=>?_)
  ·rw[(ufp r j x h l hx e1 e2 b hbf).1]at ht;cases ht;rw[hl r j rfl]at hx;cases hx
  ·rw[ubox r j x b off hx hlc]at ht;cases ht;exact hb _ rfl
 have st:Step g G w g' G' w':=by
  refine⟨fun r j h e=>?_,fun b hb=>⟨owk b _ hb (fun r j e=>by cases e),same b _ hb (fun r j e=>by cases e) (fun k e=>by cases e)⟩,fun b hb=>⟨owk b _ hb (fun r j e=>by cases e),same b _ hb (fun r j e=>by cases e) (fun k e=>by cases e)⟩,fun r y e=>e⟩;have hrd:¬ nr=some r:=by intro c;rw[hgd r c]at e;cases e
  cases hx:u r j with
  | none=>
    refine⟨h,av.2 (by rw[hgl,VF hrd,hx];exact av.1 e),.inl ⟨rfl,by simp[G',hrd,hx],fun l hc b hb=>?_⟩⟩;have:=hS.hok e;simp only[ew,hc]at this;exact same b _ (this.2.2 b hb).1 (fun r' j' e'=>by cases e';exact hx) (fun k e=>by cases e)
  | some x=>
    obtain⟨h0,l,e1,e2,e3,_⟩:=hu r j x hx;rw[av,e1]at e;cases e;exact⟨x.1,av.2 (by rw[hgl,VF hrd,hx]),.inr (.inr ⟨e2,e3⟩)⟩
 have cells:∀ r k b off,g (.meta_ r)=some (.m k true)->G.loc r=some (b,off)->∃ cur cur' ty,w.heap[b]?=some (.cells cur ty (0,0))/\w'.heap[b]?=some (.cells cur' ty (0,0))/\cur'.size=cur.size/\
  (∀ j,j<k->cur'[off+j]?=some (match u r j with|some x=>x.2.1|none=>G.val r j))/\
  (∀ i,(∀ r' k' off',g (.meta_ r')=some (.m k' true)->G.loc r'=some (b,off')->(∃ j x,u r' j=some x)->i<off'\/off'+k'<=i)->cur'[i]?=cur[i]?):=by
  intro r k b off hk hl;obtain⟨b',off',cur,ty,f1,f2,f3,f4,f5⟩:=hS.boxes r k hk;rw[hl]at f1;cases f1;by_cases c:∃ r1 j1 x1 off1,u r1 j1=some x1/\G.loc r1=some (b,off1)
  ·obtain⟨r1,j1,x1,off1,c1,c2⟩:=c;obtain⟨cur0,cur',ty',q1,q2,q3,q4,q5⟩:=hbox b r1 j1 x1 off1 c1 c2;rw[f3]at q1;cases q1;refine⟨cur,cur',ty,f3,q2,q3,fun j hj=>?_,fun i hi=>?_⟩
   ·cases hx:u r j with
    |some x=>exact q4 r j x off hx hl
    | none=>
      rw[q5 _ ?_];exact f5 j hj;intro r2 j2 x2 off2 d1 d2 e;by_cases crr:r2=r
      ·subst crr;rw[hl]at d2;cases d2;have:j2=j:=by omega
       subst this;rw[hx]at d1;cases d1
      ·obtain⟨h2,l2,m1,_⟩:=hu r2 j2 x2 d1;obtain⟨_,k2,bx,_,m2,m3,_⟩:=hS.leaf r2 j2 _ m1;obtain⟨k3,hk3⟩:=hS.noloc r2 _ d2;rw[m2]at hk3;cases hk3;have:=hS.sep r2 r k2 k b off2 off crr m2 hk d2 hl;omega
   ·refine q5 i (fun r2 j2 x2 off2 d1 d2 e=>?_);obtain⟨h2,l2,m1,_⟩:=hu r2 j2 x2 d1;obtain⟨_,k2,bx,_,m2,m3,_⟩:=hS.leaf r2 j2 _ m1;obtain⟨k3,hk3⟩:=hS.noloc r2 _ d2;rw[m2]at hk3;cases hk3;have:=hi r2 k2 off2 m2 d2 ⟨j2,x2,d1⟩;omega
  ·have hw:w'.heap[b]?=w.heap[b]?:=hsame b (ZE.1 f3).1 (fun r1 j1 x1 h l hx e1 e2 hbf=>by rw[(ufp r1 j1 x1 h l hx e1 e2 b hbf).1]at f2;cases f2)
    (fun r1 j1 x1 off1 hx hl1=>c ⟨r1,j1,x1,off1,hx,hl1⟩)
   refine⟨cur,cur,ty,f3,by rw[hw];exact f3,rfl,fun j hj=>?_,fun i _=>rfl⟩;cases hx:u r j with
   |some x=>exact absurd ⟨r,j,x,off,hx,hl⟩ c
   |none=>exact f5 j hj
 have hroX:∀ b,G'.ow b=some .ro->cx.ro b:=fun b e=>hS.roX b (by simp only[G']at e;(repeat' split at e)<;>first|(cases e;done)|exact e)
 refine⟨G',⟨hS.defers,hS.tm,?_,?_,?_,?_,?_,?_,⟨hos.trans hS.frame.os,htape.trans hS.frame.tape,hout.trans hS.frame.output,Z8 hS.frame.size hsize,fun b hb hf=>Eq.trans ?_ (hS.frame.block b hb hf)⟩,?_,?_,?_,?_,?_,hS.newb,hroX⟩,fun d hnd j=>by simp[G',hnd]⟩
 ·intro e y hy;rw[hgr]at hy;obtain⟨e1,y',e2,e3⟩:=hS.reg e y hy;exact⟨e1,y',e2,cW.step hS st _ _ e3⟩
 ·intro r k hk;rw[hgm]at hk;by_cases c:nr=some r
  ·rw[VE c]at hk;cases hk
  ·rw[VF c]at hk;obtain⟨b,o,cur,ty,f1,f2,f3,f4,f5⟩:=hS.boxes r k hk;obtain⟨cur0,cur',ty',q1,q2,q3,q4,_⟩:=cells r k b o hk f1;rw[f3]at q1;cases q1;refine⟨b,o,cur',ty,f1,owk b _ f2 (fun r j e=>by cases e),q2,Uc,fun j hj=>?_⟩;rw[q4 j hj];simp only[G',VF c]
 ·intro r j y hy;rw[hgl]at hy;by_cases c:nr=some r
  ·rw[VE c]at hy;cases e:hs[j]? with
   |none=>simp[e]at hy
   | some h=>
     simp[e]at hy;subst hy;have hj:j<hs.length:=(ZF.1 e).1;refine⟨h,hs.length,false,rfl,by rw[hgm,VE c],hj,?_⟩;obtain⟨l,rfl,q1,q2⟩:=hnew j h e;simp only[ew,G',VE c];refine⟨q1,q2,fun b hb=>?_⟩;have:=ownN j hj b hb;rw[hd0 r c]at this;exact⟨this,(fresh b (.inl ⟨j,hj,hb⟩)).1⟩
  ·rw[VF c]at hy;cases hx:u r j with
   | some x=>
     simp only[hx]at hy;cases hy;obtain⟨h0,l,e1,e2,e3,e4,e5,e6,e7⟩:=hu r j x hx;obtain⟨h,k,bx,q1,q2,q3,_⟩:=hS.leaf r j _ e1;refine⟨x.1,k,bx,rfl,by rw[hgm,VF c];exact q2,q3,?_⟩;simp only[ew,e5,G',VF c,hx];exact⟨e6,e7,fun b hb=>⟨ownU r j x hx b hb,(fresh b (.inr ⟨(r,j),x,hx,hb⟩)).1⟩⟩
   | none=>
     simp only[hx]at hy;obtain⟨h,k,bx,e1,e2,e3,e4⟩:=hS.leaf r j y hy;refine⟨h,k,bx,e1,by rw[hgm,VF c];exact e2,e3,?_⟩;subst e1;cases hc:h.c with
     | own l=>
       simp only[ew,hc]at e4 ⊢;simp only[G',VF c,hx];refine⟨bN.keep _ _ _ e4.1 (fun b hb=>same b _ (e4.2.2 b hb).1 (fun r' j' e=>by cases e;exact hx) (fun k e=>by cases e)),e4.2.1,fun b hb=>?_⟩;obtain⟨f1,f2⟩:=e4.2.2 b hb;have hk:=same b _ f1 (fun r' j' e=>by cases e;exact hx) (fun k e=>by cases e);exact⟨owk b _ f1 (fun r' j' e=>by cases e;exact hx),f2.keep hk⟩
     | ro l=>
       simp only[ew,hc]at e4 ⊢;obtain⟨S',f1,f2⟩:=e4;exact⟨S',by simp only[G',VF c,hx];exact bN.keep _ _ _ f1 (fun b hb=>same b _ (f2 b hb) (fun r j e=>by cases e) (fun k e=>by cases e)),fun b hb=>owk b _ (f2 b hb) (fun r j e=>by cases e)⟩
     |gone=>simp only[ew,hc]
 ·intro r y hy;rw[hgm]at hy;by_cases c:nr=some r
  ·rw[VE c]at hy;cases hy;exact⟨_,_,rfl⟩
  ·rw[VF c]at hy;exact hS.metas r y hy
 ·intro r y hy;have c:¬ nr=some r:=by intro c;rw[show G'.loc r=G.loc r from rfl,hloc r c]at hy;cases hy
  obtain⟨k,hk⟩:=hS.noloc r y hy;exact⟨k,by rw[hgm,VF c];exact hk⟩
 ·intro b t ht;by_cases h1:isN b;exact(fresh b (.inl h1)).1.lt
  ·by_cases h2:isU b;exact(fresh b (.inr h2)).1.lt
   ·simp only[G',dif_neg h1,dif_neg h2]at ht;exact Ym (hS.lt b t ht) hsize
 ·refine hsame b (Ym hb hS.frame.size) (fun r j x h l hx e1 e2 hbf=>?_) (fun r j x off hx hl=>?_)
  ·rcases hS.frow b hb hf with e|e<;>rw[(ufp r j x h l hx e1 e2 b hbf).1]at e<;>cases e
  ·rcases hS.frow b hb hf with e|e<;>rw[ubox r j x b off hx hl]at e<;>cases e
 ·intro b hb hf;rcases hS.frow b hb hf with e|e
  ·have:¬ (isN b\/isU b):=by
    intro hn;rcases(fresh b hn).2 with h|⟨r,j,x,h,l,q1,q3,q4,q2⟩
    ·have:=hS.frame.size;omega
    ·rw[(ufp r j x h l q1 q3 q4 b q2).1]at e;cases e
   left
   simp only[G',dif_neg (fun h=>this (.inl h)),dif_neg (fun h=>this (.inr h))];exact e
  ·exact .inr (owk b _ e (fun r j e=>by cases e))
 ·intro r j h e;rw[av,hgl]at e;by_cases c:nr=some r
  ·rw[VE c,ZB]at e;obtain⟨h2,e1,e2⟩:=e;cases e2;obtain⟨l,rfl,_⟩:=hnew j _ e1;exact fg.none
  ·rw[VF c]at e;simp only[G',VF c];cases hx:u r j with
   |none=>simp only[hx]at e ⊢;exact hS.anc r j h (av.2 e)
   | some x=>
     simp only[hx]at e;cases e;obtain⟨h0,l,e1,e2,e3,e4,_⟩:=hu r j x hx;rw[e4];exact fg.none
 ·intro r x hx;obtain⟨h1,h2⟩:=hS.aloc r x hx;have c:¬ nr=some r:=by intro c;rw[hloc r c]at h1;cases h1
  exact⟨h1,by rw[hgm,VF c];exact h2⟩
 ·intro r b off hx;obtain⟨h1,h2⟩:=hS.aloc r _ hx;obtain⟨cur,cur',ty,q1,q2,q3,q4,q5⟩:=cells r _ b off h2 h1;obtain⟨c0,c1,ty1,m1,m2,m3,m4⟩:=hS.afr r b off hx;rw[m2]at q1;cases q1;refine⟨c0,cur',ty,m1,q2,Uc,fun i hi=>?_⟩;rw[q5 i ?_];exact m4 i hi;intro r2 k2 off2 d1 d2 _;by_cases hal:∃ y,cx.aloc r2=some y
  ·obtain⟨y,hy⟩:=hal;obtain⟨g1,g2⟩:=hS.aloc r2 y hy;rw[d2]at g1;cases g1;rw[d1]at g2;cases g2;exact hi r2 off2 hy
  ·have:=hS.newb r2 b off2 d2 (by cases e:cx.aloc r2 with|none=>rfl|some x=>exact absurd ⟨x,e⟩ hal);have:=(ZE.1 m1).1;omega
 ·intro r1 r2 k1 k2 b o1 o2 hne h1 h2 q1 q2;rw[hgm]at h1 h2;split at h1
  ·cases h1
  ·split at h2
   ·cases h2
   ·exact hS.sep r1 r2 k1 k2 b o1 o2 hne h1 h2 q1 q2
end
end Go.V
namespace Go.V
def FI (P:Program)(ct:FuncId->List DV->Option ((Unit->Prop)×List DV))(n:Nat)(d:Option Tmp)(t:Tmp)(ts:Array TypeId)(args:Array Operand):Rd Out:=
 gT (.tmp t) fun
  | .fn f caps=>tH P ts.toList args.toList fun ds=>gJ caps fun recs=>match ct f (ds++recs.map .ptr)with
    |some (pre,res)=>.req (pre ()/\eh P f=true) (fresh n d fun d=>.ret (.ws (dT d res)))
    |none=>.fail
  |_=>.fail
section
variable {P: Program} {o: Oper} {cx: Cx} {G: Gh} {g: Gm} {a: Act} {w: World} {ls: List Loc} {ws: List W} {K: Act -> World -> Prop} {Q: Exit -> Act -> World -> Prop}
def lJ.args:∀ {recs:ab} {ps:List Value} {S:List Nat},lJ w recs ps S->gR (fun _=>True) w (recs.map .ptr) ps
 |[],ps,S,h=>h.1
 | r::rs,ps,S,h=>by
   obtain⟨v,vs',S1,S2,rfl,h1,h2,_⟩:=h;exact⟨v,vs',S1,rfl,h1,fun _ _=>trivial,lJ.args h2⟩
def gR.append {ok:Nat->Prop}:∀ {ds es:List DV} {vs us:List Value},gR ok w ds vs->gR ok w es us->gR ok w (ds++es) (vs++us)
 |[],es,vs,us,h,k=>by simp only[gR]at h;subst h;exact k
 | d::ds,es,vs,us,h,k=>by
   obtain⟨v,vs',S,rfl,h1,h2,h3⟩:=h;exact⟨v,vs'++us,S,rfl,h1,h2,h3.append k⟩
def FK {ct:FuncId->List DV->Option ((Unit->Prop)×List DV)}(hct:∀ f ds pre res,ct f ds=some (pre,res)->pre ()->LI P f ds res){t:Tmp}{ts:Array TypeId}{args:Array Operand} 
 (ho:o.op=.call {callee:=.value (.tmp t),args:=args,argTypes:=ts}) (hS:aO cx G g a w) (h:(FI P ct cx.n o.dst t ts args).Runs g ls (.ws ws))
 (hk:∀ a' w',fC cx (aT g ws) a' w'->K a' w'):o.wp P a w K Q:=by
 obtain⟨x0,ls1,hx,h⟩:=bA hS h;cases x0 with
 | fn f caps=>
   obtain⟨ps,e,hc⟩:=hx;obtain⟨ds,ls2,hargs,h⟩:=nk hS _ _ _ _ _ h;obtain⟨recs,S,ls3,hp,h⟩:=jS hS _ _ _ _ _ hc h;split at h
   case h_2=>exact h.elim
   rename_i pre res he;obtain⟨⟨hpre,hbody⟩,h⟩:=h;obtain⟨d,ls4,hd,hlt,hm,h⟩:=cV h;simp only[Rd.Runs,Out.ws.injEq]at h;obtain⟨_,rfl⟩:=h;have hex:(execOp a.eval o).run P w=.ok (.enter f (args.map a.eval++ps.toArray)) w:=by
    unfold execOp;simp only[ho,resolve,e,Xb,ZQ,Yi,Z2,invoke,Xc];exact gI hbody _
   unfold YR;rw[hex];simp only[Y9];have hcall:=hct f _ pre res he hpre w (args.toList.map a.eval++ps) (hargs.append hp.args);have harr:(args.toList.map a.eval++ps).toArray=args.map a.eval++ps.toArray:=by rw[<-List.append_toArray, <-Yx,Yy]
   rw[harr]at hcall;refine hcall.mono ?_;rintro e w' ⟨v,S,rfl,hres,hnd,hfr,hsame⟩;rw[hd];exact hk _ _ (Df hS hlt hm hres hnd hfr hsame)
 |_=>exact h.elim
end
structure gF where
 b:Nat
 off:Nat
 hs:List H
 val:Nat->Value
 fp:Nat->List Nat
def nK (ps:List gF)(b:Nat):Prop:=∃ p∈ps,∃ j l,p.hs[j]?=some (.own l)/\b∈p.fp j
def sG (ps:List gF)(b:Nat):Prop:=∃ p∈ps,p.b=b
def gO (w:World)(ok:Nat->Prop):List DV->List Value->List gF->Prop
 |[],vs,ps=>vs=[]/\ps=[]
 | .mp hs::ds,vs,ps=>∃ p ps' vs',vs=.pointer (some ⟨p.b,p.off,none⟩)::vs'/\ps=p::ps'/\p.hs=hs/\gO w ok ds vs' ps'
 |d::ds,vs,ps=>∃ v vs' S,vs=v::vs'/\qP w d v S/\(∀ b∈S,ok b)/\gO w ok ds vs' ps
structure aae (w:World)(ds:List DV)(vs:List Value)(ps:List gF):Prop where
 args:gO w (fun b=>¬ nK ps b/\¬ sG ps b) ds vs ps
 cell:∀ p∈ps,∃ cur ty,w.heap[p.b]?=some (.cells cur ty (0,0))/\p.off+p.hs.length<=cur.size/\∀ j,j<p.hs.length->cur[p.off+j]?=some (p.val j)
 own:∀ p∈ps,∀ j l,p.hs[j]?=some (.own l)->bN w l (p.val j) (p.fp j)/\(p.fp j).Nodup/\∀ b∈p.fp j,eV w b
 ro:∀ p∈ps,∀ j l,p.hs[j]?=some (.ro l)->bN w l (p.val j) (p.fp j)/\∀ b∈p.fp j,¬ nK ps b/\¬ sG ps b
 gone:∀ p∈ps,∀ j:Nat,p.hs[j]?≠some .gone
 disj:∀ (i j i' j':Nat) p p' l l',ps[i]?=some p->ps[i']?=some p'->p.hs[j]?=some (.own l)->p'.hs[j']?=some (.own l')->(i,j)≠(i',j')->∀ b∈p.fp j,b∉p'.fp j'
 sep:∀ (i i':Nat) p p',i≠i'->ps[i]?=some p->ps[i']?=some p'->p.b=p'.b->p.off+p.hs.length<=p'.off\/p'.off+p'.hs.length<=p.off
 box:∀ b,sG ps b->¬ nK ps b
structure LQ (w:World)(ps:List gF)(outs:List (List H))(w':World)(ps':List gF)(Sr:List Nat):Prop where
 len:ps'.length=ps.length
 same:∀ (i:Nat) p p',ps[i]?=some p->ps'[i]?=some p'->p'.b=p.b/\p'.off=p.off/\outs[i]?=some p'.hs/\p'.hs.length=p.hs.length
 cell:∀ p∈ps',∃ cur ty,w'.heap[p.b]?=some (.cells cur ty (0,0))/\∀ j,j<p.hs.length->cur[p.off+j]?=some (p.val j)
 own:∀ p∈ps',∀ j l,p.hs[j]?=some (.own l)->bN w' l (p.val j) (p.fp j)/\(p.fp j).Nodup
 ro:∀ (i:Nat) p p' j l,ps[i]?=some p->ps'[i]?=some p'->p'.hs[j]?=some (.ro l)->p.hs[j]?=some (.ro l)/\p'.val j=p.val j
 gone:∀ p∈ps',∀ j:Nat,p.hs[j]?≠some .gone
 disj:∀ (i j i' j':Nat) p p' l l',ps'[i]?=some p->ps'[i']?=some p'->p.hs[j]?=some (.own l)->p'.hs[j']?=some (.own l')->(i,j)≠(i',j')->∀ b∈p.fp j,b∉p'.fp j'
 res:Sr.Nodup/\∀ b∈Sr,¬ nK ps' b
 tok:∀ b,(b∈Sr\/nK ps' b)->eV w' b/\(w.heap.size<=b\/nK ps b)
 frame:Same (fun b=>¬ nK ps b/\¬ sG ps b) w w'
 blk:∀ b,sG ps b->∃ cur cur' ty,w.heap[b]?=some (.cells cur ty (0,0))/\w'.heap[b]?=some (.cells cur' ty (0,0))/\cur'.size=cur.size/\∀ i,(∀ p∈ps,p.b=b->i<p.off\/p.off+p.hs.length<=i)->cur'[i]?=cur[i]?
def Eo (P:Program)(f:FuncId)(ds:List DV)(outs:List (List H))(res:List DV):Prop:=
 ∀ (w:World) (vs:List Value) (ps:List gF),aae w ds vs ps->Calls P f vs.toArray w fun e w'=>∃ v Sr ps',e=.returned v/\lK w' res v Sr/\LQ w ps outs w' ps' Sr
abbrev mX :=Nat×Nat×List H
def oD {α:Type}(r:Nat):Nat->Nat->(List H->Rd α)->Rd α
 |_,0,k=>k []
 | j,m+1,k=>ig r j fun h=>match h.c with
   | .own l=>oD r (j+1) m fun hs=>k (.own l::hs)
   | .ro l=>oD r (j+1) m fun hs=>k (.ro l::hs)
   | .gone=>.fail
section
variable (al: ∀ {β : Type}, List (Option Nat) -> List A -> (ax -> Rd β) -> Rd β) (ty pty: TypeId -> Option TI) (isP: TypeId -> Bool)
def Fj {α:Type}(t:TypeId)(x:Operand)(k:DV->List (Nat×Nat)->List mX->Rd α):Rd α:=
 match ty t with
 | some ti=>ev x fun val=>match val with
   | .one a=>if ti.agg then .fail else al ti.slots [a] fun ls=>match ls with
     |[l]=>k (.one l) (Lk a) []
     |_=>.fail
   | .agg as=>if ti.agg then al ti.slots as fun ls=>k (.agg ls) (as.flatMap Lk) []else .fail
   | .tup _=>.fail
 | none=>if isP t then gT x fun
   | .pt r j=>match pty t with
     |some ti=>if 0<ti.zero.length then oD r j ti.zero.length fun hs=>k (.mp hs) [] [(r,j,hs)]else .fail
     |none=>.fail
   |_=>.fail else .fail
def uW {α:Type}:List TypeId->List Operand->(List DV->List (Nat×Nat)->List mX->Rd α)->Rd α
 |[],[],k=>k [] [] []
 |t::ts,x::xs,k=>Fj al ty pty isP t x fun d src pt=>uW ts xs fun ds srcs pts=>k (d::ds) (src++srcs) (pt++pts)
 |_,_,_=>.fail
end
def Kj (p q:mX):Bool:= !(p.1.beq q.1)||(p.2.1+p.2.2.length).ble q.2.1||(q.2.1+q.2.2.length).ble p.2.1
def qL:List mX->Bool
 |[]=>true
 |p::ps=>ps.all (Kj p)&&qL ps
def GH (s:Nat×Nat)(p:mX):Bool:=s.1.beq p.1&&(p.2.1.ble s.2&&(s.2+1).ble (p.2.1+p.2.2.length))
def OK {α:Type}(r:Nat):Nat->List H->List H->(List W->Rd α)->Rd α
 |_,[],[],k=>k []
 | j,h::hs,o::os,k=>match o with
   | .own l=>ig r j fun hv=>OK r (j+1) hs os fun ws=>k (.leaf r j ⟨hv.ver+1,hv.iv+1,none,.own l⟩::ws)
   | .ro _=>match h with
     | .ro _=>OK r (j+1) hs os k
     |_=>.fail
   | .gone=>.fail
 |_,_,_,_=>.fail
def Lp {α:Type}:List mX->List (List H)->(List W->Rd α)->Rd α
 |[],[],k=>k []
 |p::ps,os::oss,k=>OK p.1 p.2.1 p.2.2 os fun w1=>Lp ps oss fun w2=>k (w1++w2)
 |_,_,_=>.fail
abbrev PK :=List DV->Option ((Unit->Prop)×List (List H)×List DV)
def wK (pr:(Unit->Prop)->Prop)(al:∀ {β:Type},List (Option Nat)->List A->(ax->Rd β)->Rd β)(ty pty:TypeId->Option TI)(isP:TypeId->Bool)(n:Nat)(d:Option Tmp)(body:Bool)(ts:Array TypeId)(args:Array Operand)(mk:PK)(rw:Nat->List DV->List W):Rd Out:=
 if body then uW al ty pty isP ts.toList args.toList fun ds srcs pts=>match mk ds with
  | some (pre,outs,res)=>if qL pts&&srcs.all (fun s=>pts.all fun p=> !GH s p)then .req (pr pre) (Lp pts outs fun ws=>match d with
     |some _=>fresh n d fun d=>.ret (.ws (ws++rw d res))
     |none=>.ret (.ws ws))else .fail
  |none=>.fail
 else .fail
end Go.V