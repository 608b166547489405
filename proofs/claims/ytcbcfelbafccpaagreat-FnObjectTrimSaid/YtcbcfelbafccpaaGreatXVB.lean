/-
  A condition generator for functions on trees of data, part 2 of 5: values in memory, contracts, soundness.
-/
import Derived.Test.YtcbcfelbafccpaaGreatXVA
set_option linter.all false
open Go
open Act renaming eval->Z1
open Bool renaming and_eq_true->Zb,false_eq_true->Yj
open Builtin renaming append_->Yy,zeroCells->Ya,lenOf->Wh,firstCells->WT,max_->WV,min_->WW,max2->VA,min2->VB,len_->VC
open Deferred renaming ofValue->Y7
open Function renaming comp_def->WS
open Instr renaming fill->Xh
open IntKind renaming i64->Za
open List renaming flatten_cons->Z0,mem_append->Zg,nodup_append->Zu,all_eq_true->ZV,size_toArray->Yf,length_append->Zh,length_take->Zi,length_drop->Zo,append_assoc->Zn,getElem?_append_left->ZN,getElem?_take->Zw,getElem?_append_right->ZM,getElem?_drop->Zv,take_append_drop->ZK,ext_getElem?->ZQ,drop_drop->Z9,getElem?_eq_none->Z8,mem_cons->Zj,nodup_nil->ZO,eq_nil_of_length_eq_zero->Yz,nodup_cons->Yn,map_cons->ZU,map_nil->YO,append_nil->Z4,nil_append->ZS,replicate->Zk,length_replicate->YX,take_zero->YV,getElem?_eq_some_iff->ZB,mem_flatten->Wi,getD->ZE,range->Ze,getElem?_map->ZC,getElem?_range->Xg,range'->Wk,drop_take->YN,take_take->Y5,flatMap_cons->Y6,singleton_append->WU,mapM_cons->Wm,getD_cons_zero->WX,map_append->YZ,mem_map->ZW,mem_of_getElem?->Zx,getElem?_of_mem->Yt
open Nat renaming lt_succ_self->YH,le_succ->Wg,le_refl->Zf,lt_or_ge->Z7,zero_add->ZP,add_zero->Yi,add_mul->Zl,mul_le_mul_right->ZJ,le_of_not_lt->Wj,le_trans->ZA,lt_of_lt_of_le->Ym
open Oper renaming wp->YE,upon->Y4
open Option renaming map_eq_some_iff->Zy,bind_some->YD,map_some->Yk
open Option.some renaming inj->YB,injEq->Yd
open Region renaming wanted->YI
open Result renaming andThen_ok->ZY
open Sem renaming run_bind->ZL,run_pure->Ye
open _root_.Array renaming length_toList->ZF,getElem?_toList->ZX,size_append->Xs,empty_append->Y8,append_empty->Xt,toList_map->Yq,toArray_toList->Yr,getD_eq_getD_getElem?->Yw,replicate->YP,getElem?_eq_some_iff->Zz,getElem?_append_left->Wn
namespace Go.V
section
variable {P: Program} {o: Oper} {cx: Cx} {G: Gh} {g: Gm} {a: Act} {w: World}
def qY (g:Gm)(r j:Nat):Prop:=∀ h l,gl g r j=some h->h.c=.own l->False
def MJ (g:Gm)(G:Gh)(w:World)(r j0 m:Nat)(c:H)(v:Value)(S:List Nat):Prop:=
 v.oneCell'=true/\match c with
  | .own l=>bO w l v S/\S.Nodup/\∀ b∈S,ed w b/\∃ r' j',G.ow b=some (.leaf r' j')/\qY g r' j'/\¬ (r'=r/\j0<=j'/\j'<j0+m)
  | .ro l=>S=[]/\∃ S',bO w l v S'/\∀ b∈S',G.ow b=some .ro
  | .gone=>S=[]
def pM (g:Gm)(G:Gh)(w:World)(r j0 m:Nat):List (H×Option Nat)->List Value->List (List Nat)->Prop
 |[],vs,Ss=>vs=[]/\Ss=[]
 |(c,_)::lts,vs,Ss=>∃ v vs' S Ss',vs=v::vs'/\Ss=S::Ss'/\MJ g G w r j0 m c v S/\(∀ b∈S,b∉Ss'.flatten)/\pM g G w r j0 m lts vs' Ss'
def oS (P:Program)(w:World)(b o:Nat)(v:Value)(rest:List Value)(i:Nat)(cur:Array Value)(ty:TypeId)(hb:w.heap[b]?=some (.cells cur ty (0,0)))(hi:o+i<cur.size)(h1:v.oneCell'=true):
 (storeCells ⟨b,o,none⟩ (v::rest) i).run P w=(storeCells ⟨b,o,none⟩ rest (i+1)).run P (w.setRow b (cur.setIfInBounds (o+i) v)):=by
 have hcell:w.cell? ⟨b,o+i,none⟩=some cur[o+i]:=by rw[eS hb];simp[hi]
 have hfro:w.frozen? ⟨b,o+i,none⟩=false:=by simp[World.frozen?,hb]
 have hst:(store ((⟨b,o,none⟩:Addr).add i) v).run P w=.ok () (w.setRow b (cur.setIfInBounds (o+i) v)):=by
  rw[add_lit,run_store P w _ v _ h1,hcell];simp[hfro,setCell_eq_setRow w b (o+i) cur ty (0,0) v hb]
 simp only[storeCells,ZL,hst,ZY]
def pM.step {w':World}{g':Gm}{G':Gh}{r j0 m:Nat}:∀ {lts:List (H×Option Nat)} {vs:List Value} {Ss:List (List Nat)},pM g G w r j0 m lts vs Ss->
 (∀ b∈Ss.flatten,w'.heap[b]?=w.heap[b]?/\G'.ow b=G.ow b)->(∀ b,G.ow b=some .ro->G'.ow b=some .ro/\w'.heap[b]?=w.heap[b]?)->
 (∀ r' j',¬ (r'=r/\j0<=j'/\j'<j0+m)->qY g r' j'->qY g' r' j')->pM g' G' w' r j0 m lts vs Ss
 |[],vs,Ss,h,_,_,_=>h
 | (c,og)::lts,vs,Ss,h,h1,h2,h3=>by
  obtain⟨v,vs',S,Ss',rfl,rfl,k1,k2,k3⟩:=h;refine⟨v,vs',S,Ss',rfl,rfl,⟨k1.1,?_⟩,k2,pM.step k3 (fun b hb=>h1 b (by simp[hb])) h2 h3⟩;have k:=k1.2;cases c with
  | own l=>
    simp only at k ⊢;obtain⟨q1,q2,q3⟩:=k;refine⟨bO.keep _ _ _ q1 (fun b hb=>(h1 b (by simp[hb])).1),q2,fun b hb=>?_⟩;obtain⟨u,r',j',e1,e2,e3⟩:=q3 b hb;have:=h1 b (by simp[hb]);exact⟨u.keep this.1,r',j',by rw[this.2];exact e1,h3 r' j' e3 e2,e3⟩
  | ro l=>
    simp only at k ⊢;obtain⟨q1,S',q2,q3⟩:=k;exact⟨q1,S',bO.keep _ _ _ q2 (fun b hb=>(h2 b (q3 b hb)).2),fun b hb=>(h2 b (q3 b hb)).1⟩
  |gone=>exact k
def kH {α:Type}(P:Program)(r b off j0 m:Nat):∀ (lts:List (H×Option Nat)) (vs:List Value) (Ss:List (List Nat)) (j:Nat) (gk:Gm) (Gk:Gh) (wk:World) (k:List W->Rd α) (ls:List Loc) (out:α),
 av cx Gk gk a wk->Gk.loc r=some (b,off)->pM gk Gk wk r j0 m lts vs Ss->BH cx lts vs->j0<=j->j+lts.length<=j0+m->(∀ i,i<lts.length->gk (.leaf r (j+i))=g (.leaf r (j+i)))->(gh r j lts k).Runs g ls out->
 ∃ w2 ls' G' w',av cx G' (bh gk w2) a w'/\(k w2).Runs g ls' out/\(storeCells ⟨b,off+j0,none⟩ vs (j-j0)).run P wk=.ok () w'
 | [],vs,Ss,j,gk,Gk,wk,k,ls,out,hS,hl,hi,_,_,_,_,h=>by
   obtain⟨rfl,rfl⟩:=hi;exact⟨[],ls,Gk,wk,hS,by simpa[gh]using h,rfl⟩
 | (c,og)::lts,vs,Ss,j,gk,Gk,wk,k,ls,out,hS,hl,hi,hog,hj0,hjm,hag,h=>by
  obtain⟨v,vs',S,Ss',rfl,rfl,k1,k2,k3⟩:=hi;obtain⟨hog1,hog2⟩:=hog;simp only[gh]at h;obtain⟨hv,ls2,_,q,h⟩:=bD h;have q0:gk (.leaf r j)=some (.h hv):=by have:=hag 0 (by simp);simpa[q]using this
  obtain⟨mm,hm⟩:=hS.noloc r _ hl;obtain⟨b',off',cur,ty,f1,f2,f3,f4,f5⟩:=hS.boxes r mm hm;rw[hl]at f1;cases f1;obtain⟨_,mm',bx,_,p2,p3,_⟩:=hS.leaf r j _ q0;rw[hm]at p2;cases p2;have hlt:off+j<cur.size:=by omega
  let w':=wk.setRow b (cur.setIfInBounds (off+j) v)
  have hoth:∀ b',b'≠b->w'.heap[b']?=wk.heap[b']?:=fun b' hb'=>setRow_other wk b b' _ hb'
  have hnew0:w'.heap[b]?=some (.cells (cur.setIfInBounds (off+j) v) ty (0,0)):=setRow_heap wk b cur _ ty _ f3;have htok:∀ b',Gk.ow b'≠some (.box (Gk.lead r))->b'≠b:=by rintro b' h1 rfl;exact h1 f2
  have hokh:=hS.hok (ap.2 q0);obtain⟨G',s1,s2,s3,s4,s5,s6⟩:=hS.upd q0 ⟨hv.ver+1,hv.iv+1,og,c⟩ v S w' (.inl ⟨YH _,Wg _⟩) rfl rfl rfl (by simp[w'])
   (fun b' _ h1 _=>hoth b' (by rintro rfl;exact h1 off hl))
   (by
     intro b1 off1 hl1;rw[hl]at hl1;cases hl1;refine⟨cur,_,ty,f3,hnew0,by simp,fun _=>by simp[hlt],fun i hi=>?_⟩;rw[Array.getElem?_setIfInBounds,VK (Ne.symm hi)])
   (by
     intro l hc b1 hb1;simp only[dO,hc]at hokh;have:=hokh.2.2 b1 hb1;exact this.2.keep (hoth b1 (htok b1 (by rw[this.1];simp))))
   (by
     have k:=k1.2;cases c with
     | own l=>
       simp only at k ⊢;refine⟨bO.keep _ _ _ k.1 (fun b1 hb1=>?_),k.2.1,fun b1 hb1=>?_⟩
       ·obtain⟨u,r',j',e1,_⟩:=k.2.2 b1 hb1;exact hoth b1 (htok b1 (by rw[e1];simp))
       ·obtain⟨u,r',j',e1,e2,_⟩:=k.2.2 b1 hb1;exact⟨u.keep (hoth b1 (htok b1 (by rw[e1];simp))),.inl (.inr ⟨r',j',e1,e2⟩)⟩
     | ro l=>
       simp only at k ⊢;obtain⟨_,S',e1,e2⟩:=k;exact⟨S',bO.keep _ _ _ e1 (fun b1 hb1=>hoth b1 (htok b1 (by rw[e2 b1 hb1];simp))),e2⟩
     |gone=>trivial) hog1
  have hitems:pM ((W.leaf r j ⟨hv.ver+1,hv.iv+1,og,c⟩).app gk) G' w' r j0 m lts vs' Ss':=by
   have key:∀ (lts:List (H×Option Nat)) (vs:List Value) (Ss:List (List Nat)),pM gk Gk wk r j0 m lts vs Ss->∀ b1∈Ss.flatten,∃ r' j',Gk.ow b1=some (.leaf r' j'):=by
    intro lts
    induction lts with
    |nil=>intro vs Ss h b1 hb1;obtain⟨_,rfl⟩:=h;simp at hb1
    | cons x lts ih=>
      obtain⟨c,og⟩:=x;intro vs Ss h b1 hb1;obtain⟨v,vs',S,Ss',rfl,rfl,k1,k2,k3⟩:=h;rw[Z0,Zg]at hb1;rcases hb1 with hb1|hb1
      ·have k:=k1.2;cases c with
       |own l=>obtain⟨_,r',j',e,_⟩:=k.2.2 b1 hb1;exact⟨r',j',e⟩
       |ro l=>rw[k.1]at hb1;cases hb1
       |gone=>simp only at k;rw[k]at hb1;cases hb1
      ·exact ih vs' Ss' k3 b1 hb1
   refine k3.step ?_ ?_ ?_
   ·intro b1 hb1;obtain⟨r',j',e⟩:=key _ _ _ k3 b1 hb1;exact⟨hoth b1 (htok b1 (by rw[e];simp)),s6 b1 (fun _ hb2=>k2 b1 hb2 hb1)⟩
   ·intro b1 hb1;exact⟨s5 b1 hb1,hoth b1 (htok b1 (by rw[hb1];simp))⟩
   ·intro r' j' hne hno h' l' e1 e2;have hne2:¬ (r'=r/\j'=j):=by rintro⟨rfl,rfl⟩;exact hne ⟨rfl,hj0,by simp at hjm;omega⟩
    refine hno h' l' ?_ e2;rw[ap]at e1 ⊢;simp only[W.app]at e1;rw[VK (by intro e;cases e;exact hne2 ⟨rfl,rfl⟩)]at e1;exact e1
  obtain⟨w2,ls3,G2,w3,t1,t2,t3⟩:=kH P r b off j0 m lts vs' Ss' (j+1) _ G' w' _ ls2 out s1 (by rw[s4];exact hl) hitems hog2 Uc (by simp at hjm;omega) (by
   intro i hi;have e:=hag (i+1) (by simp;omega);rw[show j+1+i=j+(i+1)from by omega];simp only[W.app];rw[VK (by intro e';injection e';omega)];exact e) h
  refine⟨.leaf r j ⟨hv.ver+1,hv.iv+1,og,c⟩::w2,ls3,G2,w3,by simpa[bh]using t1,t2,?_⟩;rw[oS P wk b (off+j0) v vs' (j-j0) cur ty f3 Uc k1.1];rw[show off+j0+(j-j0)=off+j from by omega,show j-j0+1=j+1-j0 from by omega];exact t3
def uA.items (hS:av cx G g a w){lts:List (H×Option Nat)}{srcs:List (Nat×Nat)}{vs:List Value}{Ss:List (List Nat)}(h:uA g G w lts srcs vs Ss)(hd:bz srcs=true){g1:Gm}{r j0 m:Nat} 
 (hgone:∀ r' j',(r',j')∈srcs->qY g1 r' j') (hrange:∀ r' j',(r',j')∈srcs->¬ (r'=r/\j0<=j'/\j'<j0+m)):pM g1 G w r j0 m lts vs Ss:=by
 induction h with
 |nil=>exact⟨rfl,rfl⟩
 | @cons c og src v S ls srcs vs Ss hk hs ih=>
   obtain⟨d1,d2,d3⟩:=cW hd;refine⟨v,vs,S,Ss,rfl,rfl,⟨hk.one hS,?_⟩,?_,ih d2 (fun r' j' hm=>hgone r' j' (by simp[hm])) (fun r' j' hm=>hrange r' j' (by simp[hm]))⟩
   ·have f:=hk.facts hS;cases hk with
    | own t=>
      simp only;refine⟨(t.facts hS).1,f.1,fun b hb=>?_⟩;obtain⟨u,r',j',m1,m2⟩:=f.2 b hb;exact⟨u,r',j',m2,hgone r' j' (by simp[m1]),hrange r' j' (by simp[m1])⟩
    |ro l v S' h h2=>exact⟨rfl,S',h,h2⟩
   ·intro b hb hb2;obtain⟨_,r',j',m1,m2⟩:=(hk.facts hS).2 b hb;have key:∀ {ls:List (H×Option Nat)} {srcs:List (Nat×Nat)} {vs:List Value} {Ss:List (List Nat)},uA g G w ls srcs vs Ss->∀ b∈Ss.flatten,∃ r j,(r,j)∈srcs/\G.ow b=some (.leaf r j):=by
     intro ls srcs vs Ss ht
     induction ht with
     |nil=>intro b hb;simp at hb
     | cons h hs ih=>
       intro b hb;rw[Z0,Zg]at hb;rcases hb with hb|hb
       ·obtain⟨u,r,j,m1,m2⟩:=(h.facts hS).2 b hb;exact⟨r,j,by simp[m1],m2⟩
       ·obtain⟨r,j,m1,m2⟩:=ih b hb;exact⟨r,j,by simp[m1],m2⟩
    obtain⟨r2,j2,m3,m4⟩:=key hs b hb2;rw[m2]at m4;cases m4;exact d3 _ m1 m3
def vH {A Y B N:List Nat}(h:(A++Y++B).Nodup)(hn:N.Nodup)(hA:∀ b∈N,b∉A)(hB:∀ b∈N,b∉B):(A++N++B).Nodup:=by
 rw[Zu]at h ⊢;obtain⟨h1,h2,h3⟩:=h;rw[Zu]at h1 ⊢;obtain⟨h4,h5,h6⟩:=h1;refine⟨⟨h4,hn,fun x hx y hy e=>hA y hy (by subst e;exact hx)⟩,h2,fun x hx y hy e=>?_⟩;rcases Zg.1 hx with hx|hx;exact h3 x (by simp[hx]) y hy e;exact hB x hx (by subst e;exact hy)
variable {ls: List Loc} {ws: List W} {K: Act -> World -> Prop} {Q: Exit -> Act -> World -> Prop}
def kw {w':World}(hd:o.dst=none)(hr:(execOp a.eval o).run P w=.ok .skip w')(hk:K a w'):o.wp P a w K Q:=by
 unfold YE;rw[hr];simp only[Y4,hd,Act.put];exact hk
def mz {t:TypeId}{ti:TI}(hti:kz P t=some ti){x y:Operand}(ho:o.op=.store t x y){b o0:Nat}(he:a.eval x=.pointer (some ⟨b,o0,none⟩)){vs:List Value}(hc:(a.eval y).cells=vs.toArray)(hl:vs.length=ti.zero.length){w':World} 
 (hr:(storeCells ⟨b,o0,none⟩ vs 0).run P w=.ok () w'):(execOp a.eval o).run P w=.ok .skip w':=by
 obtain⟨i,z,e1,e2,e3,e4,e5⟩:=eB hti;unfold execOp;simp[ho,Instr.storeAt,he,Instr.sureAddr,storeVar,run_sizeOf e1,hc,e3,hl,hr]
end
section
variable {P: Program} {o: Oper} {cx: Cx} {G: Gh} {g: Gm} {a: Act} {w: World} {ls: List Loc} {ws: List W} {K: Act -> World -> Prop} {Q: Exit -> Act -> World -> Prop}
def qV {t:TypeId}{x y:Operand}(ho:o.op=.store t x y)(hdst:o.dst=none)(hS:av cx G g a w)(h:(sL P t x y).Runs g ls (.ws ws)) 
 (hk:∀ a' w',d5 cx (bh g ws) a' w'->K a' w'):o.wp P a w K Q:=by
 unfold sL at h;cases hti:kz P t with
 |none=>simp[hti,Rd.Runs]at h
 | some ti=>
   simp only[hti]at h;obtain⟨x0,ls1,hx,h⟩:=bu hS h;obtain⟨r0,ls2,hr,h⟩:=dh hS h;cases hl:dr r0 with
   |none=>simp[hl,Rd.Runs]at h
   | some as=>
     simp only[hl]at h;obtain⟨vs,tY,hv⟩:=gW r0 as _ hl hr;obtain⟨iti,z,ei1,ei2,ei3,ei4,ei5⟩:=eB hti;have hslen:=(eG ei4).2.2;cases x0 with
     | pt r j=>
       simp only at h;obtain⟨lts,srcs,Ss,ls3,hp,hpl,h⟩:=mq hS _ _ _ tY _ _ _ h;split at h
       ·rename_i hd;simp only[Zb,ZV]at hd;obtain⟨hdist,hrng⟩:=hd;have hrng':∀ r' j',(r',j')∈srcs->¬ (r'=r/\j<=j'/\j'<j+lts.length):=by
         intro r' j' hm ⟨e1,e2,e3⟩;have:=hrng (r',j') hm;simp[yv,e1,e2,e3]at this
        obtain⟨w1,ls4,hS1,h,hg1,hg2⟩:=dZ srcs g hS (fun _ _ _=>rfl) hdist _ _ _ h;have hno:∀ r' j',(r',j')∈srcs->qY (bh g w1) r' j':=by
         intro r' j' hm h' l q1 q2;obtain⟨h2,p1,p2⟩:=hg1 r' j' hm;rw[ap,p1]at q1;cases q1;rw[p2]at q2;cases q2
        obtain⟨b,off,e1,e2⟩:=hx;have hlen:vs.length=lts.length:=hp.length.1;obtain⟨w2,ls5,G',w',s1,s2,s3⟩:=kH (g:=g) P r b off j lts.length lts vs Ss j _ G w _ _ _ hS1 e1 (hp.items hS hdist hno hrng') (hp.orgs hS) (Zf _) (Zf _)
         (fun i hi=>hg2 _ (by rintro r' j' e hm;cases e;exact hrng' _ _ hm ⟨rfl,Uc,Uc⟩)) h
        simp only[Rd.Runs,Out.ws.injEq]at s2;obtain⟨_,rfl⟩:=s2;rw[Nat.sub_self]at s3;refine kw hdst (mz hti ho e2 (lp hv (hp.one hS)) (by rw[hlen,hpl,hslen]) s3) (hk _ _ ?_);rw[cE];exact⟨G',s1⟩
       ·simp[Rd.Runs]at h
     | pn r j ver iv p=>
       simp only at h;obtain⟨lts,srcs,Ss,ls3,ht,htl,h⟩:=eF hS _ _ _ tY _ _ _ h;split at h
       ·rename_i hd;simp only[Zb,ZV]at hd;obtain⟨hdist,hrng⟩:=hd;have hnm:(r,j)∉srcs:=fun hm=>by have:=hrng (r,j) hm;simp at this
        obtain⟨w1,ls4,hS1,h,hg1,hg2⟩:=dZ srcs g hS (fun _ _ _=>rfl) hdist _ _ _ h;obtain⟨h0,ls5,q1,q2,h⟩:=bD h;split at h
        ·rename_i hgood;cases hc:h0.c with
         | own l=>
           simp only[hc]at h;cases hg:bP l p with
           |none=>simp[hg,Rd.Runs]at h
           | some pr=>
             obtain⟨rec,jj⟩:=pr;simp only[hg,Rd.Runs,Out.ws.injEq]at h;obtain⟨hlen,_,rfl⟩:=h;obtain⟨h1,f1,f2,f3,f4,f5⟩:=hx;rw[q1]at f1;cases f1;obtain⟨b,o0,g1,g2⟩:=f5 hgood l hc;have q3:bh g w1 (.leaf r j)=some (.h h0):=by rw[hg2 _ (by rintro r' j' e hm;cases e;exact hnm hm)];exact q2
             have hok:=hS1.hok (ap.2 q3);simp only[dO,hc]at hok;obtain⟨cur,ty,fz,base,Sa,S1,Sb,m1,m2,m3,m4,m5,m6,m7⟩:=focus p l _ _ b o0 rec jj hok.1 hok.2.1 g1 hg;have hbS:b∈G.fp r j:=by rw[m2];simp[m3]
             obtain⟨how,hunf⟩:=hok.2.2 b hbS;have hfz:=hunf.cells m1;subst hfz;have hlt:lts.length=vs.length:=by rw[ht.toPks.length.1];simp
             have hvl:(lts.map (·.1)).length=vs.length:=by simp[hlt]
             let cur':=(cur.toList.take o0++vs++cur.toList.drop (o0+vs.length)).toArray
             let w':=w.setRow b cur'
             have hsz:cur'.size=cur.size:=by
              simp only[cur',Yf,Zh,Zi,Zo,ZF];rw[m4];omega
             have hst:(storeCells ⟨b,o0,none⟩ vs 0).run P w=.ok () w':=by
              have:=run_storeCells_at P b o0 ty vs 0 cur w m1 Uc (ht.one hS)
              simpa[w',cur']using this
             have hoth:∀ b',b'≠b->w'.heap[b']?=w.heap[b']?:=fun b' hb'=>setRow_other w b b' _ hb'
             have hnew0:w'.heap[b]?=some (.cells cur' ty (0,0)):=setRow_heap w b cur _ ty _ m1;have hcell:∀ i,cur'[i]?=if o0<=i/\i<o0+vs.length then vs[i-o0]? else cur[i]?:=by
              intro i;simp only[cur',List.getElem?_toArray];have l1:(cur.toList.take o0).length=o0:=by simp only[Zi,ZF];omega
              rcases Z7 i o0 with hi|hi
              ·rw[VK Uc,Zn,ZN Uc,Zw,VJ hi];simp
              ·rcases Z7 i (o0+vs.length)with hi2|hi2
               ·rw[VJ ⟨hi,hi2⟩,Zn,ZM Uc,l1,ZN Uc]
               ·rw[VK Uc,Zn,ZM Uc,l1,ZM Uc,Zv];have:o0+vs.length+(i-o0-vs.length)=i:=by omega
                rw[this];simp
             have hfac:=ht.facts hS hdist;have hndb:b∉S1/\b∉Sb:=by
              have hn:=hok.2.1;rw[m2]at hn;rw[Zu]at hn;obtain⟨n1,n2,n3⟩:=hn;rw[Zu]at n1;exact⟨fun hb=>n1.2.2 b m3 b hb rfl,fun hb=>n3 b (by simp[m3]) b hb rfl⟩
             have hlen':jj+vs.length<=rec.length:=by omega
             have m6':aj w (rec.take jj++((rec.drop jj).take vs.length++(rec.drop jj).drop vs.length)) ((cur.toList.drop base).take rec.length) S1:=by
              rw[ZK,ZK];exact m6
             obtain⟨Sx,Sr,rfl,x1,x2⟩:=aj.split m6';obtain⟨Sy,Sz,rfl,x3,x4⟩:=aj.split x2;have lj:(rec.take jj).length=jj:=by simp only[Zi];omega
             have ly:((rec.drop jj).take vs.length).length=vs.length:=by simp only[Zi,Zo];omega
             have hnb:∀ c∈Ss.flatten,c≠b:=by
              rintro c hc0 rfl;obtain⟨_,r',j',k1,k2⟩:=hfac.2 c hc0;rw[how]at k2;cases k2;exact hnm k1
             have hnfp:∀ c∈Ss.flatten,c∉G.fp r j:=by
              intro c hc0 hcf;obtain⟨_,r',j',k1,k2⟩:=hfac.2 c hc0;rw[(hok.2.2 c hcf).1]at k2;cases k2;exact hnm k1
             have rd1:aj w' (rec.take jj) (((cur'.toList.drop base).take rec.length).take jj) Sx:=by
              have:=aj.keep (w':=w') _ _ _ x1 (fun c hc0=>hoth c (by rintro rfl;exact hndb.1 (by simp[hc0])));rw[lj]at this;have e:(((cur'.toList.drop base).take rec.length).take jj)=(((cur.toList.drop base).take rec.length).take jj):=by
               apply ZQ;intro i;simp only[Zw,Zv,ZX];by_cases ci:i<jj
               ·have hci:=hcell (base+i);rw[VK Uc]at hci;rw[hci]
               ·simp[ci]
              rw[e];simpa using this
             have rd2:aj w' (lts.map (·.1)) vs Ss.flatten:=aj.keep _ _ _ (ht.rec_ hS) (fun c hc0=>hoth c (hnb c hc0));have rd3:aj w' ((rec.drop jj).drop vs.length) (((cur'.toList.drop base).take rec.length).drop (jj+vs.length)) Sz:=by
              have:=aj.keep (w':=w') _ _ _ x4 (fun c hc0=>hoth c (by rintro rfl;exact hndb.1 (by simp[hc0])));rw[lj,ly]at this;have e:(((cur'.toList.drop base).take rec.length).drop (jj+vs.length))=(((cur.toList.drop base).take rec.length).drop (jj+vs.length)):=by
               apply ZQ;intro i;simp only[Zw,Zv,ZX];by_cases ci:jj+vs.length+i<rec.length
               ·have hci:=hcell (base+(jj+vs.length+i));rw[VK Uc]at hci;rw[hci]
               ·simp[ci]
              rw[e, <-Z9];exact this
             have hmid:(cur'.toList.drop base).take rec.length=((cur'.toList.drop base).take rec.length).take jj++(vs++((cur'.toList.drop base).take rec.length).drop (jj+vs.length)):=by
              have e3:((cur'.toList.drop base).take rec.length).drop jj=vs++((cur'.toList.drop base).take rec.length).drop (jj+vs.length):=by
               rw[<-Z9]
               conv=>lhs;rw[<-ZK vs.length (((cur'.toList.drop base).take rec.length).drop jj)]
               congr 1
               apply ZQ;intro i;simp only[Zw,Zv,ZX];by_cases ci:i<vs.length
               ·have hci:=hcell (base+(jj+i));rw[VJ Uc]at hci;rw[VJ ci,VJ Uc,hci]
                congr 1;omega
               ·rw[VK ci,Z8 Uc]
              rw[<-e3,ZK]
             have rdall:aj w' (rec.take jj++lts.map (·.1)++rec.drop (jj+(lts.map (·.1)).length)) ((cur'.toList.drop base).take rec.length) (Sx++(Ss.flatten++Sz)):=by
              rw[hmid,Zn,hvl, <-Z9];exact rd1.append (rd2.append rd3)
             have hrd:=m7 w' cur' _ _ hnew0 hsz (by
              intro i hi;rw[hcell,VK Uc]) (by
              simp only[Zh,Zi,Zo,hvl];omega) rdall
              (fun c hc0 hcb=>hoth c hcb)
             rw[<-oH p l rec jj _ hg]at hrd;have hS':(Sa++(Sx++(Ss.flatten++Sz))++Sb).Nodup:=by
              have hn:=hok.2.1;rw[m2]at hn;have e4:Sa++(Sx++(Ss.flatten++Sz))++Sb=(Sa++Sx)++Ss.flatten++(Sz++Sb):=by simp
              have e5:Sa++(Sx++(Sy++Sz))++Sb=(Sa++Sx)++Sy++(Sz++Sb):=by simp
              rw[e4];rw[e5]at hn;refine vH hn hfac.1 (fun c hc0 hcA=>hnfp c hc0 ?_) (fun c hc0 hcB=>hnfp c hc0 ?_)
              ·rw[m2];rcases Zg.1 hcA with q|q<;>simp[q]
              ·rw[m2];rcases Zg.1 hcB with q|q<;>simp[q]
             have hlsz:∃ sz es,l=.s sz es:=by
              cases l with
              |s sz es=>exact⟨sz,es,rfl⟩
              |v y=>cases p<;>simp[bP]at hg
              |g=>cases p<;>simp[bP]at hg
              |m _ _=>cases p<;>simp[bP]at hg
             obtain⟨sz,es,hls⟩:=hlsz;obtain⟨es',hes1,hes2⟩:=AS l p (rec.take jj++lts.map (·.1)++rec.drop (jj+(lts.map (·.1)).length)) sz es hls;rw[<-oH p l rec jj _ hg]at hes1;obtain⟨G',s1,_⟩:=hS1.upd q3 ⟨h0.ver,h0.iv+1,h0.org,.own (lK l p (lts.map (·.1)))⟩ (G.val r j) (Sa++(Sx++(Ss.flatten++Sz))++Sb) w'
              (.inr ⟨rfl,YH _,rfl,.inl ⟨sz,es,es',by rw[hc,hls],by simp only[hes1],hes2⟩⟩) rfl rfl rfl (by simp[w'])
              (fun b' _ _ h2=>hoth b' (by rintro rfl;exact h2 l hc hbS))
              (by
                intro b1 off1 hl1;obtain⟨mm,hm⟩:=hS1.noloc r _ hl1;obtain⟨b2,off2,c2,t2,u1,u2,u3,u4,u5⟩:=hS1.boxes r mm hm;rw[hl1]at u1;cases u1;have hne:b1≠b:=by rintro rfl;rw[how]at u2;cases u2
                obtain⟨_,mm',bx,_,p2,p3,_⟩:=hS1.leaf r j _ q3;rw[hm]at p2;cases p2;exact⟨c2,c2,t2,u3,by rw[hoth b1 hne];exact u3,rfl,fun _=>u5 j p3,fun _ _=>rfl⟩)
              (by
                intro l' hc' b1 hb1;by_cases hb:b1=b
                ·subst hb;exact .inl ⟨cur',ty,hnew0⟩
                ·exact(hok.2.2 b1 hb1).2.keep (hoth b1 hb))
              (by
                simp only;refine⟨hrd,hS',fun b1 hb1=>?_⟩;have hcase:b1∈G.fp r j\/b1∈Ss.flatten:=by
                 rw[m2];simp only[Zg]at hb1 ⊢;rcases hb1 with(q|q|q|q)|q;exact .inl (.inl (.inl q));exact .inl (.inl (.inr (.inl q)));exact .inr q;exact .inl (.inl (.inr (.inr (.inr q))));exact .inl (.inr q)
                rcases hcase with q|q
                ·refine⟨?_,.inr ⟨l,hc,q⟩⟩;by_cases hb:b1=b
                 ·subst hb;exact .inl ⟨cur',ty,hnew0⟩
                 ·exact(hok.2.2 b1 q).2.keep (hoth b1 hb)
                ·obtain⟨u,r',j',k1,k2⟩:=hfac.2 b1 q;refine⟨u.keep (hoth b1 (hnb b1 q)),.inl (.inr ⟨r',j',k2,fun h' l' z1 z2=>?_⟩)⟩;obtain⟨h2,p1,p2⟩:=hg1 r' j' k1;rw[ap,p1]at z1;cases z1;rw[p2]at z2;cases z2)
              (fun i e1 _=>hS1.anc r j h0 (ap.2 q3) i e1 ⟨l,.inl hc⟩)
             refine kw hdst (mz hti ho g2 (lp hv (ht.one hS)) (by rw[<-hlt,htl,hslen]) hst) (hk _ _ ?_);rw[cE];exact⟨G',s1⟩
         |ro l=>simp[hc,Rd.Runs]at h
         |gone=>simp[hc,Rd.Runs]at h
        ·simp[Rd.Runs]at h
       ·simp[Rd.Runs]at h
     |_=>simp[Rd.Runs]at h
end
end Go.V
namespace Go.V
def tq {w:World}:∀ {ls:ax} {vs:List Value} {S:List Nat},iS ls->aj w ls vs S->S=[]
 |[],vs,S,_,h=>by simp only[aj]at h;exact h.2
 | .v y::ls,vs,S,hs,h=>by
   simp only[aj]at h;obtain⟨v,vs',S1,S2,rfl,h1,h2,rfl⟩:=h;simp only[bO]at h1;have:=tq (ls:=ls) hs h2;subst this;simp[h1.2.2]
 | .g::ls,vs,S,hs,h=>hs.elim
 | .s _ _::ls,vs,S,hs,h=>hs.elim
def gZ {w:World}{sz:Nat}:∀ {es:af} {vs:List Value} {S:List Nat},bN es->bE w sz es vs S->S=[]
 |[],vs,S,_,h=>by simp only[bE]at h;exact h.2
 | e::es,vs,S,hs,h=>by
   simp only[bE]at h;obtain⟨v1,v2,S1,S2,rfl,hl,h1,h2,rfl⟩:=h;have q1:=tq hs.1 h1;have q2:=gZ hs.2 h2;subst q1 q2;rfl
def aj.ones {w:World}:∀ {ls:ax} {vs:List Value} {S:List Nat},aj w ls vs S->∀ u∈vs,u.oneCell'=true
 |[],vs,S,h,u,hu=>by simp only[aj]at h;rw[h.1]at hu;cases hu
 | l::ls,vs,S,h,u,hu=>by
   simp only[aj]at h;obtain⟨v,vs',S1,S2,rfl,h1,h2,rfl⟩:=h;rcases Zj.1 hu with rfl|hu;exact bO.one h1;exact aj.ones h2 u hu
def bE.ones {w:World}{sz:Nat}:∀ {es:af} {vs:List Value} {S:List Nat},bE w sz es vs S->∀ u∈vs,u.oneCell'=true
 |[],vs,S,h,u,hu=>by simp only[bE]at h;rw[h.1]at hu;cases hu
 | e::es,vs,S,h,u,hu=>by
   simp only[bE]at h;obtain⟨v1,v2,S1,S2,rfl,hl,h1,h2,rfl⟩:=h;rcases Zg.1 hu with hu|hu;exact aj.ones h1 u hu;exact bE.ones h2 u hu
section
variable {P: Program} {o: Oper} {cx: Cx} {G: Gh} {g: Gm} {a: Act} {w: World}
structure Src (g:Gm)(G:Gh)(w:World)(sz:Nat)(v:Value)(es:af)(src:List (Nat×Nat))(base:Option Addr)(m c:Nat)(news:List Value)(S:List Nat):Prop where
 val:v=.slice base m c
 len:m=es.length
 cells:0<m->∃ b off,base=some ⟨b,off,none⟩/\∀ j u,news[j]?=some u->w.cell? ⟨b,off+j,none⟩=some u
 rd:bE w sz es news S
 nodup:S.Nodup
 tok:∀ b∈S,ed w b/\∃ r j,(r,j)∈src/\G.ow b=some (.leaf r j)
def mV {P:Program}(base:Option Addr)(w:World)(t ty e:TypeId)(i:TypeInfo)(z:Value)(ht:P.underlying t=some (.slice e))(hi:P.info? e=some i)(hz:i.zero=some z) 
 (a:Addr) (n c:Nat) (news:List Value) (hl:news.length=n*i.size) (hnews:∀ j v,news[j]?=some v->w.cell? (a.add j)=some v)
 (h0:0<n) (h63:(n:Int)<=9223372036854775807) (h48:n*i.bytes<=140737488355328):
 (Yy #[t,t] ty #[.slice base 0 0,.slice (some a) n c]).run P w=
   .ok (.slice (some ⟨w.heap.size,0,none⟩) n (grownCap w n 0 e)) (w.drew.alloc (.cells (news.toArray++Ya z.cells (grownCap w n 0 e-n)) e)):=by
 cases base with
 |none=>exact run_append_nil w t ty e i z ht hi hz a n c news hl hnews h0 h63 Uc
 | some b=>
   have:=run_append_grow (P:=P) w t ty e i z ht hi hz b 0 0 [] (by simp) (by simp) a n c news hl hnews Uc (by simpa using h63) (by
    rw[ZP,nextslicecap_zero h0];omega)
   simpa using this
def Src.of_view {sz lo m:Nat}{es:af}{hv v:Value}{S:List Nat}(hr:bO w (.s sz es) hv S)(hsc:bN es)(hlo:lo+m<=es.length)(hw:dA hv sz lo m v):
 ∃ base c news,Src g G w sz v ((es.drop lo).take m) [] base m c news []:=by
 obtain⟨base,len,cap,base',cap',g1,g2,g3,g4,g5,g6⟩:=hw;simp only[bO]at hr;obtain⟨base0,len0,cap0,q1,q2,q3,q4,q5⟩:=hr;rw[g1]at q1;cases q1;have hlen:((es.drop lo).take m).length=m:=by simp only[Zi,Zo];omega
 rcases q5 with⟨e2,e3⟩|⟨b,off,cur,ty,fz,S',f1,f2,f3,f4,f5⟩
 ·have hz:es.length=0:=by omega
  have:m=0:=by omega
  subst this;exact⟨base',cap',[],g2,hlen.symm,fun h=>by omega,by simp[bE],ZO,fun b hb=>by cases hb⟩
 ·have hS':=gZ hsc f4;subst hS';obtain⟨S1,k1,k2⟩:=f4.sub lo m;have hS1:S1=[]:=by
   cases S1 with
   |nil=>rfl
   |cons x xs=>exact absurd (k2 x (by simp)) (by simp)
  subst hS1;refine⟨base',cap',_,g2,hlen.symm,fun hm=>?_,k1,ZO,fun b hb=>by cases hb⟩;rcases g6 with⟨r1,r2⟩|⟨b1,off1,off',r1,r2,r3,r4⟩;exfalso;omega
  ·rw[r1]at f1;cases f1;refine⟨_,off',r2,fun j u hj=>?_⟩;rw[hlen,Zw]at hj;split at hj
   ·rw[Zv]at hj;have:=dp f2 hj;rw[<-this,r4 hm];congr 2;omega
   ·cases hj
def v7 (hS:av cx G g a w){ti:TI}{x:A}{v:Value}(hx:gq (gl g) G w x v){α:Type}{k:af->List (Nat×Nat)->Rd α}{ls:List Loc}{out:α}(h:(qO ti x k).Runs g ls out):
 ∃ es src base m c news S ls',Src g G w ti.zero.length v es src base m c news S/\(k es src).Runs g ls' out:=by
 unfold qO at h;cases x with
 | nl=>
   have hv:v=.slice none 0 0:=hx;exact⟨[],[],none,0,0,[],[],ls,⟨hv,rfl,fun h=>by omega,by simp[bE],ZO,fun b hb=>by cases hb⟩,h⟩
 | ro sz es=>
   simp only at h;split at h
   ·rename_i hb;simp only[Zb,beq_iff_eq]at hb;simp only[Rd.Runs]at h;obtain⟨S,h1,h2⟩:=hx;obtain⟨base,c,news,hsrc⟩:=Src.of_view (g:=g) (G:=G) (lo:=0) (m:=es.length) h1 h.1 Uc (dA.full h1);rw[<-hb.1];exact⟨_,_,base,_,c,news,[],ls,by simpa using hsrc,h.2⟩
   ·simp[Rd.Runs]at h
 | vw r j ver lo m=>
   simp only at h;obtain⟨hv,ls2,q1,q2,h⟩:=bD h;split at h
   ·rename_i sz es hc;split at h
    ·rename_i hb;simp only[Zb,beq_iff_eq]at hb;obtain⟨h2,f1,f2,f3⟩:=hx;rw[q1]at f1;cases f1;obtain⟨f4,f5⟩:=f3 hb.1 sz es hc;have hok:=hS.hok q1;simp only[dO,hc]at hok;rw[<-hb.2];split at h
     ·simp only[Rd.Runs]at h;obtain⟨base,c,news,hsrc⟩:=Src.of_view (g:=g) (G:=G) hok.1 h.1 f4 f5;exact⟨_,_,base,_,c,news,[],ls2,hsrc,h.2⟩
     ·simp only[Rd.Runs]at h;obtain⟨⟨h0,h1⟩,h⟩:=h;obtain⟨base,len,cap,base',cap',g1,g2,g3,g4,g5,g6⟩:=f5;have hok':=hok.1;simp only[bO]at hok';obtain⟨base0,len0,cap0,q1',q2',q3',q4',q5'⟩:=hok';rw[g1]at q1';cases q1';have hvv:=g5 h0 Uc;rcases q5' with⟨e2,e3⟩|⟨b,off,cur,ty,fz,S',f1',f2',f3',f4',f5'⟩
      ·have hz:es=[]:=Yz Uc;subst hz;exact⟨[],_,base,len,cap,[],[],ls2,⟨by rw[hvv,g1],by simpa using q2',fun h=>by simp at q2';omega,by simp[bE],ZO,fun b hb=>by cases hb⟩,h⟩
      ·have hnd:=hok.2.1;rw[f5']at hnd;refine⟨es,_,base,len,cap,_,S',ls2,⟨by rw[hvv,g1],q2',fun _=>⟨b,off,f1',fun j' u hj=>dp f2' hj⟩,f4',(Yn.1 hnd).2,fun b' hb'=>?_⟩,h⟩;have:=hok.2.2 b' (by rw[f5'];simp[hb']);exact⟨this.2,r,j,by simp,this.1⟩
    ·simp[Rd.Runs]at h
   ·simp[Rd.Runs]at h
 | vn r j ver iv p lo m=>
   simp only at h;obtain⟨hv,ls2,q1,q2,h⟩:=bD h;split at h
   ·rename_i l hc;split at h
    ·rename_i hb;simp only[Zb]at hb;cases hg:bP l p with
     |none=>simp[hg,Rd.Runs]at h
     | some pr=>
       obtain⟨rec,j0⟩:=pr;simp only[hg]at h;split at h
       ·rename_i sz es hrec;split at h
        ·rename_i hsz;simp only[beq_iff_eq]at hsz;simp only[Rd.Runs]at h;obtain⟨h2,f1,f2,f2',fne,f3⟩:=hx;rw[q1]at f1;cases f1;obtain⟨bb,oo,hvv,f4,f5,f6,f7⟩:=f3 hb.1 l rec j0 sz es hc hg hrec;have hok:=hS.hok q1;simp only[dO,hc]at hok;obtain⟨cur,ty,fz,base,Sa,S1,Sb,m1,m2,m3,m4,m5,m6,_⟩:=focus p l _ _ bb oo rec j0 hok.1 hok.2.1 f4 hg;obtain⟨_,Sx,_,v',_,k2,k3⟩:=m6.at j0 _ hrec;have hvv':v'=hvv:=by
          have:=dp m1 k2;rw[<-m4,f5]at this;exact(YB this).symm
         subst hvv';obtain⟨base',c,news,hsrc⟩:=Src.of_view (g:=g) (G:=G) k3 h.1 f6 f7;rw[<-hsz];exact⟨_,_,base',_,c,news,[],ls2,hsrc,h.2⟩
        ·simp[Rd.Runs]at h
       ·simp[Rd.Runs]at h
    ·simp[Rd.Runs]at h
   ·simp[Rd.Runs]at h
 |_=>simp[Rd.Runs]at h
def av.newSlice (hS:av cx G g a w){d:Nat}(hlt:d<cx.n)(hd:g (.meta_ d)=none)(w':World)(hos:w'.os=w.os)(htape:w'.tape=w.tape)(hout:w'.output=w.output)(hsize:w.heap.size<=w'.heap.size) 
 (hsame:∀ b,b<w.heap.size->(∀ r j,G.ow b=some (.leaf r j)->∃ h l,gl g r j=some h/\h.c=.own l)->w'.heap[b]?=w.heap[b]?)
 (sz:Nat) (es:af) (v:Value) (S:List Nat) (hr:bO w' (.s sz es) v S) (hnd:S.Nodup) (hf:∀ b∈S,ed w' b/\pd g G w b):
 d5 cx (bh g (ownRow d sz es)) (a.put (some d) v) w':=by
 obtain⟨G',k1,k2,_,_⟩:=hS.newRoot' hd false [⟨0,0,none,.own (.s sz es)⟩] w' hos htape hout hsize hsame (fun _=>v) (fun _=>S)
  (by
    intro j h hj;have hj0:j=0:=by
     cases j with
     |zero=>rfl
     |succ j=>simp at hj
    subst hj0;simp at hj;subst hj;exact⟨hr,hnd,hf⟩)
  (fun j h hj=>by cases j with
    |zero=>simp at hj;subst hj;exact eJ.none
    |succ j=>simp at hj)
  (by intro i j hi hj hij;simp at hi hj;omega) 0 0 (by simp)
 simp only[ownRow,bh];refine⟨G',k1.put hlt ?_⟩;simp only[cK];have hg:gl ((W.root d false [⟨0,0,none,.own (.s sz es)⟩]).app g) d 0=some ⟨0,0,none,.own (.s sz es)⟩:=by simp[gl,W.app]
 refine⟨_,hg,Zf _,fun _ sz' es' e=>?_⟩;cases e;rw[k2];exact⟨Uc,dA.full hr⟩
def lJ (w:World)(t ty e:TypeId)(i:TypeInfo)(ht:P.underlying t=some (.slice e))(hi:P.info? e=some i) 
 (b off sLen sCap:Nat) (cur:Array Value) (bt:TypeId) (hg:w.heap[b]?=some (.cells cur bt (0,0)))
 (ad:Addr) (m c:Nat) (news:List Value) (hl:news.length=m*i.size) (hnews:∀ j u,news[j]?=some u->w.cell? (ad.add j)=some u) (h1:∀ u∈news,u.oneCell'=true)
 (hroom:sLen+m<=sCap) (hfit:off+sLen*i.size+news.length<=cur.size):
 (Yy #[t,t] ty #[.slice (some ⟨b,off,none⟩) sLen sCap,.slice (some ad) m c]).run P w=
   .ok (.slice (some ⟨b,off,none⟩) (sLen+m) sCap) (w.setRow b (cur.toList.take (off+sLen*i.size)++news++cur.toList.drop (off+sLen*i.size+news.length)).toArray):=by
 have hf:=run_firstCells_some (P:=P) w i.size m ad m c news hl hnews;have hst:=run_storeCells_at P b (off+sLen*i.size) bt news 0 cur w hg (by simpa using hfit) h1;simp only[Yi]at hst;simp[Yy,run_underlying ht,sizeOf,typeInfo,hi,Wh,hroom,hf,add_lit,hst]
def t6 (w:World)(t ty e:TypeId)(i:TypeInfo)(ht:P.underlying t=some (.slice e))(hi:P.info? e=some i)(base base2:Option Addr)(sLen sCap c:Nat)(hroom:sLen<=sCap):
 (Yy #[t,t] ty #[.slice base sLen sCap,.slice base2 0 c]).run P w=.ok (.slice base sLen sCap) w:=by
 cases base<;>cases base2<;>simp[Yy,run_underlying ht,sizeOf,typeInfo,hi,Wh,hroom,WT,loadCells,loadCellsFrom,storeCells]
variable {ls: List Loc} {ws: List W} {K: Act -> World -> Prop} {Q: Exit -> Act -> World -> Prop}
def iP {t:TypeId}{s x:Operand}(ho:o.op=.call {callee:=.builtin .append,args:= #[s,x],argTypes:= #[t,t]}){v vx v':Value}{w':World}(hs:a.eval s=v)(hx:a.eval x=vx) 
 (hr:(Yy #[t,t] o.type #[v,vx]).run P w=.ok v' w'):(execOp a.eval o).run P w=.ok (.value v') w':=by
 unfold execOp;simp only[ho,resolve,invoke,builtin,ZL,Ye,ZY,List.map_toArray,ZU,YO,hs,hx,hr]
def sO {t:TypeId}{s x:Operand}(ho:o.op=.call {callee:=.builtin .append,args:= #[s,x],argTypes:= #[t,t]}){g1:Gm}(hS1:av cx G g1 a w){d:Nat}(hd:o.dst=some d)(hlt:d<cx.n)(hm1:g1 (.meta_ d)=none) 
 {e:TypeId} {ti:TI} {bytes:Nat} (hel:wQ P t=some (e,ti,bytes)) {es:af} {S:List Nat} (hrd0:bO w (.s ti.zero.length es) (a.eval s) S) (hnd0:S.Nodup) (htokS:∀ b∈S,ed w b/\pd g1 G w b)
 {es2:af} {base2:Option Addr} {m c2:Nat} {news:List Value} {S2:List Nat} (hx2:a.eval x=.slice base2 m c2) (hlen2:m=es2.length) (hcell2:0<m->∃ b off,base2=some ⟨b,off,none⟩/\∀ j u,news[j]?=some u->w.cell? ⟨b,off+j,none⟩=some u)
 (hrd2:bE w ti.zero.length es2 news S2) (hnd2:S2.Nodup) (htokS2:∀ b∈S2,ed w b/\pd g1 G w b) (hdis:∀ b∈S,b∉S2) (hb1:(es.length+es2.length)*bytes<=70368744177664) (hb2:es.length+es2.length<=70368744177664)
 (hk:∀ a' w',d5 cx (bh g1 (ownRow d ti.zero.length (es++es2))) a' w'->K a' w'):o.wp P a w K Q:=by
 obtain⟨e1,e2,inf,e3,e4,e5,e6⟩:=iU hel;obtain⟨i,z,f1,f2,f3,f4,f5⟩:=eB e2;rw[e3]at f1;cases f1;subst e4;have hrl:=hrd0;simp only[bO]at hrl;obtain⟨base,len,cap,q1,q2,q3,q4,q5⟩:=hrl;have hnl:news.length=m*inf.size:=by rw[hrd2.length,hlen2,e6]
 have hmlen:=hlen2;have hmax:(len+m)*inf.bytes<=70368744177664/\len+m<=70368744177664:=by rw[q2,hmlen];exact⟨hb1,hb2⟩
 have hdd:=hd;by_cases hm0:m=0
 ·have hes2:es2=[]:=Yz Uc;subst hes2;have run:=t6 (P:=P) w t o.type e inf e1 e3 base base2 len cap c2 q3;refine cU (iP ho q1 (by rw[hx2,hm0]) run) (hk _ _ ?_);rw[hdd,Z4, <-q1];exact hS1.newSlice hlt hm1 w rfl rfl rfl (Zf _) (fun _ _ _=>rfl) _ _ _ S hrd0 hnd0 htokS
 ·obtain⟨b2,off2,hbase2,hcells⟩:=hcell2 Uc;subst hbase2;have hnews:∀ j u,news[j]?=some u->w.cell? ((⟨b2,off2,none⟩:Addr).add j)=some u:=fun j u hj=>by rw[add_lit];exact hcells j u hj
  have hz0:z.cells.size=inf.size:=by
   have:=(eG f4).2.1
   simpa[e6]using this
  have wsame:∀ ob,Same (fun _=>True) w (w.drew.alloc ob):=fun ob=>⟨rfl,rfl,rfl,by simp,fun b hb _=>heap_alloc_old w.drew ob hb⟩
  have hold:∀ ob b,b<w.heap.size->(w.drew.alloc ob).heap[b]?=w.heap[b]?:=fun ob b hb=>heap_alloc_old w.drew ob hb
  rcases q5 with⟨r2,r3⟩|⟨b,off,cur,ty,fz,S',r1,r2,r3,r4,r5⟩
  ·subst r2 r3;have hl0:len=0:=by omega
   subst hl0;have hes:es=[]:=Yz q2.symm;subst hes;have run:=mV (P:=P) base w t o.type e inf z e1 e3 f2 ⟨b2,off2,none⟩ m c2 news hnl hnews Uc Uc (by simp only[ZP]at hmax;omega);refine cU (iP ho q1 hx2 run) (hk _ _ ?_);rw[hdd,ZS];have hge:=grownCap_ge w m 0 e;have hgm:=grownCap_le_maxLen w m 0 e (by unfold maxLen;omega);refine hS1.newRow hlt hm1 _ (wsame _) w.heap.size _ e (Zf _) (heap_alloc_new w.drew _) _ _ m _ hmlen hge hgm ?_ S2 ?_ hnd2 ?_
   ·simp only[Xs,Yf,hnl,size_zeroCells,hz0, <-e6];rw[<-Zl];exact ZJ _ Uc
   ·have:(news.toArray++Ya z.cells (grownCap w m 0 e-m)).toList.take (m*ti.zero.length)=news:=by
     rw[<-e6, <-hnl];simp
    rw[this];exact bE.keep _ _ _ _ hrd2 (fun b hb=>hold _ b (htokS2 b hb).1.lt)
   ·intro b hb;have:=htokS2 b hb;exact⟨this.1.keep (hold _ b this.1.lt),this.2,fun e=>by have:=this.1.lt;omega⟩
  ·subst r1 r5;obtain⟨ub,hfb⟩:=htokS b (by simp);have hfz:fz=(0,0):=ub.cells r2;subst hfz;have hnd:=Yn.1 hnd0;have hrow:=r4.length;have hlc:(len+m)*inf.size=len*inf.size+m*inf.size:=Zl _ _ _;have hcapb:∀ k,k<=cap->k*ti.zero.length<=cap*ti.zero.length:=fun k hk=>ZJ _ hk
   by_cases hroom:len+m<=cap
   ·have hfit:off+len*inf.size+news.length<=cur.size:=by
     have:=hcapb _ hroom;rw[hnl];rw[<-e6]at this r3;omega
    have run:=lJ (P:=P) w t o.type e inf e1 e3 b off len cap cur ty r2 ⟨b2,off2,none⟩ m c2 news hnl hnews hrd2.ones hroom hfit;refine cU (iP ho q1 hx2 run) (hk _ _ ?_);rw[hdd];have hoth:∀ (cs:Array Value) b',b'≠b->(w.setRow b cs).heap[b']?=w.heap[b']?:=fun cs b' hb'=>setRow_other w b b' _ hb'
    refine hS1.newSlice hlt hm1 (w.setRow b (cur.toList.take (off+len*inf.size)++news++cur.toList.drop (off+len*inf.size+news.length)).toArray) rfl rfl rfl (by simp) (fun b' hb' hl=>hoth _ b' (by
     rintro rfl;rcases hfb with hfb|⟨rb,jb,mb2,hno⟩
     ·have:=ub.lt;omega
     obtain⟨h',l',z1,z2⟩:=hl rb jb mb2;exact hno h' l' z1 z2)) _ _ _ (b::(S'++S2)) ?_ ?_ ?_
    ·simp only[bO];refine⟨_,len+m,cap,rfl,by simp[<-q2, <-hmlen],hroom,q4,.inr ⟨b,off,_,ty,(0,0),S'++S2,rfl,setRow_heap w b cur _ ty _ r2,?_,?_,rfl⟩⟩
     ·simp only[Yf,Zh,Zi,Zo,ZF];omega
     ·have hl1:(cur.toList.take (off+len*inf.size)).length=off+len*inf.size:=by simp only[Zi,ZF];omega
      have:((cur.toList.take (off+len*inf.size)++news++cur.toList.drop (off+len*inf.size+news.length)).toArray.toList.drop off).take ((len+m)*ti.zero.length)=(cur.toList.drop off).take (len*ti.zero.length)++news:=by
       rw[<-e6];apply ZQ;intro k;have hl2:((cur.toList.drop off).take (len*inf.size)).length=len*inf.size:=by simp only[Zi,Zo,ZF];omega
       simp only[Zw,Zv];rcases Z7 k (len*inf.size)with hk|hk
       ·have rhs:((cur.toList.drop off).take (len*inf.size)++news)[k]?=((cur.toList.drop off).take (len*inf.size))[k]?:=ZN Uc;have lhs:(cur.toList.take (off+len*inf.size)++news++cur.toList.drop (off+len*inf.size+news.length))[off+k]?=(cur.toList.take (off+len*inf.size))[off+k]?:=by
         rw[Zn];exact ZN Uc
        rw[VJ Uc,rhs,lhs];simp only[Zw,Zv];rw[VJ Uc,VJ hk]
       ·have rhs:((cur.toList.drop off).take (len*inf.size)++news)[k]?=news[k-len*inf.size]?:=by
         rw[ZM Uc,hl2]
        rw[rhs];by_cases ck:k<(len+m)*inf.size
        ·have lhs:(cur.toList.take (off+len*inf.size)++news++cur.toList.drop (off+len*inf.size+news.length))[off+k]?=news[k-len*inf.size]?:=by
          rw[Zn,ZM Uc,hl1,ZN Uc];congr 1;omega
         rw[VJ ck,lhs]
        ·rw[VK ck,Z8 Uc]
      rw[this];exact(bE.keep _ _ _ _ r4 (fun c hc=>hoth _ c (by rintro rfl;exact hnd.1 hc))).append (bE.keep _ _ _ _ hrd2 (fun c hc=>hoth _ c (by rintro rfl;exact hdis _ (by simp) hc)))
    ·rw[Yn,Zu];refine⟨?_,hnd.2,hnd2,fun x hx y hy e=>hdis x (by simp[hx]) (by rw[e];exact hy)⟩;simp only[Zg,not_or];exact⟨hnd.1,hdis b (by simp)⟩
    ·intro c hc;have hcase:(c=b\/c≠b):=by omega
     rcases hcase with rfl|hcb;exact⟨.inl ⟨_,ty,setRow_heap w c cur _ ty _ r2⟩,(htokS c (by simp)).2⟩
     ·rcases Zj.1 hc with rfl|hc;exact absurd rfl hcb
      ·rcases Zg.1 hc with hc|hc;exact⟨(htokS c (by simp[hc])).1.keep (hoth _ c hcb),(htokS c (by simp[hc])).2⟩;exact⟨(htokS2 c hc).1.keep (hoth _ c hcb),(htokS2 c hc).2⟩
   ·have holds:∀ j u,((cur.toList.drop off).take (len*ti.zero.length))[j]?=some u->w.cell? ((⟨b,off,none⟩:Addr).add j)=some u:=fun j u hj=>by rw[add_lit];exact dp r2 hj
    have run:=run_append_grow (P:=P) w t o.type e inf z e1 e3 f2 ⟨b,off,none⟩ len cap _ (by rw[hrow, <-q2,e6]) holds ⟨b2,off2,none⟩ m c2 news hnl hnews Uc Uc (growslice_fits Uc Uc);refine cU (iP ho q1 hx2 run) (hk _ _ ?_);rw[hdd];have hge:=grownCap_ge w (len+m) cap e;have hgm:=grownCap_le_maxLen w (len+m) cap e (by unfold maxLen;omega);refine hS1.newRow hlt hm1 _ (wsame _) w.heap.size _ e (Zf _) (heap_alloc_new w.drew _) _ _ (len+m) _ (by simp[<-q2, <-hmlen]) hge hgm ?_ (S'++S2) ?_ ?_ ?_
    ·have hrow':((cur.toList.drop off).take (len*inf.size)).length=es.length*inf.size:=by rw[e6];exact hrow
     simp only[Xs,Yf,hnl,size_zeroCells,hz0, <-e6,hrow', <-q2];rw[<-Zl, <-Zl];exact ZJ _ Uc
    ·have:(((cur.toList.drop off).take (len*ti.zero.length)).toArray++news.toArray++Ya z.cells (grownCap w (len+m) cap e- (len+m))).toList.take ((len+m)*ti.zero.length)=(cur.toList.drop off).take (len*ti.zero.length)++news:=by
      have hln:(((cur.toList.drop off).take (len*ti.zero.length))++news).length=(len+m)*ti.zero.length:=by
       rw[Zh,hrow,hnl, <-q2,e6,Zl]
      rw[<-hln];simp only[Array.toList_append,Zn];rw[<-Zn];exact List.take_left
     rw[this];exact(bE.keep _ _ _ _ r4 (fun c hc=>hold _ c (htokS c (by simp[hc])).1.lt)).append (bE.keep _ _ _ _ hrd2 (fun c hc=>hold _ c (htokS2 c hc).1.lt))
    ·rw[Zu];exact⟨hnd.2,hnd2,fun x hx y hy e=>hdis x (by simp[hx]) (by rw[e];exact hy)⟩
    ·intro c hc;have hu:ed w c/\pd (g1) G w c:=by
      rcases Zg.1 hc with hc|hc;exact htokS c (by simp[hc]);exact htokS2 c hc
     exact⟨hu.1.keep (hold _ c hu.1.lt),hu.2,fun e=>by have:=hu.1.lt;omega⟩
def iT {t t':TypeId}{s x:Operand}(ho:o.op=.call {callee:=.builtin .append,args:= #[s,x],argTypes:= #[t,t']})(hS:av cx G g a w)(h:(mD P cx.n o.dst t t' s x).Runs g ls (.ws ws)) 
 (hk:∀ a' w',d5 cx (bh g ws) a' w'->K a' w'):o.wp P a w K Q:=by
 unfold mD at h;split at h
 ·simp[Rd.Runs]at h
 ·rename_i e ti bytes hel;obtain⟨e1,e2,inf,e3,e4,e5,e6⟩:=iU hel;obtain⟨i,z,f1,f2,f3,f4,f5⟩:=eB e2;rw[e3]at f1;cases f1;subst e4;split at h
  ·rename_i htt;simp only[beq_iff_eq]at htt;subst htt;obtain⟨xa,ls1,hxa,h⟩:=bu hS h;obtain⟨xb,ls2,hxb,h⟩:=bu hS h;obtain⟨l,og,src,S,ls3,tk,h⟩:=kI hS hxa h;split at h
   ·rename_i sz0 es;split at h
    case isFalse=>simp[Rd.Runs]at h
    rename_i hsz0;simp only[beq_iff_eq]at hsz0;subst hsz0;obtain⟨es2,src2,base2,m,c2,news,S2,ls4,hsrc,h⟩:=v7 hS hxb h;split at h
    ·rename_i hdist;simp only[Rd.Runs]at h;obtain⟨⟨hb1,hb2⟩,h⟩:=h;obtain⟨w1,ls5,hS1,h,hg1,hg2⟩:=dZ (src++src2) g hS (fun _ _ _=>rfl) hdist _ _ _ h;obtain⟨d,ls6,hd,hlt,hm,h⟩:=cJ h;simp only[Rd.Runs,Out.ws.injEq]at h;obtain⟨_,rfl⟩:=h;have hm1:bh g w1 (.meta_ d)=none:=by rw[hg2 _ (by intro r j e;cases e)];exact hm
     have tf:=tk.facts hS;obtain⟨d1,d2,d3⟩:=cW hdist;have hno:∀ r j,(r,j)∈src++src2->qY (bh g w1) r j:=by
      intro r' j' hm' h' l' q1 q2;obtain⟨h2,p1,p2⟩:=hg1 r' j' hm';rw[ap,p1]at q1;cases q1;rw[p2]at q2;cases q2
     have htokS:∀ b∈S,ed w b/\pd (bh g w1) G w b:=fun b hb=>by
      obtain⟨u,r,j,m1,m2⟩:=tf.2.2 b hb;exact⟨u,.inr ⟨r,j,m2,hno r j (by simp[m1])⟩⟩
     have htokS2:∀ b∈S2,ed w b/\pd (bh g w1) G w b:=fun b hb=>by
      obtain⟨u,r,j,m1,m2⟩:=hsrc.tok b hb;exact⟨u,.inr ⟨r,j,m2,hno r j (by simp[m1])⟩⟩
     have hdis:∀ b∈S,b∉S2:=by
      intro b hb hb2;obtain⟨_,r,j,m1,m2⟩:=tf.2.2 b hb;obtain⟨_,r',j',m3,m4⟩:=hsrc.tok b hb2;rw[m2]at m4;cases m4;exact d3 _ m1 m3
     refine sO ho hS1 hd hlt hm1 hel tf.1 tf.2.1 htokS hsrc.val hsrc.len hsrc.cells hsrc.rd hsrc.nodup htokS2 hdis hb1 hb2 (fun a' w' h2=>hk a' w' ?_);rw[cE];exact h2
    ·simp[Rd.Runs]at h
   ·simp[Rd.Runs]at h
  ·simp[Rd.Runs]at h
def Ek {w:World}:∀ {z:ax} {vs:List Value},vs.length=z.length->(∀ u∈vs,u.oneCell'=true)->aj w (vk z) vs []
 |[],vs,hl,_=>⟨Yz hl,rfl⟩
 |x::z,[],hl,_=>by simp at hl
 | x::z,v::vs,hl,h1=>by
   show aj w (L.g::vk z) (v::vs) [];simp only[aj];exact⟨v,vs,[],[],rfl,⟨h1 v (by simp),rfl⟩,Ek (by simpa using hl) (fun u hu=>h1 u (by simp[hu])),rfl⟩
def HO {w:World}{sz:Nat}{z:ax}(hz:z.length=sz):∀ {es:af} {vs:List Value} {S:List Nat},bE w sz es vs S->bE w sz (Zk es.length (vk z)) vs []
 |[],vs,S,h=>⟨h.1,rfl⟩
 | e::es,vs,S,h=>by
   have h1:=bE.ones h;simp only[bE]at h;obtain⟨v1,v2,S1,S2,rfl,hl,k1,k2,rfl⟩:=h;simp only[List.length_cons,List.replicate_succ,bE];exact⟨v1,v2,[],[],rfl,hl,Ek (by rw[hl,hz]) (fun u hu=>h1 u (by simp[hu])),HO hz k2,rfl⟩
def bE.split {w:World}{sz:Nat}:∀ {l1 l2:af} {vs:List Value} {S:List Nat},bE w sz (l1++l2) vs S->∃ v1 v2 S1 S2,vs=v1++v2/\S=S1++S2/\bE w sz l1 v1 S1/\bE w sz l2 v2 S2
 |[],l2,vs,S,h=>⟨[],vs,[],S,rfl,rfl,⟨rfl,rfl⟩,h⟩
 | e::l1,l2,vs,S,h=>by
   simp only[List.cons_append,bE]at h;obtain⟨v1,v2,S1,S2,rfl,hl,h1,h2,rfl⟩:=h;obtain⟨v3,v4,S3,S4,rfl,rfl,k1,k2⟩:=bE.split h2;refine⟨v1++v3,v4,S1++S3,S4,by simp,by simp,?_,k2⟩;simp only[bE];exact⟨v1,v3,S1,S3,rfl,hl,h1,k1,rfl⟩
def yp {es:af}{lo m:Nat}{gr:ax}:yo es lo m gr=es.take lo++(Zk m gr++es.drop (lo+m)):=by
 unfold yo;rw[List.drop_zero,List.take_of_length_le (l:=es.drop (lo+m)) (by rw[Zo];omega)]
def three {es:af}{lo m:Nat}:es=es.take lo++((es.drop lo).take m++es.drop (lo+m)):=by
 rw[show es.drop (lo+m)=(es.drop lo).drop m from by rw[Z9],ZK,ZK]
def av.reown (hS:av cx G g a w){r j J:Nat}{S2:List Nat}(ho:∀ b∈S2,G.ow b=some (.leaf r j))(hfp:∀ b∈S2,b∉G.fp r j):
 av cx {G with ow:=fun b=>if b∈S2 then some (.leaf r J)else G.ow b} g a w:=by
 have ro:∀ b,G.ow b=some .ro->(if b∈S2 then some (Tok.leaf r J)else G.ow b)=some .ro:=by
  intro b hb;split
  ·rename_i h;rw[ho b h]at hb;cases hb
  ·exact hb
 have fz:∀ b,G.ow b=some .fz->(if b∈S2 then some (Tok.leaf r J)else G.ow b)=some .fz:=by
  intro b hb;split
  ·rename_i h;rw[ho b h]at hb;cases hb
  ·exact hb
 have ro':∀ b,(if b∈S2 then some (Tok.leaf r J)else G.ow b)=some .ro->G.ow b=some .ro:=by
  intro b hb;split at hb
  ·cases hb
  ·exact hb
 let G2:Gh:={G with ow:=fun b=>if b∈S2 then some (.leaf r J)else G.ow b}
 have st:Step g G w g G2 w:=⟨fun r1 j1 h1 e=>⟨h1,e,.inl ⟨rfl,rfl,fun _ _ _ _=>rfl⟩⟩,fun b hb=>⟨ro b hb,rfl⟩,fun b hb=>⟨fz b hb,rfl⟩,fun _ _ h=>h⟩;refine⟨hS.defers,hS.tm,?_,?_,?_,hS.metas,hS.noloc,?_,hS.frame,?_,hS.anc,hS.aloc,hS.afr,hS.sep,hS.newb,fun b hb=>hS.roX b (ro' b hb)⟩
 ·intro d x hx;obtain⟨h1,r1,e,h2⟩:=hS.reg d x hx;exact⟨h1,r1,e,cK.step hS st r1 _ h2⟩
 ·intro r1 k hk;obtain⟨b,off,cur,ty,e1,e2,e3⟩:=hS.boxes r1 k hk;refine⟨b,off,cur,ty,e1,?_,e3⟩;show(if b∈S2 then some (Tok.leaf r J)else G.ow b)=_;rw[VK (fun h=>by rw[ho b h]at e2;cases e2)];exact e2
 ·intro r1 j1 x hx;obtain⟨h,k,box,e1,e2,e3,e4⟩:=hS.leaf r1 j1 x hx;refine⟨h,k,box,e1,e2,e3,?_⟩;unfold dO at e4 ⊢;split at e4
  ·rename_i l hc;simp only;refine⟨e4.1,e4.2.1,fun b hb=>⟨?_,(e4.2.2 b hb).2⟩⟩;have q:=(e4.2.2 b hb).1;show(if b∈S2 then some (Tok.leaf r J)else G.ow b)=_;rw[VK (fun h=>by
    rw[ho b h]at q;cases q;exact hfp b h hb)];exact q
  ·rename_i l hc;simp only;obtain⟨S,q1,q2⟩:=e4;exact⟨S,q1,fun b hb=>ro b (q2 b hb)⟩
  ·trivial
 ·intro b t hb;by_cases h:b∈S2;exact hS.lt b _ (ho b h)
  ·have hb':(if b∈S2 then some (Tok.leaf r J)else G.ow b)=some t:=hb;rw[VK h]at hb';exact hS.lt b t hb'
 ·intro b h1 h2;by_cases h:b∈S2
  ·rcases hS.frow b h1 h2 with q|q<;>rw[ho b h]at q<;>cases q
  ·show(if b∈S2 then some (Tok.leaf r J)else G.ow b)=none\/(if b∈S2 then some (Tok.leaf r J)else G.ow b)=some .ro;rw[VK h];exact hS.frow b h1 h2
def av.shed (hS:av cx G g a w){r j:Nat}{h:Hv}(hh:g (.leaf r j)=some (.h h)){es:af}{z:ax}(hc:h.c=.own (.s z.length es)){lo m:Nat}(hlm:lo+m<=es.length){v:Value}(hv:dA (G.val r j) z.length lo m v):
 ∃ G' S2 base c news,av cx G' ((W.leaf r j ⟨h.ver,h.iv+1,h.org,.own (.s z.length (yo es lo m (vk z)))⟩).app g) a w/\v=.slice base m c/\(0<m->∃ b off,base=some ⟨b,off,none⟩/\∀ j u,news[j]?=some u->w.cell? ⟨b,off+j,none⟩=some u)/\
  bE w z.length ((es.drop lo).take m) news S2/\S2.Nodup/\(∀ b∈S2,ed w b/\G.ow b=some (.leaf r j)/\∃ J,G'.ow b=some (.leaf r J)/\g (.leaf r J)=none/\J≠j)/\(∀ b,b∉S2->G'.ow b=G.ow b\/G.ow b=some (.leaf r j))/\G'.loc=G.loc:=by
 have hok:=hS.hok (ap.2 hh);simp only[dO,hc]at hok;obtain⟨hrd,hnd,htok⟩:=hok;obtain⟨h0,k,box,e0,em,ej,_⟩:=hS.leaf r j _ hh;cases e0;have hJ:g (.leaf r k)=none:=by
  cases q:g (.leaf r k)with
  |none=>rfl
  | some x=>
    obtain⟨_,k2,b2,_,m2,l2,_⟩:=hS.leaf r k _ q;rw[em]at m2;cases m2;omega
 have hparts:∃ base c news S1 S2 S3 fp',v=.slice base m c/\(0<m->∃ b off,base=some ⟨b,off,none⟩/\∀ j u,news[j]?=some u->w.cell? ⟨b,off+j,none⟩=some u)/\bE w z.length ((es.drop lo).take m) news S2/\(S2.Nodup/\(∀ b∈S2,b∈G.fp r j)/\(∀ b∈S2,b∉fp'))/\
  bO w (.s z.length (yo es lo m (vk z))) (G.val r j) fp'/\fp'.Nodup/\(∀ b∈fp',b∈G.fp r j)/\(S1:List Nat)=S3:=by
  obtain⟨base,len,cap,base',cap',g1,g2,g3,g4,g5,g6⟩:=hv;simp only[bO]at hrd;obtain⟨base0,len0,cap0,q1,q2,q3,q4,q5⟩:=hrd;rw[g1]at q1;cases q1;have hgl:(yo es lo m (vk z)).length=es.length:=by
   rw[yp,Zh,Zh,Zi,YX,Zo];omega
  rcases q5 with⟨r1,r2⟩|⟨b,off,cur,ty,fz,S',r1,r2,r3,r4,r5⟩
  ·have hl0:es.length=0:=by omega
   have hm:m=0:=by omega
   subst hm;refine⟨base',cap',[],[],[],[],[],g2,fun h=>by omega,by rw[YV];exact⟨rfl,rfl⟩,⟨ZO,fun b hb=>(by cases hb),fun b hb=>(by cases hb)⟩,?_,ZO,fun b hb=>(by cases hb),rfl⟩;simp only[bO];exact⟨_,_,_,g1,by rw[hgl];exact q2,q3,q4,.inl ⟨r1,trivial⟩⟩
  ·have r4':=r4;rw[three (es:=es) (lo:=lo) (m:=m)]at r4';obtain⟨v1,v23,S1,S23,p1,p2,k1,k23⟩:=bE.split r4';obtain⟨v2,v3,S2,S3,p3,p4,k2,k3⟩:=bE.split k23;subst p3 p4 p2;rw[r5]at hnd;have n1:=Yn.1 hnd;have n2:=Zu.1 n1.2;have n3:=Zu.1 n2.2.1;have l1:=k1.length;rw[Zi,Nat.min_eq_left Uc]at l1;have hm2:((es.drop lo).take m).length=m:=by rw[Zi,Zo];omega
   refine⟨base',cap',v2,S1,S2,S1,b::(S1++([]++S3)),g2,fun hm=>?_,k2,⟨n3.1,fun c hc=>(by rw[r5];simp[hc]),fun c hc=>?_⟩,?_,?_,fun c hc=>?_,rfl⟩
   ·rcases g6 with⟨t1,t2⟩|⟨b1,off1,off',t1,t2,t3,t4⟩;exfalso;omega
    ·rw[r1]at t1;cases t1;refine⟨_,off',t2,fun t u hu=>?_⟩;have:(v1++(v2++v3))[lo*z.length+t]?=some u:=by
      rw[ZM Uc,ZN (by have:=(ZB.1 hu).1;omega), <-hu];congr 1;omega
     rw[<-p1]at this;have:=dp r2 this;rw[<-this,t4 hm];congr 2;omega
   ·intro hq;rcases Zj.1 hq with rfl|hq;exact n1.1 (by simp[hc])
    ·rw[ZS]at hq;rcases Zg.1 hq with hq|hq;exact n2.2.2 c hq c (by simp[hc]) rfl;exact n3.2.2 c hc c hq rfl
   ·simp only[bO];refine⟨_,_,_,g1,by rw[hgl];exact q2,q3,q4,.inr ⟨b,off,cur,ty,fz,S1++([]++S3),r1,r2,r3,?_,rfl⟩⟩;have hrow:(cur.toList.drop off).take (len*z.length)=v1++(v2++v3):=p1;rw[yp,hrow];refine k1.append (bE.append ?_ k3);have:=HO (z:=z) rfl k2;rw[hm2]at this;exact this
   ·rw[Yn,ZS,Zu];refine⟨fun hq=>n1.1 ?_,n2.1,n3.2.1,fun c hc d hd=>n2.2.2 c hc d (by simp[hd])⟩;rcases Zg.1 hq with hq|hq<;>simp[hq]
   ·rw[r5];rw[ZS]at hc;rcases Zj.1 hc with rfl|hc
    ·simp
    ·rcases Zg.1 hc with hc|hc<;>simp[hc]
 obtain⟨base,c,news,_,S2,_,fp',a1,a2,a3,⟨a4,a5,a6⟩,a7,a8,a9,_⟩:=hparts;have hgl:(yo es lo m (vk z)).length=es.length:=by
  rw[yp,Zh,Zh,Zi,YX,Zo];omega
 obtain⟨G1,u1,_,u2,u3,u4,u5,u6⟩:=hS.upd' hh ⟨h.ver,h.iv+1,h.org,.own (.s z.length (yo es lo m (vk z)))⟩ (G.val r j) fp' w
  (.inr ⟨rfl,YH _,rfl,.inl ⟨_,es,_,hc,rfl,hgl⟩⟩) rfl rfl rfl (Zf _) (fun _ _ _ _=>rfl)
  (fun b off hl=>by
    obtain⟨kk,hk2⟩:=hS.noloc r _ hl;obtain⟨b',off',cur,ty,m1,m2,m3,m4,m5⟩:=hS.boxes r kk hk2;rw[hl]at m1;cases m1;refine⟨cur,cur,ty,m3,m3,rfl,fun hlt=>?_,fun _ _=>rfl⟩;rw[hk2]at em;cases em;exact m5 j ej)
  (fun l _ b hb=>(htok b hb).2)
  ⟨a7,a8,fun b hb=>⟨(htok b (a9 b hb)).2,.inr ⟨_,hc,a9 b hb⟩⟩⟩
  (fun i e _=>hS.anc r j h (ap.2 hh) i e ⟨_,.inl hc⟩)
 have hro:∀ b∈S2,G1.ow b=some (.leaf r j):=fun b hb=>by rw[u5 b (fun _=>a6 b hb)];exact(htok b (a5 b hb)).1
 have u7:=u1.reown (J:=k) hro (fun b hb=>by rw[u6,VJ ⟨rfl,rfl⟩];exact a6 b hb);refine⟨_,S2,base,c,news,u7,a1,a2,a3,a4,fun b hb=>⟨(htok b (a5 b hb)).2,(htok b (a5 b hb)).1,k,VJ hb,hJ,Uc⟩,fun b hb=>?_,u3⟩;show(if b∈S2 then some (Tok.leaf r k)else G1.ow b)=G.ow b\/_;rw[VK hb];by_cases q:b∈fp';exact .inr (htok b (a9 b q)).1;exact .inl (u5 b (fun _=>q))
def wh {t t':TypeId}{s x:Operand}(ho:o.op=.call {callee:=.builtin .append,args:= #[s,x],argTypes:= #[t,t']})(hS:av cx G g a w)(h:(oe P cx.n o.dst t t' s x).Runs g ls (.ws ws)) 
 (hk:∀ a' w',d5 cx (bh g ws) a' w'->K a' w'):o.wp P a w K Q:=by
 unfold oe at h;split at h
 ·simp[Rd.Runs]at h
 ·rename_i e ti bytes hel;split at h
  case isFalse=>exact h.elim
  rename_i htt;simp only[beq_iff_eq]at htt;subst htt;obtain⟨xa,ls1,hxa,h⟩:=bu hS h;obtain⟨xb,ls2,hxb,h⟩:=bu hS h;obtain⟨l,og,src,S,ls3,tk,h⟩:=kI hS hxa h;cases l with
  |v y=>exact h.elim
  |g=>exact h.elim
  |m _ _=>exact h.elim
  |s sz0 es=>
  simp only at h;split at h
  case isFalse=>exact h.elim
  rename_i hsz0;simp only[beq_iff_eq]at hsz0;subst hsz0;cases xb with
  | vw r j ver lo m=>
    simp only at h;obtain⟨hv,ls4,q1,q2,h⟩:=bD h;split at h
    case h_2=>exact h.elim
    rename_i sz2 es2 hc;split at h
    case isFalse=>exact h.elim
    rename_i hb;simp only[Zb,beq_iff_eq]at hb;obtain⟨⟨⟨hver,hsz⟩,hdist⟩,hall⟩:=hb;subst hsz;obtain⟨⟨hb1,hb2⟩,h⟩:=h;obtain⟨h2,f1,f2,f3⟩:=hxb;rw[q1]at f1;cases f1;obtain⟨hlm,hview⟩:=f3 hver _ _ hc;obtain⟨w1,ls5,hS1,h,hg1,hg2⟩:=dZ src g hS (fun _ _ _=>rfl) hdist _ _ _ h;obtain⟨d,ls6,hd,hlt,hm,h⟩:=cJ h;simp only[Rd.Runs,Out.ws.injEq]at h;obtain⟨_,rfl⟩:=h;have hnot:(r,j)∉src:=by
     intro hq;have:=ZV.1 hall _ hq;simp at this
    have hh1:bh g w1 (.leaf r j)=some (.h hv):=by rw[hg2 _ (by intro r' j' e;cases e;exact hnot)];exact ap.1 q1
    obtain⟨G2,S2,base,c,news,hS2,z1,z2,z3,z4,z5,z6,z7⟩:=hS1.shed hh1 hc hlm hview;have hm1:((W.leaf r j ⟨hv.ver,hv.iv+1,hv.org,.own (.s ti.zero.length (yo es2 lo m (vk ti.zero)))⟩).app (bh g w1)) (.meta_ d)=none:=by
     have:bh g w1 (.meta_ d)=none:=by rw[hg2 _ (by intro r j e;cases e)];exact hm
     simpa[W.app]using this
    have tf:=tk.facts hS;have hmlen:m=((es2.drop lo).take m).length:=by rw[Zi,Zo];omega
    have hdis:∀ b∈S,b∉S2:=by
     intro b hb hb2;obtain⟨_,r1,j1,m1,m2⟩:=tf.2.2 b hb;have:=(z5 b hb2).2.1;rw[m2]at this;cases this;exact hnot m1
    refine sO ho hS2 hd hlt hm1 hel tf.1 tf.2.1 (fun b hb=>?_) z1 hmlen z2 z3 z4 (fun b hb=>?_) hdis (by rw[<-hmlen];exact hb1) (by rw[<-hmlen];exact hb2) (fun a' w' h2=>hk a' w' ?_)
    ·obtain⟨u,r1,j1,m1,m2⟩:=tf.2.2 b hb;refine⟨u,.inr ⟨r1,j1,?_,?_⟩⟩
     ·rcases z6 b (hdis b hb)with e|e
      ·rw[e];exact m2
      ·rw[m2]at e;cases e;exact absurd m1 hnot
     ·intro h' l' p1 p2;have hne:¬ (r1=r/\j1=j):=by rintro⟨rfl,rfl⟩;exact hnot m1
      obtain⟨h2',p3,p4⟩:=hg1 r1 j1 m1;have:gl (bh g w1) r1 j1=some h':=by
       rw[ap]at p1 ⊢
       simpa[W.app,hne]using p1
      rw[ap,p3]at this;cases this;rw[p4]at p2;cases p2
    ·obtain⟨u,_,J,m1,m2,m3⟩:=z5 b hb;refine⟨u,.inr ⟨r,J,m1,?_⟩⟩;intro h' l' p1 p2;rw[ap]at p1;simp[W.app,m3,m2]at p1
    ·rw[cE];exact h2
  |_=>exact h.elim
def wi {t t':TypeId}{s x:Operand}(ho:o.op=.call {callee:=.builtin .append,args:= #[s,x],argTypes:= #[t,t']})(hS:av cx G g a w)(h:(oh P cx.n o.dst t t' s x).Runs g ls (.ws ws)) 
 (hk:∀ a' w',d5 cx (bh g ws) a' w'->K a' w'):o.wp P a w K Q:=by
 unfold oh at h;obtain⟨xb,ls2,hxb,h⟩:=bu hS h;cases xb with
 | vw r j ver lo m=>
   simp only at h;obtain⟨ls3,_,h⟩:=h
   revert h;generalize g (Loc.meta_ r)=mv;intro h
   cases hel:wQ P t with
   | none=>
     simp only[hel]at h;split at h
     ·exact h.elim
     ·exact iT ho hS h hk
   | some q=>
     obtain⟨e,ti,b⟩:=q;simp only[hel]at h;split at h
     ·by_cases c:gv ti.slots=true
      ·rw[VJ c]at h;exact iT ho hS h hk
      ·rw[VK c]at h;exact wh ho hS h hk
     ·exact iT ho hS h hk
 |_=>exact iT ho hS h hk
end
end Go.V
namespace Go.V
def aj.items {w:World}:∀ {ls:ax} {vs:List Value} {S:List Nat},aj w ls vs S->∃ Ss:List (List Nat),Ss.flatten=S/\Ss.length=ls.length/\∀ j l,ls[j]?=some l->∃ v,vs[j]?=some v/\bO w l v (Ss.getD j [])
 |[],vs,S,h=>by simp only[aj]at h;exact⟨[],by simp[h.2],rfl,fun j l e=>by simp at e⟩
 | l::ls,vs,S,h=>by
   simp only[aj]at h;obtain⟨v,vs',S1,S2,rfl,h1,h2,rfl⟩:=h;obtain⟨Ss,k1,k2,k3⟩:=aj.items h2;refine⟨S1::Ss,by simp[k1],by simp[k2],fun j l' e=>?_⟩;cases j with
   |zero=>simp at e;subst e;exact⟨v,rfl,by simpa using h1⟩
   |succ j=>simp at e;obtain⟨v',q1,q2⟩:=k3 j l' e;exact⟨v',by simpa using q1,by simpa using q2⟩
def ft:∀ {Ss:List (List Nat)},Ss.flatten.Nodup->∀ i j,i≠j->∀ b∈Ss.getD i [],b∉Ss.getD j []
 |[],_,i,j,_,b,hb=>by simp at hb
 | S::Ss,h,i,j,hij,b,hb=>by
   rw[Z0,Zu]at h;have mem:∀ k,b∈Ss.getD k []->b∈Ss.flatten:=by
    intro k hk;rw[Wi];by_cases hl:k<Ss.length;exact⟨Ss[k],by simp,by simpa[ZE,hl]using hk⟩
    ·simp[ZE,Z8 (Wj hl)]at hk
   intro hb2;cases i with
   | zero=>
     cases j with
     |zero=>exact hij rfl
     |succ j=>exact h.2.2 b (by simpa using hb) b (mem j (by simpa using hb2)) rfl
   | succ i=>
     cases j with
     |zero=>exact h.2.2 b (by simpa using hb2) b (mem i (by simpa using hb)) rfl
     |succ j=>exact ft h.2.1 i j Uc b (by simpa using hb) (by simpa using hb2)
def fu {Ss:List (List Nat)}{k b:Nat}(hk:b∈Ss.getD k []):b∈Ss.flatten:=by
 rw[Wi];by_cases hl:k<Ss.length;exact⟨Ss[k],by simp,by simpa[ZE,hl]using hk⟩
 ·simp[ZE,Z8 (Wj hl)]at hk
def iG:∀ {Ss:List (List Nat)},Ss.flatten.Nodup->∀ k,(Ss.getD k []).Nodup
 |[],_,k=>by simp
 | S::Ss,h,k=>by
   rw[Z0,Zu]at h;cases k with
   |zero=>simpa using h.1
   |succ k=>simpa using iG h.2.1 k
section
variable {P: Program} {o: Oper} {cx: Cx} {G: Gh} {g: Gm} {a: Act} {w: World}
def Fl:A->List (Nat×Nat)
 | .vw r j _ _ _=>[(r,j)]
 | .vn r j _ _ _ _ _=>[(r,j)]
 |_=>[]
def Ad (hS:av cx G g a w){slot:Option Nat}{x:A}{v:Value}(hx:gq (gl g) G w x v){α:Type}{k:L->Rd α}{ls:List Loc}{out:α}(h:(BN slot x k).Runs g ls out):
 ∃ l S ls',bO w l v S/\(∀ b∈S,G.ow b=some .ro\/∃ r j,(r,j)∈Fl x/\G.ow b=some (.leaf r j))/\(k l).Runs g ls' out:=by
 have view:∀ {sz lo m:Nat} {es:af} {hv:Value} {S:List Nat},bO w (.s sz es) hv S->lo+m<=es.length->dA hv sz lo m v->∃ S1,bO w (.s sz ((es.drop lo).take m)) v S1/\∀ b∈S1,b∈S:=by
  intro sz lo m es hv S hr hlo hw;obtain⟨base,len,cap,base',cap',g1,g2,g3,g4,g5,g6⟩:=hw;have hr0:=hr;simp only[bO]at hr;obtain⟨base0,len0,cap0,q1,q2,q3,q4,q5⟩:=hr;rw[g1]at q1;cases q1;have hlen:((es.drop lo).take m).length=m:=by simp only[Zi,Zo];omega
  rcases q5 with⟨e1,e3⟩|⟨b,off,cur,ty,fz,S',f1,f2,f3,f4,f5⟩
  ·refine⟨[],?_,fun b hb=>by cases hb⟩;simp only[bO];exact⟨base',m,cap',g2,hlen.symm,g3,Uc,.inl ⟨Uc,trivial⟩⟩
  ·rcases g6 with⟨r1,r3⟩|⟨b1,off1,off',r1,r2,r3,r4⟩
   ·refine⟨[],?_,fun b hb=>by cases hb⟩;simp only[bO];exact⟨base',m,cap',g2,hlen.symm,g3,Uc,.inl ⟨r3,trivial⟩⟩
   rw[r1]at f1;cases f1;obtain⟨S1,k1,k2⟩:=f4.sub lo m;by_cases hm:0<m
   ·have ho:=r4 hm;refine⟨b::S1,?_,fun c hc=>by rw[f5];rcases Zj.1 hc with rfl|hc;exact .head _;exact .tail _ (k2 c hc)⟩;simp only[bO];refine⟨base',m,cap',g2,hlen.symm,g3,Uc,.inr ⟨b,off',cur,ty,fz,S1,r2,f2,Uc,?_,rfl⟩⟩;have hl2:m*sz+lo*sz<=len*sz:=by rw[<-Zl];exact ZJ _ Uc
    have:(cur.toList.drop off').take (m*sz)=(((cur.toList.drop off).take (len*sz)).drop (lo*sz)).take (((es.drop lo).take m).length*sz):=by
     apply ZQ;intro k;rw[hlen,ho];simp only[Zw,Zv];by_cases ck:k<m*sz
     ·simp only[ck,if_true];rw[VJ Uc];congr 1;omega
     ·simp[ck]
    rw[this];exact k1
   ·have hm0:m=0:=by omega
    subst hm0;refine⟨[b],?_,fun c hc=>by rw[f5];rcases Zj.1 hc with rfl|hc;exact .head _;cases hc⟩;simp only[bO,YV];exact⟨base',0,cap',g2,rfl,g3,Uc,.inr ⟨b,off',cur,ty,fz,[],r2,f2,Uc,by simp[bE],rfl⟩⟩
 unfold BN at h;split at h
 ·rename_i y;have hv:v=y:=hx;subst hv;split at h
  ·rename_i hs;exact⟨_,[],ls,by simp[bO,hs],(fun b hb=>by cases hb),h⟩
  ·simp[Rd.Runs]at h
 ·have hv:v=.slice none 0 0:=hx;subst hv;exact⟨_,[],ls,by simp only[bO];exact⟨none,0,0,rfl,rfl,Zf _,Nat.zero_le _,.inl (by simp)⟩,(fun b hb=>by cases hb),h⟩
 ·split at h
  ·obtain⟨S,h1,h2⟩:=hx;exact⟨_,S,ls,h1,fun b hb=>.inl (h2 b hb),h⟩
  ·simp[Rd.Runs]at h
 ·obtain⟨hv,ls2,q1,q2,h⟩:=bD h;split at h
  ·rename_i sz' es hc;split at h
   ·rename_i hb;simp only[Zb,beq_iff_eq]at hb;obtain⟨h2,f1,f2,f3⟩:=hx;rw[q1]at f1;cases f1;obtain⟨f4,f5⟩:=f3 hb.1 _ es hc;have hok:=hS.hok q1;simp only[dO,hc]at hok;obtain⟨S1,k1,k2⟩:=view hok.1 f4 f5;exact⟨_,S1,ls2,k1,fun b hb=>.inr ⟨_,_,.head _,(hok.2.2 b (k2 b hb)).1⟩,h⟩
   ·simp[Rd.Runs]at h
  ·simp[Rd.Runs]at h
 ·obtain⟨hv,ls2,q1,q2,h⟩:=bD h;split at h
  ·rename_i l hc;split at h
   ·rename_i hgood;split at h
    ·rename_i rec j0 hg;split at h
     ·rename_i sz' es hrec;split at h
      ·obtain⟨h2,f1,f2,f2',fne,f3⟩:=hx;rw[q1]at f1;cases f1;obtain⟨bb,oo,hvv,f4,f5,f6,f7⟩:=f3 hgood l rec j0 _ es hc hg hrec;have hok:=hS.hok q1;simp only[dO,hc]at hok;obtain⟨cur,ty,fz,base,Sa,S1,Sb,m1,m2,m3,m4,m5,m6,_⟩:=focus _ l _ _ bb oo rec j0 hok.1 hok.2.1 f4 hg;obtain⟨Sy,Sx,Sz,v',e6,k2,k3⟩:=m6.at j0 _ hrec;have hvv':v'=hvv:=by
        have:=dp m1 k2;rw[<-m4,f5]at this;exact(YB this).symm
       subst hvv';obtain⟨S2,k1,k4⟩:=view k3 f6 f7;exact⟨_,S2,ls2,k1,fun b hb=>.inr ⟨_,_,.head _,(hok.2.2 b (by rw[m2,e6];simp[k4 b hb])).1⟩,h⟩
      ·simp[Rd.Runs]at h
     ·simp[Rd.Runs]at h
    ·simp[Rd.Runs]at h
   ·simp[Rd.Runs]at h
  ·simp[Rd.Runs]at h
 ·simp[Rd.Runs]at h
def BO (hS:av cx G g a w){slot:Option Nat}{x:A}{v:Value}(hx:gq (gl g) G w x v){α:Type}{k:L->Rd α}{ls:List Loc}{out:α}(h:(BN slot x k).Runs g ls out):
 ∃ l S ls',bO w l v S/\(k l).Runs g ls' out:=by
 obtain⟨l,S,ls',h1,_,h2⟩:=Ad hS hx h;exact⟨l,S,ls',h1,h2⟩
def rl (hS:av cx G g a w){α:Type}:∀ (slots:List (Option Nat)) (as:List A) (vs:List Value),bQ (gl g) G w as vs->∀ (k:ax->Rd α) (ls:List Loc) (out:α),(eL slots as k).Runs g ls out->
 ∃ l S ls',aj w l vs S/\(∀ b∈S,G.ow b=some .ro\/∃ r j,(r,j)∈as.flatMap Fl/\G.ow b=some (.leaf r j))/\(k l).Runs g ls' out
 |[],[],vs,hx,k,ls,out,h=>by simp only[bQ]at hx;subst hx;exact⟨[],[],ls,by simp[aj],(fun b hb=>by cases hb),by simpa[eL]using h⟩
 |[],_::_,vs,hx,k,ls,out,h=>by simp[eL,Rd.Runs]at h
 |_::_,[],vs,hx,k,ls,out,h=>by simp[eL,Rd.Runs]at h
 | sl::sls,x::as,vs,hx,k,ls,out,h=>by
   obtain⟨v,vs',rfl,h1,h2⟩:=hx;simp only[eL]at h;obtain⟨l,S,ls2,k1,t1,h⟩:=Ad hS h1 h;obtain⟨l2,S2,ls3,k2,t2,h⟩:=rl hS sls as vs' h2 _ _ _ h;refine⟨l::l2,S++S2,ls3,by simp only[aj];exact⟨v,vs',S,S2,rfl,k1,k2,rfl⟩,fun b hb=>?_,h⟩;rcases Zg.1 hb with hb|hb
   ·rcases t1 b hb with q|⟨r,j,q1,q2⟩;exact .inl q;exact .inr ⟨r,j,by simp[q1],q2⟩
   ·rcases t2 b hb with q|⟨r,j,q1,q2⟩;exact .inl q;exact .inr ⟨r,j,Zg.2 (.inr q1),q2⟩
def ng (hS:av cx G g a w){α:Type}:∀ (slots:List (Option Nat)) (as:List A) (vs:List Value),bQ (gl g) G w as vs->∀ (k:ax->Rd α) (ls:List Loc) (out:α),(eL slots as k).Runs g ls out->
 ∃ l S ls',aj w l vs S/\(k l).Runs g ls' out
 |[],[],vs,hx,k,ls,out,h=>by simp only[bQ]at hx;subst hx;exact⟨[],[],ls,by simp[aj],by simpa[eL]using h⟩
 |[],_::_,vs,hx,k,ls,out,h=>by simp[eL,Rd.Runs]at h
 |_::_,[],vs,hx,k,ls,out,h=>by simp[eL,Rd.Runs]at h
 | sl::sls,x::as,vs,hx,k,ls,out,h=>by
   obtain⟨v,vs',rfl,h1,h2⟩:=hx;simp only[eL]at h;obtain⟨l,S,ls2,k1,h⟩:=BO hS h1 h;obtain⟨l2,S2,ls3,k2,h⟩:=ng hS sls as vs' h2 _ _ _ h;exact⟨l::l2,S++S2,ls3,by simp only[aj];exact⟨v,vs',S,S2,rfl,k1,k2,rfl⟩,h⟩
def HX {cur:Array Value}{o m:Nat}{f:Nat->Value}(h:∀ i,i<m->cur[o+i]?=some (f i)):(cur.toList.drop o).take m=(Ze m).map f:=by
 apply ZQ;intro i;rw[Zw];split
 ·rename_i hi;rw[Zv,ZC,Xg hi]
  simpa using h i hi
 ·rw[Z8];simp;omega
def kh (hS:av cx G g a w){r:Nat}{α:Type}:∀ (m j:Nat) (k:ax->Rd α) (ls:List Loc) (out:α),(eX r j m k).Runs g ls out->
 ∃ rec S ls',rec.length=m/\aj w rec ((Wk j m).map fun i=>G.val r i) S/\(∀ i,j<=i->i<j+m->∃ h,g (.leaf r i)=some (.h h))/\(k rec).Runs g ls' out
 |0,j,k,ls,out,h=>⟨[],[],ls,rfl,by simp[aj],fun i h1 h2=>by omega,by simpa[eX]using h⟩
 | m+1,j,k,ls,out,h=>by
   obtain⟨hv,ls2,q1,q2,hk⟩:=bD (k:=fun h=>match h.c with
    | .own l=>eX r (j+1) m fun ls=>k (l::ls)
    | .ro l=>eX r (j+1) m fun ls=>k (l::ls)
    | .gone=>.fail) h
   have hok:=hS.hok q1;have fin:∀ l S0,bO w l (G.val r j) S0->(eX r (j+1) m fun ls=>k (l::ls)).Runs g ls2 out->∃ rec S ls',rec.length=m+1/\aj w rec ((Wk j (m+1)).map fun i=>G.val r i) S/\(∀ i,j<=i->i<j+(m+1)->∃ h,g (.leaf r i)=some (.h h))/\(k rec).Runs g ls' out:=by
    intro l S0 hl hk;obtain⟨rec,S,ls3,e1,e2,e3,e4⟩:=kh hS m (j+1) _ _ _ hk;refine⟨l::rec,S0++S,ls3,by simp[e1],?_,fun i h1 h2=>?_,e4⟩
    ·rw[List.range'_succ,ZU];simp only[aj];exact⟨_,_,S0,S,rfl,hl,e2,rfl⟩
    ·by_cases c:i=j
     ·subst c;exact⟨hv,q2⟩
     ·exact e3 i Uc Uc
   cases hc:hv.c with
   |own l=>simp only[hc]at hk;simp only[dO,hc]at hok;exact fin l _ hok.1 hk
   |ro l=>simp only[hc]at hk;simp only[dO,hc]at hok;obtain⟨S0,e,_⟩:=hok;exact fin l _ e hk
   |gone=>simp[hc,Rd.Runs]at hk
def AW (hS:av cx G g a w){r b off j m:Nat}(hl:G.loc r=some (b,off))(hg:∀ i,j<=i->i<j+m->∃ h,g (.leaf r i)=some (.h h)):
 ∃ cur ty,w.heap[b]?=some (.cells cur ty (0,0))/\(0<m->off+j+m<=cur.size)/\(cur.toList.drop (off+j)).take m=(Wk j m).map fun i=>G.val r i:=by
 obtain⟨k,hk⟩:=hS.noloc r _ hl;obtain⟨b',off',cur,ty,f1,f2,f3,f4,f5⟩:=hS.boxes r k hk;rw[hl]at f1;cases f1;have hlt:∀ i,j<=i->i<j+m->i<k:=by
  intro i h1 h2;obtain⟨h,e⟩:=hg i h1 h2;obtain⟨_,k',bx,_,e2,e3,_⟩:=hS.leaf r i _ e;rw[hk]at e2;cases e2;exact e3
 refine⟨cur,ty,f3,fun h0=>?_,?_⟩
 ·have:=hlt (j+m-1) Uc Uc;omega
 ·rw[HX (f:=fun i=>G.val r (j+i)) (fun i hi=>by rw[show off+j+i=off+(j+i)from by omega];exact f5 _ (hlt _ Uc Uc))];rw[List.range'_eq_map_range,List.map_map];rfl
def iJ (hS:av cx G g a w){α:Type}:∀ (cs:List BA) (ps:List Value) (k:af->Rd α) (ls:List Loc) (out:α),dH G w cs ps->(ff cs k).Runs g ls out->
 ∃ recs S ls',hP w recs ps S/\(k recs).Runs g ls' out
 |[],ps,k,ls,out,hc,h=>⟨[],[],ls,by simp only[dH]at hc;simp[hP,hc],by simpa[ff]using h⟩
 | .rp rec j::cs,ps,k,ls,out,hc,h=>by
   obtain⟨v,vs,rfl,h1,h2⟩:=hc;simp only[ff]at h;split at h
   ·rename_i hj;obtain⟨recs,S,ls2,e1,e2⟩:=iJ hS cs vs _ _ _ h2 h;obtain⟨b,off,cur,ty,fz,S',f1,f2,f3,f4,f5,f6⟩:=h1;obtain⟨S1,s1,s2⟩:=f5.sub j (rec.length-j);have hlen:(rec.drop j).length=rec.length-j:=Zo;refine⟨rec.drop j::recs,(b::S1)++S,ls2,?_,e2⟩;simp only[hP];refine⟨_,_,_,S,rfl,⟨b,off+j,cur,ty,fz,S1,f1,f2,?_,?_,rfl⟩,e1,rfl⟩;omega
    ·rw[<-hlen,List.take_length,hlen,YN,Z9,Y5]at s1;rw[hlen]
     rwa [show min (rec.length-j) (rec.length-j)=rec.length-j from by omega]at s1
   ·exact h.elim
 | .pt r j::cs,ps,k,ls,out,hc,h=>by
   obtain⟨v,vs,rfl,⟨b,off,h0,rfl⟩,h2⟩:=hc;simp only[ff,Rd.Runs]at h;obtain⟨ls',rfl,h⟩:=h;split at h
   ·split at h
    ·obtain⟨rec,S1,ls2,e1,e2,e3,h⟩:=kh hS _ _ _ _ _ h;obtain⟨recs,S,ls3,e4,e5⟩:=iJ hS cs vs _ _ _ h2 h;obtain⟨cur,ty,f1,f2,f3⟩:=AW hS h0 e3;refine⟨rec::recs,(b::S1)++S,ls3,?_,e5⟩;simp only[hP];refine⟨_,_,_,S,rfl,⟨b,off+j,cur,ty,(0,0),S1,rfl,f1,?_,?_,rfl⟩,e4,rfl⟩
     ·have:=f2 Uc;omega
     ·rw[e1,f3];exact e2
    ·exact h.elim
   ·exact h.elim
def BP (hS:av cx G g a w){ti:Option TI}{x:Operand}{α:Type}{k:DV->Rd α}{ls:List Loc}{out:α}(h:(FT ti x k).Runs g ls out):
 ∃ d S ls',mG w d (a.eval x) S/\(k d).Runs g ls' out:=by
 obtain⟨x0,ls',hx,h⟩:=bu hS h;cases x0 with
 | pt r j=>
   cases ti with
   |none=>exact h.elim
   | some ti=>
     simp only at h;split at h
     ·rename_i hpos;obtain⟨b,off,h0,h1⟩:=hx;obtain⟨rec,S,ls2,e1,e2,e3,h⟩:=kh hS _ _ _ _ _ h;obtain⟨cur,ty,f1,f2,f3⟩:=AW hS h0 e3;refine⟨.ptr rec,_,ls2,⟨b,off+j,cur,ty,(0,0),S,h1,f1,?_,?_,rfl⟩,h⟩
      ·have:=f2 hpos;omega
      ·rw[e1,f3];exact e2
     ·exact h.elim
 | rp rec j=>
   cases ti with
   |none=>exact h.elim
   | some ti=>
     simp only at h;split at h
     ·rename_i hj;obtain⟨b,off,cur,ty,fz,S',f1,f2,f3,f4,f5,f6⟩:=hx;obtain⟨S1,s1,s2⟩:=f5.sub j ti.zero.length;refine⟨.ptr _,_,ls',⟨b,off+j,cur,ty,fz,S1,f1,f2,?_,?_,rfl⟩,h⟩
      ·simp;omega
      ·rw[YN,Z9,Y5]at s1;rw[show((rec.drop j).take ti.zero.length).length=ti.zero.length from by simp;omega];rw[show min ti.zero.length (rec.length-j)=ti.zero.length from by omega]at s1;exact s1
     ·exact h.elim
 | fn f caps=>
   obtain⟨ps,e,hc⟩:=hx;obtain⟨recs,S,ls2,e1,h⟩:=iJ hS _ _ _ _ _ hc h;exact⟨.fn f recs,S,ls2,⟨ps,e,e1⟩,h⟩
 |_=>exact h.elim
def BM (hS:av cx G g a w){t:TypeId}{x:Operand}{α:Type}{k:DV->Rd α}{ls:List Loc}{out:α}(h:(BL P t x k).Runs g ls out):
 ∃ d S ls',mG w d (a.eval x) S/\(k d).Runs g ls' out:=by
 unfold BL at h;cases hti:kz P t with
 |none=>simp only[hti]at h;exact BP hS h
 | some ti=>
   simp only[hti]at h;obtain⟨r,ls1,hr,h⟩:=dh hS h;cases r with
   | one x0=>
     simp only[cK]at hr;simp only at h;split at h
     ·simp[Rd.Runs]at h
     ·obtain⟨l,S,ls2,k1,h⟩:=ng hS _ [x0] [a.eval x] (by simp[bQ,hr]) _ _ _ h;split at h
      ·rename_i l0;simp only[aj]at k1;obtain⟨v,vs',S1,S2,e1,k2,⟨e2,e3⟩,e4⟩:=k1;cases e1;exact⟨.one l0,S1,ls2,k2,h⟩
      ·simp[Rd.Runs]at h
   | agg as=>
     simp only[cK]at hr;obtain⟨vs,e,hr⟩:=hr;simp only at h;split at h
     ·obtain⟨l,S,ls2,k1,h⟩:=ng hS _ as vs hr _ _ _ h;exact⟨.agg l,S,ls2,⟨vs,e,k1⟩,h⟩
     ·simp[Rd.Runs]at h
   |tup rs=>simp[Rd.Runs]at h
def kC (hS:av cx G g a w){α:Type}:∀ (ts:List TypeId) (xs:List Operand) (k:List DV->Rd α) (ls:List Loc) (out:α),(pO P ts xs k).Runs g ls out->
 ∃ ds ls',dz (fun _=>True) w ds (xs.map a.eval)/\(k ds).Runs g ls' out
 |[],[],k,ls,out,h=>⟨[],ls,rfl,by simpa[pO]using h⟩
 |[],_::_,k,ls,out,h=>by simp[pO,Rd.Runs]at h
 |_::_,[],k,ls,out,h=>by simp[pO,Rd.Runs]at h
 | t::ts,x::xs,k,ls,out,h=>by
   simp only[pO]at h;obtain⟨d,S,ls2,k1,h⟩:=BM hS h;obtain⟨ds,ls3,k2,h⟩:=kC hS ts xs _ _ _ h;exact⟨d::ds,ls3,⟨_,_,S,rfl,k1,fun _ _=>trivial,k2⟩,h⟩
def bW.leaves:∀ {ds:List DV} {vs:List Value} {S:List Nat},bW w ds vs S->∃ lv,aj w (ds.flatMap bJ) lv S
 |[],vs,S,h=>by simp only[bW]at h;exact⟨[],by simp[aj,h.2]⟩
 | d::ds,vs,S,h=>by
   simp only[bW]at h;obtain⟨v,vs',S1,S2,rfl,h1,h2,rfl⟩:=h;obtain⟨lv,k⟩:=bW.leaves h2;simp only[Y6];cases d with
   |one l=>exact⟨v::lv,by simp only[bJ,WU,aj];exact⟨v,lv,S1,S2,rfl,h1,k,rfl⟩⟩
   |agg ls=>obtain⟨us,e,h1⟩:=h1;exact⟨us++lv,h1.append k⟩
   |_=>exact h1.elim
end
section
variable {P: Program} {o: Oper} {cx: Cx} {G: Gh} {g: Gm} {a: Act} {w: World}
def pH {γ:Nat->Nat->Option Hv}{d:Nat}:∀ (ls:ax) (j:Nat) (vs:List Value) (S:List Nat),aj w ls vs S->(∀ i l,ls[i]?=some l->∃ og,γ d (j+i)=some ⟨0,0,og,.own l⟩)->
 (∀ i v,vs[i]?=some v->G.val d (j+i)=v)->bQ γ G w (dE d j ls) vs
 |[],j,vs,S,h,_,_=>by simp only[aj]at h;simp[dE,bQ,h.1]
 | l::ls,j,vs,S,h,hg,hv=>by
   simp only[aj]at h;obtain⟨v,vs',S1,S2,rfl,h1,h2,rfl⟩:=h;have ih:=pH ls (j+1) vs' S2 h2 (fun i l' e=>by rw[show j+1+i=j+(i+1)from by omega];exact hg (i+1) l' (by simpa using e)) (fun i v' e=>by rw[show j+1+i=j+(i+1)from by omega];exact hv (i+1) v' (by simpa using e));obtain⟨og0,g0⟩:=hg 0 l (by simp);have v0:=hv 0 v (by simp);simp only[Yi]at g0 v0;cases l with
   |v y=>simp only[dE,bQ];simp only[bO]at h1;exact⟨v,vs',rfl,h1.1,ih⟩
   |g=>simp only[dE,bQ];exact⟨v,vs',rfl,trivial,ih⟩
   |m _ _=>simp only[dE,bQ];exact⟨v,vs',rfl,trivial,ih⟩
   | s sz es=>
     simp only[dE,bQ];refine⟨v,vs',rfl,⟨_,g0,Zf _,fun _ sz' es' e=>?_⟩,ih⟩;cases e;rw[v0];exact⟨Uc,dA.full h1⟩
def KF {γ:Nat->Nat->Option Hv}{d:Nat}{dv:DV}{j:Nat}{v:Value}{S:List Nat}(h:hH w dv v S)(hg:∀ i l,(bJ dv)[i]?=some l->∃ og,γ d (j+i)=some ⟨0,0,og,.own l⟩) 
 (hv:∀ lv,aj w (bJ dv) lv S->(∀ dl,dv=.one dl->lv=[v])->(∀ dls,dv=.agg dls->v=.agg lv.toArray)->∀ i u,lv[i]?=some u->G.val d (j+i)=u):cK γ G w (CQ d j dv) v:=by
 cases dv with
 | one l=>
   have h':aj w [l] [v] S:=by simp only[aj];exact⟨v,[],S,[],rfl,h,⟨rfl,rfl⟩,by simp⟩
   have:=pH (G:=G) (γ:=γ) (d:=d) [l] j [v] S h' (by simpa[bJ]using hg) (hv [v] (by simpa[bJ]using h') (fun _ _=>rfl) (fun _ e=>by cases e));unfold CQ;cases l<;>simp only[dE,bQ]at this ⊢ <;>simp only[cK]<;>(obtain⟨v',vs',e,h1,_⟩:=this;cases e;exact h1)
 | agg ls=>
   obtain⟨us,e,h'⟩:=h;have:=pH (G:=G) (γ:=γ) (d:=d) ls j us S h' (by simpa[bJ]using hg) (hv us (by simpa[bJ]using h') (fun _ e=>by cases e) (fun _ e'=>by cases e';exact e));simp only[CQ,cK];exact⟨us,e,this⟩
 |_=>exact h.elim
def xU (w:World):List DV->List Value->List Value->List Nat->Prop
 |[],vs,lv,S=>vs=[]/\lv=[]/\S=[]
 |d::ds,vs,lv,S=>∃ v vs' l1 l2 S1 S2,vs=v::vs'/\lv=l1++l2/\S=S1++S2/\hH w d v S1/\aj w (bJ d) l1 S1/\(∀ dl,d=.one dl->l1=[v])/\(∀ dls,d=.agg dls->v=.agg l1.toArray)/\xU w ds vs' l2 S2
def bW.lv:∀ {ds:List DV} {vs:List Value} {S:List Nat},bW w ds vs S->∃ lv,xU w ds vs lv S
 |[],vs,S,h=>by simp only[bW]at h;exact⟨[],h.1,rfl,h.2⟩
 | d::ds,vs,S,h=>by
   simp only[bW]at h;obtain⟨v,vs',S1,S2,rfl,h1,h2,rfl⟩:=h;obtain⟨lv,k⟩:=bW.lv h2;cases d with
   |one l=>exact⟨[v]++lv,v,vs',[v],lv,S1,S2,rfl,rfl,rfl,h1,by simp only[bJ,aj];exact⟨v,[],S1,[],rfl,h1,⟨rfl,rfl⟩,by simp⟩,fun _ _=>rfl,(fun _ e=>by cases e),k⟩
   | agg ls=>
     obtain⟨us,e,h1'⟩:=h1;exact⟨us++lv,v,vs',us,lv,S1,S2,rfl,rfl,rfl,⟨us,e,h1'⟩,h1',(fun _ e=>by cases e),(fun _ e'=>by cases e';exact e),k⟩
   |_=>exact h1.elim
def xU.rec_ :∀ {ds:List DV} {vs lv:List Value} {S:List Nat},xU w ds vs lv S->aj w (ds.flatMap bJ) lv S
 |[],vs,lv,S,h=>by obtain⟨rfl,rfl,rfl⟩:=h;simp[aj]
 | d::ds,vs,lv,S,h=>by
   obtain⟨v,vs',l1,l2,S1,S2,rfl,rfl,rfl,h1,h2,_,_,h3⟩:=h;simp only[Y6];exact h2.append h3.rec_
def nU {γ:Nat->Nat->Option Hv}{d:Nat}:∀ (ds:List DV) (j:Nat) (vs lv:List Value) (S:List Nat),xU w ds vs lv S->(∀ i l,(ds.flatMap bJ)[i]?=some l->∃ og,γ d (j+i)=some ⟨0,0,og,.own l⟩)->
 (∀ i v,lv[i]?=some v->G.val d (j+i)=v)->hZ γ G w (kn d j ds) vs
 |[],j,vs,lv,S,h,_,_=>by obtain⟨rfl,_,_⟩:=h;simp[kn,hZ]
 | dv::ds,j,vs,lv,S,h,hg,hv=>by
   obtain⟨v,vs',l1,l2,S1,S2,rfl,rfl,rfl,h1,h2,h3,h4,h5⟩:=h;have hlen:=h2.length;simp only[kn,hZ];refine⟨v,vs',rfl,?_,?_⟩
   ·refine KF h1 (fun i l e=>hg i l ?_) (fun lv' q1 q2 q3 i u e=>hv i u ?_)
    ·simp only[Y6];rw[ZN (ZB.1 e).1];exact e
    ·have:lv'=l1:=by
      cases dv with
      |one l=>rw[q2 l rfl,h3 l rfl]
      |agg ls=>have e1:=q3 ls rfl;rw[h4 ls rfl]at e1;simpa using e1.symm
      |_=>exact h1.elim
     subst this;rw[ZN (ZB.1 e).1];exact e
   ·refine nU ds _ vs' l2 S2 h5 (fun i l e=>?_) (fun i u e=>?_)
    ·have:=hg ((bJ dv).length+i) l (by simp only[Y6];rw[ZM Uc];simpa using e);rw[show j+(bJ dv).length+i=j+((bJ dv).length+i)from by omega];exact this
    ·have:=hv (l1.length+i) u (by rw[ZM Uc];simpa using e);rw[hlen]at this;rw[<-this];congr 1;omega
variable {ls: List Loc} {K: Act -> World -> Prop} {Q: Exit -> Act -> World -> Prop}
def d6 {f:FuncId}(h:da P f=true)(args:Array Value):(callFunc f args).run P w=.ok (.enter f args) w:=by
 unfold da at h;cases hf:P.funcs[f]? with
 |none=>simp[hf]at h
 | some fn=>
   simp only[hf,Zb,bne_iff_ne,ne_eq]at h;cases hb:fn.body with
   |none=>simp[hb]at h
   |some c=>simp[callFunc,hf,hb,h.2]
def xd (hS:av cx G g a w){d:Nat}(hlt:d<cx.n)(hm:g (.meta_ d)=none){res:List DV}{v:Value}{S:List Nat}{w':World}(hres:gd w' res v S)(hnd:S.Nodup)(hfr:∀ b∈S,w.heap.size<=b/\ed w' b)(hsame:Same (fun _=>True) w w'):
 d5 cx (bh g (dt d res)) (a.put (some d) v) w':=by
 obtain⟨vs,lv,hlv,hv⟩:∃ vs lv,xU w' res vs lv S/\((∃ dv,res=[dv]/\vs=[v])\/v=.tuple vs.toArray/\∀ dv,res≠[dv]):=by
  cases res with
  |nil=>obtain⟨vs,e,h2⟩:=hres;obtain⟨lv,k⟩:=bW.lv h2;exact⟨vs,lv,k,.inr ⟨e,fun dv e=>by cases e⟩⟩
  | cons d1 rest=>
    cases rest with
    | nil=>
      have h2:bW w' [d1] [v] S:=by simp only[bW];exact⟨v,[],S,[],rfl,hres,⟨rfl,rfl⟩,by simp⟩
      obtain⟨lv,k⟩:=bW.lv h2;exact⟨[v],lv,k,.inl ⟨d1,rfl,rfl⟩⟩
    |cons d2 rest=>obtain⟨vs,e,h2⟩:=hres;obtain⟨lv,k⟩:=bW.lv h2;exact⟨vs,lv,k,.inr ⟨e,fun dv e=>by cases e⟩⟩
 have hrec:=hlv.rec_;obtain⟨Ss,s1,s2,s3⟩:=hrec.items;rw[<-s1]at hnd;obtain⟨G',k1,k2,_,_⟩:=hS.newRoot hm false ((res.flatMap bJ).map fun l=>⟨0,0,none,.own l⟩) w' hsame (fun j=>lv.getD j undef) (fun j=>Ss.getD j [])
  (by
    intro j h hj;simp only[ZC,Zy]at hj;obtain⟨l,e1,rfl⟩:=hj;obtain⟨u,q1,q2⟩:=s3 j l e1;simp only[Dm];refine⟨by simpa[ZE,q1]using q2,iG hnd j,fun b hb=>?_⟩;have:=hfr b (by rw[<-s1];exact fu hb);exact⟨this.2,.inl this.1⟩)
  (by
    intro j h hj;simp only[ZC,Zy]at hj;obtain⟨l,e1,rfl⟩:=hj;exact eJ.none)
  (fun i j _ _ hij=>ft hnd i j hij) 0 0 (by simp)
 simp only[dt,bh];refine⟨G',k1.put hlt ?_⟩;have hgl:∀ i l,(res.flatMap bJ)[i]?=some l->gl ((W.root d false ((res.flatMap bJ).map fun l=>⟨0,0,none,.own l⟩)).app g) d (0+i)=some ⟨0,0,none,.own l⟩:=by
  intro i l e;simp[gl,W.app,e]
 have hval:∀ i u,lv[i]?=some u->G'.val d (0+i)=u:=by
  intro i u e;rw[k2,ZP];simp[ZE,e]
 have hall:=nU (G:=G') res 0 vs lv S hlv (fun i l e=>⟨none,hgl i l e⟩) hval;rcases hv with⟨dv,rfl,rfl⟩|⟨rfl,hne⟩
 ·simp only[gY];simp only[kn,hZ]at hall;obtain⟨v',vs',e,h1,_⟩:=hall;cases e;exact h1
 ·have:gY d res=.tup (kn d 0 res):=by
   unfold gY;split;exact absurd rfl (hne _);rfl
  rw[this];simp only[cK];exact⟨vs,rfl,hall⟩
def Bf {f:FuncId}{ts:Array TypeId}{args:Array Operand}(ho:o.op=.call {callee:=.value (.func f),args:=args,argTypes:=ts})(hS:av cx G g a w) 
 {ds:List DV} {mk:List DV->List W} (h:(xN P cx.n o.dst f ts args).Runs g ls (.call f ds mk)) {res:List DV} (hc:FI P f ds res)
 (hk:∀ a' w',d5 cx (bh g (mk res)) a' w'->K a' w'):o.wp P a w K Q:=by
 unfold xN at h;split at h
 ·rename_i hbody;obtain⟨ds',ls1,hargs,h⟩:=kC hS _ _ _ _ _ h;obtain⟨d,ls2,hd,hlt,hm,h⟩:=cJ h;simp only[Rd.Runs,Out.call.injEq]at h;obtain⟨_,_,rfl,rfl⟩:=h;have hex:(execOp a.eval o).run P w=.ok (.enter f (args.map a.eval)) w:=by
   unfold execOp;simp only[ho,resolve,Z1,Y7,ZL,Ye,ZY,invoke,Y8,Xt];exact d6 hbody _
  unfold YE;rw[hex];simp only[Y4];have hcall:=hc w (args.toList.map a.eval) hargs;have harr:(args.toList.map a.eval).toArray=args.map a.eval:=by rw[<-Yq,Yr]
  rw[harr]at hcall;refine hcall.mono ?_;rintro e w' ⟨v,S,rfl,hres,hnd,hfr,hsame⟩;rw[hd];exact hk _ _ (xd hS hlt hm hres hnd hfr hsame)
 ·simp[Rd.Runs]at h
end
end Go.V
namespace Go.V
section
variable {P: Program} {o: Oper} {cx: Cx} {G: Gh} {g: Gm} {a: Act} {w: World} {ls: List Loc} {ws: List W} {K: Act -> World -> Prop} {Q: Exit -> Act -> World -> Prop}
def sR {x:Operand}(ho:o.op=.move x\/o.op=.assign x):(execOp a.eval o).run P w=.ok (.value (a.eval x)) w:=by
 unfold execOp;rcases ho with h|h<;>rw[h]<;>rfl
def gg {x:Operand}{r:R}(ho:o.op=.move x\/o.op=.assign x)(hS:av cx G g a w)(hr:cK (gl g) G w r (a.eval x))(h:(bF cx.n o.dst r).Runs g ls (.ws ws)) 
 (hk:∀ a' w',d5 cx (bh g ws) a' w'->K a' w'):o.wp P a w K Q:=aT hS h hr (sR ho) hk
def xZ {x:Operand}(ho:o.op=.assign x)(hS:av cx G g a w)(h:(QI P cx.n o).Runs g ls (.ws ws)) 
 (hk:∀ a' w',d5 cx (bh g ws) a' w'->K a' w'):o.wp P a w K Q:=by
 unfold QI at h;simp only[ho]at h;obtain⟨r,ls1,hr,h⟩:=dh hS h;cases x with
 | tmp t=>
   cases r with
   | one y=>
     cases y with
     | vw r0 j ver lo m=>
       cases hdst:o.dst with
       |none=>simp only[hdst]at h;exact gg (.inr ho) hS hr (by rw[hdst];exact h) hk
       | some d=>
         simp only[hdst]at h;split at h
         ·rename_i hcond;obtain⟨hc1,hc2,hlt⟩:=hcond;simp only[Rd.Runs]at h;obtain⟨ls2,_,h⟩:=h;split at h
          ·obtain⟨hv,ls3,q1,q2,h⟩:=bD h;split at h
           ·rename_i sz es hcc horg;split at h
            ·rename_i hver;simp only[beq_iff_eq]at hver;simp only[Rd.Runs]at h;obtain⟨⟨h0,h1⟩,ls4,_,h⟩:=h;simp only[cK]at hr;obtain⟨h2,f1,f2,f3⟩:=hr;rw[q1]at f1;cases f1;obtain⟨f4,base,len,cap,base',cap',g1,g2,g3,g4,g5,g6⟩:=f3 hver sz es hcc;have hok:=hS.hok q1;simp only[dO,hcc]at hok;have hml:m=len:=by
              have hok1:=hok.1;simp only[bO]at hok1;obtain⟨b0,n0,c0,r1,r2,_⟩:=hok1;rw[g1]at r1;cases r1;omega
             have hval:=g5 h0 hml;have hS1:=hS.gone q2 none;have hgone:gl ((W.leaf r0 j ⟨hv.ver+1,hv.iv,none,.gone⟩).app g) r0 j=some ⟨hv.ver+1,hv.iv,none,.gone⟩:=by simp[gl,W.app]
             have hfree:∀ b∈G.fp r0 j,ed w b/\pd ((W.leaf r0 j ⟨hv.ver+1,hv.iv,none,.gone⟩).app g) G w b:=fun b hb=>by
              have:=hok.2.2 b hb;refine⟨this.2,.inr ⟨r0,j,this.1,fun h' l' z1 z2=>?_⟩⟩;rw[hgone]at z1;cases z1;cases z2
             refine cU (sR (.inr ho)) (hk _ _ ?_);rw[hdst];split at h
             ·rename_i hmd;simp only[Rd.Runs,Out.ws.injEq]at h;obtain⟨_,rfl⟩:=h;simp only[WU,bh];refine hS1.newSlice hlt (by simp[W.app,hmd]) w rfl rfl rfl (Zf _) (fun _ _ _=>rfl) sz es _ (G.fp r0 j) (by rw[hval];exact hok.1) hok.2.1 hfree
             ·rename_i hmd;obtain⟨hv2,ls5,p1,p2,h⟩:=bD h;simp only[Rd.Runs,Out.ws.injEq]at h;obtain⟨_,rfl⟩:=h;have hne:¬ (d=r0/\0=j):=fun e=>hc2 e.1.symm
              have p3:(W.leaf r0 j ⟨hv.ver+1,hv.iv,none,.gone⟩).app g (.leaf d 0)=some (.h hv2):=by
               simp only[W.app];rw[VK (by intro e;cases e;exact hne ⟨rfl,rfl⟩)];exact p2
              obtain⟨G',s1,s2,s3,_⟩:=hS1.upd p3 ⟨hv2.ver+1,hv2.iv+1,none,.own (.s sz es)⟩ (G.val r0 j) (G.fp r0 j) w (.inl ⟨YH _,Wg _⟩) rfl rfl rfl (Zf _) (fun _ _ _ _=>rfl)
               (by
                 intro b off hl;obtain⟨k,hk'⟩:=hS.noloc d _ hl;rw[hmd]at hk';cases hk')
               (by
                 intro l hcl b hb;have:=hS1.hok (ap.2 p3);simp only[dO,hcl]at this;exact(this.2.2 b hb).2)
               (by simp only;exact⟨hok.1,hok.2.1,fun b hb=>⟨(hfree b hb).1,.inl (hfree b hb).2⟩⟩) eJ.none
              simp only[bh];refine⟨G',s1.put hlt ?_⟩;simp only[cK];have hg:gl ((W.leaf d 0 ⟨hv2.ver+1,hv2.iv+1,none,.own (.s sz es)⟩).app ((W.leaf r0 j ⟨hv.ver+1,hv.iv,none,.gone⟩).app g)) d 0=some ⟨hv2.ver+1,hv2.iv+1,none,.own (.s sz es)⟩:=by simp[gl,W.app]
              refine⟨_,hg,Zf _,fun _ sz' es' e=>?_⟩;cases e;rw[s3,VJ ⟨rfl,rfl⟩,hval];exact⟨Uc,dA.full hok.1⟩
             ·simp[Rd.Runs]at h
            ·simp[Rd.Runs]at h
           ·simp[Rd.Runs]at h
          ·simp[Rd.Runs]at h
         ·exact gg (.inr ho) hS hr (by rw[hdst];exact h) hk
     |_=>exact gg (.inr ho) hS hr h hk
   |_=>exact gg (.inr ho) hS hr h hk
 |_=>exact gg (.inr ho) hS hr h hk
def BU {x:A}{v:Value}(hx:gq (gl g) G w x v){α:Type}{k:Rd α}{out:α}(h:(Na x k).Runs g ls out):v.oneCell'=true/\∃ ls',k.Runs g ls' out:=by
 unfold Na at h;cases x with
 | v y=>
   have hv:v=y:=hx;subst hv;simp only at h;split at h
   ·exact⟨Ud,ls,h⟩
   ·simp[Rd.Runs]at h
 |nl=>have hv:v=.slice none 0 0:=hx;subst hv;exact⟨rfl,ls,h⟩
 |ro sz es=>obtain⟨S,h1,_⟩:=hx;exact⟨bO.one h1,ls,h⟩
 | vw r j ver lo m=>
   simp only at h;obtain⟨hv,ls2,q1,q2,h⟩:=bD h;split at h
   ·rename_i sz es hc;split at h
    ·rename_i hver;simp only[beq_iff_eq]at hver;obtain⟨h2,f1,f2,f3⟩:=hx;rw[q1]at f1;cases f1;obtain⟨f4,base,len,cap,base',cap',g1,g2,_⟩:=f3 hver sz es hc;rw[g2];exact⟨rfl,ls2,h⟩
    ·simp[Rd.Runs]at h
   ·simp[Rd.Runs]at h
 |_=>simp[Rd.Runs]at h
def qe (hS:av cx G g a w){α:Type}{k:Rd α}{out:α}:∀ (as:List A) (vs:List Value) (ls:List Loc),bQ (gl g) G w as vs->(uY as k).Runs g ls out->(∀ u∈vs,u.oneCell'=true)/\∃ ls',k.Runs g ls' out
 |[],vs,ls,hx,h=>by simp only[bQ]at hx;subst hx;exact⟨fun u hu=>(by cases hu),ls,by simpa[uY]using h⟩
 | x::as,vs,ls,hx,h=>by
   obtain⟨v,vs',rfl,h1,h2⟩:=hx;simp only[uY]at h;obtain⟨k1,ls2,h⟩:=BU h1 h;obtain⟨k2,ls3,h⟩:=qe hS as vs' ls2 h2 h;exact⟨fun u hu=>by rcases Zj.1 hu with rfl|hu;exact k1;exact k2 u hu,ls3,h⟩
def k9 (hS:av cx G g a w){bd:List (Nat×Nat)}{α:Type}:∀ (ps:List (Nat×Operand)) (as:List A) (vs:List Value) (k:List A->Rd α) (ls:List Loc) (out:α),bQ (gl g) G w as vs->(ia bd ps as k).Runs g ls out->
 ∃ as' vs' ls',bQ (gl g) G w as' vs'/\(k as').Runs g ls' out/\Xh (bd.toArray[·]?) vs.toArray (ps.map fun p=>(p.1,a.eval p.2))=some vs'.toArray
 |[],as,vs,k,ls,out,hx,h=>⟨as,vs,ls,hx,by simpa[ia]using h,rfl⟩
 | (i,x)::ps,as,vs,k,ls,out,hx,h=>by
  simp only[ia]at h;split at h
  ·simp[Rd.Runs]at h
  ·rename_i off m hbd;obtain⟨r,ls1,hr,h⟩:=dh hS h;cases hl:dr r with
   |none=>simp[hl,Rd.Runs]at h
   | some bs=>
     simp only[hl]at h;obtain⟨us,hus,hv⟩:=gW r bs _ hl hr;split at h
     ·rename_i hcond;obtain⟨c1,c2,c3⟩:=hcond;obtain⟨hone,ls2,h⟩:=qe hS _ _ _ hus h;have hlen:us.length=bs.length:=hus.length;have hlv:=hx.length;have hsp:bQ (gl g) G w (splice as off bs) (vs.take off++us++vs.drop (off+us.length)):=by
       unfold splice;rw[hlen];exact((hx.take_drop off).1.append hus).append (hx.take_drop _).2
      obtain⟨as',vs',ls3,k1,k2,k3⟩:=k9 hS ps _ _ _ _ _ hsp h;refine⟨as',vs',ls3,k1,k2,?_⟩;simp only[ZU,Xh];have hb2:bd.toArray[i]?=some (off,m):=by simpa using hbd
      have hc:=lp hv hone;rw[hb2];simp only[hc];rw[VK (by simp;omega)];have e1:Array.foldl (fun cs (x:Value×Nat)=>match x with|(c,j)=>cs.setIfInBounds (off+j) c) vs.toArray us.toArray.zipIdx=(vs.take off++us++vs.drop (off+us.length)).toArray:=by
       rw[<-Array.foldl_toList];have:=rR off us 0 vs.toArray (by simp;omega)
       simpa using this
      rw[e1];exact k3
     ·simp[Rd.Runs]at h
def qW {γ:Nat->Nat->Option Hv}:∀ {sl:List (Option Nat)} {xs:List Value} {zr:ax},mF sl xs=some zr->bQ γ G w (zr.map IH) xs
 |[],[],zr,h=>by simp[mF]at h;subst h;simp[bQ]
 |none::sl,[],zr,h=>by simp[mF]at h
 |some sz::sl,[],zr,h=>by simp[mF]at h
 |[],v::xs,zr,h=>by simp[mF]at h
 | none::sl,v::xs,zr,h=>by
   simp only[mF]at h;split at h
   ·simp only[Zy]at h;obtain⟨zr',h1,rfl⟩:=h;exact⟨v,xs,rfl,rfl,qW h1⟩
   ·cases h
 | some sz::sl,v::xs,zr,h=>by
   unfold mF at h;split at h
   ·rename_i e1 e2;cases e1
   ·rename_i e1 e2;cases e1
   ·rename_i sz' ss xs' e1 e2;cases e1;cases e2;simp only[Zy]at h;obtain⟨zr',h1,rfl⟩:=h;exact⟨_,xs,rfl,rfl,qW h1⟩
   ·rename_i sz' ss xs' e1 e2;cases e1;cases e2;simp only[Zy]at h;obtain⟨zr',h1,rfl⟩:=h;exact⟨_,xs,rfl,trivial,qW h1⟩
   ·cases h
def CK {fs:Array Field}{bd:List (Nat×Nat)}(h:fs.toList.mapM (fun f=>(P.info? f.type).map fun i=>(f.offset,i.size))=some bd)(w:World):
 (fs.mapM fun f=>do pure (f.offset, <-sizeOf f.type):Sem (Array (Nat×Nat))).run P w=.ok bd.toArray w:=by
 rw[Array.mapM_eq_mapM_toList];have key:∀ (l:List Field) (bd:List (Nat×Nat)),l.mapM (fun f=>(P.info? f.type).map fun i=>(f.offset,i.size))=some bd->(l.mapM fun f=>do pure (f.offset, <-sizeOf f.type):Sem (List (Nat×Nat))).run P w=.ok bd w:=by
  intro l
  induction l with
  |nil=>intro bd h;simp at h;subst h;rfl
  | cons f l ih=>
    intro bd h;simp only[Wm]at h ⊢;cases hf:P.info? f.type with
    |none=>simp[hf]at h
    | some i=>
      cases hl:l.mapM (fun f=>(P.info? f.type).map fun i=>(f.offset,i.size))with
      |none=>simp[hf,hl]at h
      | some bd'=>
        simp[hf,hl]at h;subst h;simp only[ZL,Ye,run_sizeOf hf,ZY,ih bd' hl]
 simp only[Sem.run_map,key _ _ h,ZY]
def zo {t:TypeId}{parts:Array (Nat×Operand)}(ho:o.op=.build t parts)(hS:av cx G g a w)(h:(wj P cx.n o.dst t parts).Runs g ls (.ws ws)) 
 (hk:∀ a' w',d5 cx (bh g ws) a' w'->K a' w'):o.wp P a w K Q:=by
 unfold wj at h;split at h
 ·rename_i ti bd hti hbd;obtain⟨i,z,e1,e2,e3,e4,e5⟩:=eB hti;obtain⟨as,vs,ls2,k1,k2,k3⟩:=k9 hS _ _ _ _ _ _ (qW e4) h;refine aT hS k2 (v:=.agg vs.toArray) (by simp only[cK];exact⟨vs,rfl,k1⟩) ?_ hk;unfold bdI at hbd;split at hbd
  ·rename_i fs hfs;unfold execOp;have hp:=CK hbd w;have k3':Xh (fun x=>bd.toArray[x]?) z.cells (parts.map fun x=>(x.1,a.eval x.2)).toList=some vs.toArray:=by simpa using k3
   simp only[ho,Instr.build,zeroValue,typeInfo,ZL,run_program,ZY,e1,Ye,e2,run_underlying hfs,hp,k3']
  ·cases hbd
 ·simp[Rd.Runs]at h
def mb (hS:av cx G g a w){α:Type}:∀ (xs:List Operand) (k:List Value->Rd α) (ls:List Loc) (out:α),(nE xs k).Runs g ls out->∃ ls',(k (xs.map a.eval)).Runs g ls' out
 |[],k,ls,out,h=>⟨ls,by simpa[nE]using h⟩
 | x::xs,k,ls,out,h=>by
   simp only[nE]at h;obtain⟨y,ls1,hy,h⟩:=bu hS h;split at h
   ·rename_i v;have hv:a.eval x=v:=hy;obtain⟨ls2,h⟩:=mb hS xs _ _ _ h;exact⟨ls2,by simpa[hv]using h⟩
   ·simp[Rd.Runs]at h
def vE {isMax:Bool}{vs:List Value}{v:Value}(h:rW isMax vs=some v)(ats:Array TypeId)(ty:TypeId):
 ((if isMax then WV ats ty vs.toArray else WW ats ty vs.toArray)).run P w=.ok v w:=by
 unfold rW at h;split at h
 ·rename_i k x k' y;split at h
  ·rename_i hk;subst hk;cases h;cases isMax<;>simp[WV,WW,VA,VB]
  ·cases h
 ·cases h
def Cq {x:A}{v:Value}(hx:gq (gl g) G w x v){α:Type}{k:Nat->Rd α}{out:α}(h:(Kb x k).Runs g ls out):
 ∃ base n cap ls',v=.slice base n cap/\(k n).Runs g ls' out:=by
 unfold Kb at h;cases x with
 |nl=>have hv:v=.slice none 0 0:=hx;exact⟨none,0,0,ls,hv,h⟩
 | ro sz es=>
   obtain⟨S,h1,_⟩:=hx;simp only[bO]at h1;obtain⟨base,len,cap,q1,q2,_⟩:=h1;exact⟨base,es.length,cap,ls,by rw[q1,q2],h⟩
 | vw r j ver lo m=>
   simp only at h;obtain⟨hv,ls2,q1,q2,h⟩:=bD h;split at h
   ·rename_i sz es hc;split at h
    ·rename_i hver;simp only[beq_iff_eq]at hver;obtain⟨h2,f1,f2,f3⟩:=hx;rw[q1]at f1;cases f1;obtain⟨f4,base,len,cap,base',cap',g1,g2,_⟩:=f3 hver sz es hc;exact⟨base',m,cap',ls2,g2,h⟩
    ·simp[Rd.Runs]at h
   ·simp[Rd.Runs]at h
 | vn r j ver iv p lo m=>
   simp only at h;obtain⟨hv,ls2,q1,q2,h⟩:=bD h;split at h
   ·rename_i l hc;split at h
    ·rename_i hgood;split at h
     ·rename_i rec j0 hg;split at h
      ·rename_i sz es hrec;obtain⟨h2,f1,f2,f2',fne,f3⟩:=hx;rw[q1]at f1;cases f1;obtain⟨bb,oo,hvv,f4,f5,f6,base,len,cap,base',cap',g1,g2,_⟩:=f3 hgood l rec j0 sz es hc hg hrec;exact⟨base',m,cap',ls2,g2,h⟩
      ·simp[Rd.Runs]at h
     ·simp[Rd.Runs]at h
    ·simp[Rd.Runs]at h
   ·simp[Rd.Runs]at h
 |_=>simp[Rd.Runs]at h
def Kd {t:TypeId}{x:Operand}(hty:nI P t=true)(ho:o.op=.call {callee:=.builtin .len,args:= #[x],argTypes:= #[t]}){base:Option Addr}{n cap:Nat}(hx:a.eval x=.slice base n cap):
 (execOp a.eval o).run P w=.ok (.value (.int Za n)) w:=by
 unfold nI at hty;split at hty
 ·rename_i e he;unfold execOp;simp[ho,resolve,invoke,builtin,VC,hx,run_underlying he,goInt]
 ·cases hty
def FV {xs:Array Operand}{x:Operand}(h:xs.toList=[x]):xs= #[x]:=by cases xs;simp_all
def FW {xs:Array Operand}{x y:Operand}(h:xs.toList=[x,y]):xs= #[x,y]:=by cases xs;simp_all
def Fq {xs:Array TypeId}{x:TypeId}(h:xs.toList=[x]):xs= #[x]:=by cases xs;simp_all
def Fs {xs:Array TypeId}{x y:TypeId}(h:xs.toList=[x,y]):xs= #[x,y]:=by cases xs;simp_all
def ny (hS:av cx G g a w){α:Type}:∀ (xs:List Operand) (k:List BA->Rd α) (ls:List Loc) (out:α),(Ah xs k).Runs g ls out->∃ cs ls',dH G w cs (xs.map a.eval)/\(k cs).Runs g ls' out
 |[],k,ls,out,h=>⟨[],ls,rfl,h⟩
 | x::xs,k,ls,out,h=>by
   obtain⟨x0,ls1,hx,h⟩:=bu hS h;cases x0 with
   |pt r j=>obtain⟨cs,ls2,h1,h2⟩:=ny hS xs _ _ _ h;exact⟨.pt r j::cs,ls2,⟨_,_,rfl,hx,h1⟩,h2⟩
   |rp rec j=>obtain⟨cs,ls2,h1,h2⟩:=ny hS xs _ _ _ h;exact⟨.rp rec j::cs,ls2,⟨_,_,rfl,hx,h1⟩,h2⟩
   |_=>exact h.elim
def Fz (hS:av cx G g a w)(h:(QI P cx.n o).Runs g ls (.ws ws))(hk:∀ a' w',d5 cx (bh g ws) a' w'->K a' w'):o.wp P a w K Q:=by
 have h0:=h;unfold QI at h;split at h
 ·rename_i x ho;obtain⟨r,ls1,hr,h⟩:=dh hS h;exact gg (.inl ho) hS hr h hk
 ·rename_i x ho;exact xZ ho hS h0 hk
 ·rename_i c x y ho;obtain⟨b,ls1,hb,h⟩:=qk hS h;obtain⟨x0,ls2,hx,h⟩:=bu hS h;obtain⟨y0,ls3,hy,h⟩:=bu hS h;have run:(execOp a.eval o).run P w=.ok (.value (if b then a.eval x else a.eval y)) w:=by
   unfold execOp;simp[ho,hb,asBool]
  have fin:∀ v,(bF cx.n o.dst (.one (.v v))).Runs g ls3 (.ws ws)->v=(if b then a.eval x else a.eval y)->o.wp P a w K Q:=by
   intro v hv e;exact aT hS hv (v:=v) (by simp[cK,gq]) (by rw[e];exact run) hk
  have core:∀ u v,x0=.v u->y0=.v v->o.wp P a w K Q:=by
   rintro u v rfl rfl;have hx':a.eval x=u:=hx;have hy':a.eval y=v:=hy;simp only at h;split at h
   ·exact fin _ h (by rw[hx',hy'];cases b<;>rfl)
   ·simp only[Rd.Runs]at h;rcases h with⟨_,h⟩|⟨e,h⟩;exact h.elim;exact fin _ h (by rw[hy',e];rfl)
   ·simp only[Rd.Runs]at h;rcases h with⟨e,h⟩|⟨_,h⟩;exact fin _ h (by rw[hx',e];rfl);exact h.elim
   ·simp[Rd.Runs]at h
  cases x0 with
  | v u=>cases y0 with
    |v v=>exact core u v rfl rfl
    |_=>simp[Rd.Runs]at h
  |_=>simp[Rd.Runs]at h
 ·rename_i t ho;exact zf ho hS h hk
 ·rename_i t x ho;exact C8 ho hS h hk
 ·rename_i t ps ho;exact zo ho hS h hk
 ·rename_i t n ps ho;exact qQ ho hS h hk
 ·rename_i t x ho;exact Bj ho cx.n cx rfl G g a w ls ws hS h K Q hk
 ·rename_i t x y ho;split at h
  ·rename_i hd;exact qV ho hd hS h hk
  ·simp[Rd.Runs]at h
 ·rename_i s x f ho;exact sH ho hS h hk
 ·rename_i t x i ho;exact sI ho hS h hk
 ·rename_i x ho;obtain⟨x0,ls1,hx,h⟩:=bu hS h;have run:∀ b off,a.eval x=.pointer (some ⟨b,off,none⟩)->(execOp a.eval o).run P w=.ok (.value (a.eval x)) w:=by
   intro b off e;unfold execOp;simp[ho,e]
  cases x0 with
  |pt r j=>obtain⟨b,off,e1,e2⟩:=hx;exact aT hS h (by simp only[cK];exact⟨b,off,e1,e2⟩) (run _ _ e2) hk
  |rp rec j=>obtain⟨b,off,cur,ty,fz,S,e1,e2⟩:=hx;exact aT hS h (by simp only[cK];exact⟨b,off,cur,ty,fz,S,e1,e2⟩) (run _ _ e1) hk
  |_=>simp[Rd.Runs]at h
 ·rename_i op t x y t' ho;exact A7 ho hS h hk
 ·rename_i op t x ho;exact Fy ho hS h hk
 ·rename_i src dst x ho;obtain⟨kd,n,ls1,hx,h⟩:=dY hS h;split at h
  ·rename_i k0 k hik0 hik;unfold GZ at hik hik0;split at hik
   ·rename_i k' hu;cases hik;split at hik0
    ·rename_i k'' hu0;refine aT hS h (v:=.int k (k.wrap n)) (by simp[cK,gq]) ?_ hk;unfold execOp;simp[ho,hx,convert,run_underlying hu0,run_underlying hu,Conv.intToInt]
    ·cases hik0
   ·cases hik
  ·simp[Rd.Runs]at h
 ·rename_i t l c ho;exact Bm ho hS h hk
 ·rename_i t x lo hi mx ho;exact qT ho hS h hk
 ·rename_i fn first captured ho;split at h
  ·rename_i f he;obtain⟨cs,ls1,hc,h⟩:=ny hS _ _ _ _ h;have hfirst:first= #[]:=by cases first;simp_all
   refine aT hS h (v:=.func (.func f) #[] (captured.map a.eval)) (by simp only[cK];exact⟨captured.toList.map a.eval,by rw[<-Yq,Yr],hc⟩) ?_ hk;unfold execOp;simp[ho,Instr.makeFunc,hfirst]
  ·exact h.elim
 ·rename_i x i ho;obtain⟨r,ls1,hr,h⟩:=dh hS h;split at h
  ·rename_i rs;split at h
   ·rename_i r0 hr0;simp only[cK]at hr;obtain⟨vs,e,hr⟩:=hr;have key:∀ (rs:List R) (vs:List Value),hZ (gl g) G w rs vs->∀ (i:Nat) (r0:R),rs[i]?=some r0->∃ v,vs[i]?=some v/\cK (gl g) G w r0 v:=by
     intro rs
     induction rs with
     |nil=>intro vs _ i r0 e;simp at e
     | cons x xs ih=>
       intro vs hx i r0 e;simp only[hZ]at hx;obtain⟨v,vs',rfl,h1,h2⟩:=hx;cases i with
       |zero=>simp at e;subst e;exact⟨v,rfl,h1⟩
       |succ i=>simp at e;obtain⟨v',q1,q2⟩:=ih vs' h2 i r0 e;exact⟨v',by simpa using q1,q2⟩
    obtain⟨v,hv,hok⟩:=key rs vs hr i r0 hr0;refine aT hS h hok ?_ hk;unfold execOp;simp[ho,e,Instr.extract,hv]
   ·simp[Rd.Runs]at h
  ·simp[Rd.Runs]at h
 ·rename_i c ho;obtain⟨callee,args,argTypes⟩:=c;simp only at h;split at h
  ·split at h
   ·rename_i x t e1 e2;obtain rfl:=FV e1;obtain rfl:=Fq e2;split at h
    ·rename_i hty;obtain⟨x0,ls1,hx,h⟩:=bu hS h;obtain⟨base,n,cap,ls2,hv,h⟩:=Cq hx h;exact aT hS h (v:=.int Za n) (by simp[cK,gq]) (Kd hty ho hv) hk
    ·simp[Rd.Runs]at h
   ·simp[Rd.Runs]at h
  ·split at h
   ·rename_i s x t t' e1 e2;obtain rfl:=FW e1;obtain rfl:=Fs e2;exact wi ho hS h hk
   ·simp[Rd.Runs]at h
  ·obtain⟨ls1,h⟩:=mb hS _ _ _ _ h;split at h
   ·rename_i v hv;refine aT hS h (v:=v) (by simp[cK,gq]) ?_ hk;have:=vE (P:=P) (w:=w) hv argTypes o.type;unfold execOp;simp only[Yj,if_false]at this;have e:(args.toList.map a.eval).toArray=args.map a.eval:=by rw[<-Yq,Yr]
    rw[e]at this;simp[ho,resolve,invoke,builtin,this]
   ·simp[Rd.Runs]at h
  ·obtain⟨ls1,h⟩:=mb hS _ _ _ _ h;split at h
   ·rename_i v hv;refine aT hS h (v:=v) (by simp[cK,gq]) ?_ hk;have:=vE (P:=P) (w:=w) hv argTypes o.type;unfold execOp;simp only[if_true]at this;have e:(args.toList.map a.eval).toArray=args.map a.eval:=by rw[<-Yq,Yr]
    rw[e]at this;simp[ho,resolve,invoke,builtin,this]
   ·simp[Rd.Runs]at h
  ·unfold xN at h;split at h
   ·obtain⟨ds,ls2,_,h⟩:=kC hS _ _ _ _ _ h;obtain⟨d,ls3,_,_,_,h⟩:=cJ h;simp only[Rd.Runs]at h;cases h.2
   ·simp[Rd.Runs]at h
  ·simp[Rd.Runs]at h
 ·simp[Rd.Runs]at h
end
end Go.V
namespace Go.V
abbrev VS :=List W
def get:VS->Gm
 |[]=>fun _=>none
 |x::σ=>x.app (get σ)
def push (σ:VS):List W->VS
 |[]=>σ
 |x::ws=>push (x::σ) ws
def Aw:∀ (ws:List W) (σ:VS),get (push σ ws)=bh (get σ) ws
 |[],σ=>rfl
 |x::ws,σ=>by simp only[push,bh];rw[Aw ws (x::σ)];rfl
def vq (all:Array Oper)(o:Oper):Rd Bool:=
 match o.guard with
 |none=>.ret true
 | some (j,want)=>match(all[j]?).bind (·.dst)with
   | some d=>Bw d fun r=>match r with
     | .one (.v (.bool b))=>.br b (.ret (true==want)) (.ret (false==want))
     | .one (.v (.tuple _))=>.ret false
     |_=>.fail
   |none=>.fail
def jk (o:Oper):Option (FuncId×Array TypeId×Array Operand):=
 match o.op with
 | .call c=>match c.callee with
   | .value (.func f)=>some (f,c.argTypes,c.args)
   |_=>none
 |_=>none
section
variable {P: Program} {cx: Cx} {a: Act} {w: World} {σ : VS}
def yr {G:Gh}{g:Gm}(hS:av cx G g a w){all:Array Oper}{o:Oper}{ls:List Loc}{b:Bool}(h:(vq all o).Runs g ls b):YI o (yielded all a.tmps)=b:=by
 unfold vq at h;unfold YI;cases hg:o.guard with
 |none=>simp only[hg,Rd.Runs]at h;exact h.2.symm
 | some jw=>
   obtain⟨j,want⟩:=jw;simp only[hg]at h;simp only;split at h
   ·rename_i d hd;obtain⟨r,ls',hr,hreg,h⟩:=lH hS h;have hlt:=(hS.reg d _ hreg).1;have ht:a.tmps[d]?=some (a.tmps.getD d undef):=by
     rw[<-hS.tm]at hlt;simp[Yw,hlt]
    split at h
    ·rename_i bb;simp only[cK,gq]at hr;have hy:yielded all a.tmps j=some bb:=by unfold yielded;rw[hd];simp only[YD,ht,hr]
     rw[hy];simp only[Rd.Runs]at h;rcases h with⟨rfl,_,rfl⟩|⟨rfl,_,rfl⟩<;>cases want<;>rfl
    ·simp only[cK,gq]at hr;have hy:yielded all a.tmps j=none:=by unfold yielded;rw[hd];simp only[YD,ht,hr]
     rw[hy];simp only[Rd.Runs]at h;rw[h.2];rfl
    ·simp[Rd.Runs]at h
   ·simp[Rd.Runs]at h
def nq {o:Oper}{f:FuncId}{ts:Array TypeId}{args:Array Operand}(h:jk o=some (f,ts,args)):o.op=.call {callee:=.value (.func f),args:=args,argTypes:=ts}:=by
 unfold jk at h;split at h
 ·rename_i c hc;obtain⟨callee,as,ats⟩:=c;simp only at h;split at h
  ·cases h;exact hc
  ·cases h
 ·cases h
end
end Go.V
namespace Go.V
inductive Ex where
 |normal
 |exit (id:Nat)
 |ret
def JD:Ex->Exit
 | .normal=>.normal
 | .exit i=>.exit i
 | .ret=>.ret
section
variable {P: Program} {cx: Cx}
def wp_loop_ghost {α:Type}{c:Code}{Q:Exit->Act->World->Prop}(I:α->Act->World->Prop)(μ:α->Nat){a:Act}{w:World}(s0:α)(h₀:I s0 a w) 
 (round:∀ s a w,I s a w->c.wp P (Exit.then (fun a' w'=>∃ s',I s' a' w'/\μ s'<μ s) Q) a w):(Code.loop c).wp P Q a w:=by
 intro b k cs;have key:∀ n s a w,μ s=n->I s a w->∃ e a' w',Q e a' w'/\Arrives P (lone (b.at a (.code c:: .inLoop c::k)) cs w) b k cs e a' w':=by
  intro n
  induction n using Nat.strongRecOn with
  | _ n ih=>
    intro s a w hn hI;obtain⟨e,a₁,w₁,hq,harr⟩:=round s a w hI b (.inLoop c::k) cs;cases e with
    | normal=>
      obtain⟨s',hI₁,hlt⟩:=hq;obtain⟨e₂,a₂,w₂,hq₂,harr₂⟩:=ih (μ s') (hn▸hlt) s' a₁ w₁ rfl hI₁;exact⟨e₂,a₂,w₂,hq₂,.of_steps (Steps.trans harr (.one step_inLoop)) harr₂⟩
    |exit id=>exact⟨_,a₁,w₁,hq,.pass (x:=.inLoop c) rfl (fun _ _=>.inl (by simp)) harr⟩
    |goto l=>exact⟨_,a₁,w₁,hq,.pass (x:=.inLoop c) rfl (fun _ _=>.inl (by simp)) harr⟩
    |ret=>exact⟨_,a₁,w₁,hq,.pass (x:=.inLoop c) rfl (fun _ _=>.inl (by simp)) harr⟩
    |panic ch=>exact⟨_,a₁,w₁,hq,.pass (x:=.inLoop c) rfl (fun _ _=>.inl (by simp)) harr⟩
    |outgrown=>exact⟨_,a₁,w₁,hq,.pass (x:=.inLoop c) rfl (fun _ _=>.inl (by simp)) harr⟩
 obtain⟨e,a',w',hq,harr⟩:=key _ s0 a w rfl h₀;exact⟨e,a',w',hq,.of_steps (.one step_loop) harr⟩
end
def lR:DV->R
 | .one l=>.one (roA l)
 | .agg ls=>.agg (ls.map roA)
 | .ptr rec=>.one (.rp rec 0)
 | .fn f caps=>.one (.fn f (caps.map fun rec=>.rp rec 0))
 | .mp _=>.one .un
def dM:Nat->List DV->VS
 |_,[]=>[]
 |p,d::ds=>.reg p (lR d)::dM (p+1) ds
def HR {α:Type}(P:Program)(t:TypeId)(rv:ResultVar)(k:DV->List (Nat×Nat)->Rd α):Rd α:=
 match kz P t with
 |none=>.fail
 | some ti=>
   let fin (as:List A):Rd α:=cR ti.slots as fun lts srcs=>if ti.agg then k (.agg (lts.map (·.1))) srcs else match lts with
    |[(l,_)]=>k (.one l) srcs
    |_=>.fail
   match rv with
   | .tmp x=>Bw x fun r=>match r with
     | .one a=>if ti.agg then .fail else fin [a]
     | .agg as=>if ti.agg then fin as else .fail
     | .tup _=>.fail
   | .cell x t'=>if t'==t then Bw x fun r=>match r with
     | .one (.pt r j)=>dT r j ti.zero.length fin
     |_=>.fail
     else .fail
def vR {α:Type}(P:Program):List TypeId->List ResultVar->(List DV->List (Nat×Nat)->Rd α)->Rd α
 |[],[],k=>k [] []
 |t::ts,rv::rvs,k=>HR P t rv fun d src=>vR P ts rvs fun ds srcs=>k (d::ds) (src++srcs)
 |_,_,_=>.fail
end Go.V
namespace Go.V
section
variable {P: Program} {cx: Cx} {G: Gh} {g: Gm} {a: Act} {w: World}
def nV (tmps:Array Value):ResultVar->Sem Value
 | .tmp t=>pure (tmps.getD t undef)
 | .cell x t=>do loadVar t (<-asAddr (tmps.getD x undef))
def pq (hS:av cx G g a w){ti:TI}{as:List A}{vs:List Value}(hx:bQ (gl g) G w as vs){α:Type}{k:DV->List (Nat×Nat)->Rd α}{ls:List Loc}{out:α} 
 (h:(cR ti.slots as fun lts srcs=>if ti.agg then k (.agg (lts.map (·.1))) srcs else match lts with
   |[(l,_)]=>k (.one l) srcs
   |_=>.fail).Runs g ls out):
 ∃ (d:DV) (srcs:List (Nat×Nat)) (Ss:List (List Nat)) (ls':List Loc),(if ti.agg then hH w d (.agg vs.toArray) Ss.flatten else∃ v,vs=[v]/\hH w d v Ss.flatten)/\(bz srcs=true->Ss.flatten.Nodup)/\(∀ b∈Ss.flatten,ed w b/\∃ r j,(r,j)∈srcs/\G.ow b=some (.leaf r j))/\(k d srcs).Runs g ls' out:=by
 obtain⟨lts,srcs,Ss,ls2,ht,hl,h⟩:=eF hS _ _ _ hx _ _ _ h;have tok:∀ {ls:List (L×Option Nat)} {srcs:List (Nat×Nat)} {vs:List Value} {Ss:List (List Nat)},Bu g G w ls srcs vs Ss->∀ b∈Ss.flatten,ed w b/\∃ r j,(r,j)∈srcs/\G.ow b=some (.leaf r j):=by
  intro ls srcs vs Ss ht
  induction ht with
  |nil=>intro b hb;simp at hb
  | cons h hs ih=>
    intro b hb;rw[Z0,Zg]at hb;rcases hb with hb|hb
    ·obtain⟨u,r,j,m1,m2⟩:=(h.facts hS).2.2 b hb;exact⟨u,r,j,by simp[m1],m2⟩
    ·obtain⟨u,r,j,m1,m2⟩:=ih b hb;exact⟨u,r,j,by simp[m1],m2⟩
 cases ha:ti.agg with
 | true=>
   simp only[ha,if_true]at h;exact⟨_,srcs,Ss,ls2,by simp only[if_true];exact⟨vs,rfl,ht.rec_ hS⟩,fun hd=>(ht.facts hS hd).1,tok ht,h⟩
 | false=>
   simp only[ha,Yj,if_false]at h;split at h
   ·rename_i l og;have hr:=ht.rec_ hS;simp only[ZU,YO,aj]at hr;obtain⟨v,vs',S1,S2,rfl,h1,⟨rfl,rfl⟩,e⟩:=hr;refine⟨.one l,srcs,Ss,ls2,?_,fun hd=>(ht.facts hS hd).1,tok ht,h⟩;simp only[Yj,if_false];exact⟨v,rfl,by simp only[hH];rw[e,Z4];exact h1⟩
   ·simp[Rd.Runs]at h
def CP (hS:av cx G g a w){t:TypeId}{rv:ResultVar}{α:Type}{k:DV->List (Nat×Nat)->Rd α}{ls:List Loc}{out:α}(h:(HR P t rv k).Runs g ls out):
 ∃ d v srcs S ls',(nV a.tmps rv).run P w=.ok v w/\hH w d v S/\(bz srcs=true->S.Nodup)/\(∀ b∈S,ed w b/\∃ r j,(r,j)∈srcs/\G.ow b=some (.leaf r j))/\(k d srcs).Runs g ls' out:=by
 unfold HR at h;cases hti:kz P t with
 |none=>simp[hti,Rd.Runs]at h
 | some ti=>
   simp only[hti]at h;cases rv with
   | tmp x=>
     simp only at h;obtain⟨r,ls1,hr,_,h⟩:=lH hS h;cases r with
     | one x0=>
       simp only[cK]at hr;simp only at h;by_cases hag:ti.agg=true
       ·rw[VJ hag]at h;simp[Rd.Runs]at h
       ·rw[VK hag]at h;have hag':ti.agg=false:=by simpa using hag
        obtain⟨d,srcs,Ss,ls2,h1,h2,h3,h4⟩:=pq (as:=[x0]) (vs:=[a.tmps.getD x undef]) hS ⟨_,_,rfl,hr,rfl⟩ h;simp only[hag',Yj,if_false]at h1;obtain⟨v,e,h1⟩:=h1;cases e;exact⟨d,_,srcs,_,ls2,rfl,h1,h2,h3,h4⟩
     | agg as=>
       simp only[cK]at hr;obtain⟨vs,e,hr⟩:=hr;simp only at h;by_cases hag:ti.agg=true
       ·rw[VJ hag]at h;obtain⟨d,srcs,Ss,ls2,h1,h2,h3,h4⟩:=pq hS hr h;simp only[hag,if_true]at h1;exact⟨d,_,srcs,_,ls2,by simp only[nV,e];rfl,h1,h2,h3,h4⟩
       ·rw[VK hag]at h;simp[Rd.Runs]at h
     |tup rs=>simp[Rd.Runs]at h
   | cell x t'=>
     simp only at h;split at h
     ·rename_i htt;simp only[beq_iff_eq]at htt;subst htt;obtain⟨r,ls1,hr,_,h⟩:=lH hS h;cases r with
      |agg xs=>simp[Rd.Runs]at h
      |tup xs=>simp[Rd.Runs]at h
      | one x0=>
        cases x0 with
        |v y=>simp[Rd.Runs]at h
        |nl=>simp[Rd.Runs]at h
        |mv r j ver=>simp[Rd.Runs]at h
        |st r j ver iv k=>simp[Rd.Runs]at h
        |it es vs=>simp[Rd.Runs]at h
        |ro sz es=>simp[Rd.Runs]at h
        |rp rec j=>simp[Rd.Runs]at h
        |pn r j ver iv p=>simp[Rd.Runs]at h
        |vw r j ver lo m=>simp[Rd.Runs]at h
        |vn r j ver iv p lo m=>simp[Rd.Runs]at h
        |un=>simp[Rd.Runs]at h
        |fn f caps=>simp[Rd.Runs]at h
        |pt r0 j=>
        simp only at h;simp only[cK,gq]at hr;obtain⟨b,off,e1,e2⟩:=hr;obtain⟨as,ls2,h1,h2,h⟩:=iE hS r0 _ _ _ _ _ h;obtain⟨d,srcs,Ss,ls3,k1,k2,k3,k4⟩:=pq hS h1 h;have hload:(ti.agg=false->((Ze ti.zero.length).map fun i=>G.val r0 (j+i)).length=1)->(loadVar t' ⟨b,off+j,none⟩).run P w=.ok (if ti.agg then .agg ((Ze ti.zero.length).map fun i=>G.val r0 (j+i)).toArray else((Ze ti.zero.length).map fun i=>G.val r0 (j+i)).getD 0 undef) w:=by
         intro hlen;refine jK hti w b (off+j) _ (by simp) hlen ?_;intro k v hv;rw[ZC]at hv;cases hr:(Ze ti.zero.length)[k]? with
         |none=>simp[hr]at hv
         | some k'=>
           simp only[hr,Yk,Yd]at hv;have hk':k'=k/\k<ti.zero.length:=by
            obtain⟨q1,q2⟩:=ZB.1 hr;simp at q1 q2;exact⟨q2.symm,q1⟩
           obtain⟨rfl,hlt⟩:=hk';obtain⟨m,hm⟩:=hS.noloc r0 _ e1;obtain⟨b',off',cur,ty,f1,f2,f3,f4,f5⟩:=hS.boxes r0 m hm;rw[e1]at f1;cases f1;obtain⟨hh,hgl⟩:=h2 k' hlt;obtain⟨_,m',bx,_,q2,q3,_⟩:=hS.leaf r0 (j+k') _ (ap.1 hgl);rw[hm]at q2;cases q2;rw[eS f3, <-hv];rw[show off+j+k'=off+(j+k')from by omega];exact f5 _ q3
        have hasA:∀ v,(loadVar t' ⟨b,off+j,none⟩).run P w=.ok v w->(nV a.tmps (.cell x t')).run P w=.ok v w:=by
         intro v hv;simp[nV,e2,asAddr,hv]
        cases ha:ti.agg with
        | true=>
          simp only[ha,if_true]at k1;have:=hload (by simp[ha]);simp only[ha,if_true]at this;exact⟨d,_,srcs,_,ls3,hasA _ this,k1,k2,k3,k4⟩
        | false=>
          simp only[ha,Yj,if_false]at k1;obtain⟨v,e,k1⟩:=k1;have:=hload (fun _=>by rw[e];rfl);simp only[ha,Yj,if_false,e]at this;exact⟨d,v,srcs,_,ls3,hasA _ (by simpa using this),k1,k2,k3,k4⟩
     ·simp[Rd.Runs]at h
def kG (hS:av cx G g a w){α:Type}:∀ (ts:List TypeId) (rvs:List ResultVar) (k:List DV->List (Nat×Nat)->Rd α) (ls:List Loc) (out:α),(vR P ts rvs k).Runs g ls out->
 ∃ ds vs srcs S ls',(rvs.mapM (nV a.tmps)).run P w=.ok vs w/\bW w ds vs S/\(bz srcs=true->S.Nodup)/\(∀ b∈S,ed w b/\∃ r j,(r,j)∈srcs/\G.ow b=some (.leaf r j))/\(k ds srcs).Runs g ls' out
 |[],[],k,ls,out,h=>⟨[],[],[],[],ls,rfl,by simp[bW],fun _=>ZO,fun b hb=>(by cases hb),by simpa[vR]using h⟩
 |[],_::_,k,ls,out,h=>by simp[vR,Rd.Runs]at h
 |_::_,[],k,ls,out,h=>by simp[vR,Rd.Runs]at h
 | t::ts,rv::rvs,k,ls,out,h=>by
   simp only[vR]at h;obtain⟨d,v,src,S,ls2,h1,h2,h3,h4,h⟩:=CP hS h;obtain⟨ds,vs,srcs,S2,ls3,k1,k2,k3,k4,h⟩:=kG hS ts rvs _ _ _ h;refine⟨d::ds,v::vs,src++srcs,S++S2,ls3,?_,?_,?_,?_,h⟩
   ·simp only[Wm,ZL,h1,ZY,k1,Ye]
   ·simp only[bW];exact⟨v,vs,S,S2,rfl,h2,k2,rfl⟩
   ·intro hd;obtain⟨d1,d2,d3⟩:=cW hd;rw[Zu];refine⟨h3 d1,k3 d2,fun x hx y hy e=>?_⟩;subst e;obtain⟨_,r,j,m1,m2⟩:=h4 x hx;obtain⟨_,r',j',m3,m4⟩:=k4 x hy;rw[m2]at m4;cases m4;exact d3 _ m1 m3
   ·intro b hb;rcases Zg.1 hb with hb|hb
    ·obtain⟨u,r,j,m1,m2⟩:=h4 b hb;exact⟨u,r,j,by simp[m1],m2⟩
    ·obtain⟨u,r,j,m1,m2⟩:=k4 b hb;exact⟨u,r,j,by simp[m1],m2⟩
def vS (fn:Func)(tmps:Array Value):results fn tmps=(fn.results.mapM (nV tmps)>>=fun vs=>pure (if h:vs.size=1 then vs[0]else .tuple vs):Sem Value):=by
 unfold results
 congr 1
def AB (n:Nat)(w:World)(ds:List DV)(vs:List Value)(hargs:dz (fun _=>True) w ds vs)(hn:ds.length<=n):
 d5 ⟨n,w,fun _=>True,fun _=>undef,fun _=>none,fun _=>0,fun _=>True⟩ (get (dM 0 ds)) {tmps:=vs.toArray++YP (n-vs.toArray.size) undef,defers:=[]} w:=by
 have hlen:∀ (ds:List DV) (vs:List Value),dz (fun _=>True) w ds vs->vs.length=ds.length:=by
  intro ds
  induction ds with
  |nil=>intro vs h;simp only[dz]at h;simp[h]
  |cons d ds ih=>intro vs h;obtain⟨v,vs',S,rfl,_,_,h2⟩:=h;simp[ih vs' h2]
 have hl:=hlen ds vs hargs
 let G:Gh:={loc:=fun _=>none,val:=fun _ _=>undef,fp:=fun _ _=>[],ow:=fun b=>if b<w.heap.size then some .ro else none,lead:=id}
 have hro:∀ b,b<w.heap.size->G.ow b=some .ro:=fun b hb=>by simp[G,hb]
 have nomem:∀ (ds:List DV) (p:Nat),(∀ r j,get (dM p ds) (.leaf r j)=none)/\(∀ r,get (dM p ds) (.meta_ r)=none):=by
  intro ds
  induction ds with
  |nil=>intro p;exact⟨fun _ _=>rfl,fun _=>rfl⟩
  |cons d ds ih=>intro p;simp only[dM,get,W.app];exact⟨fun r j=>by simp[(ih (p+1)).1 r j],fun r=>by simp[(ih (p+1)).2 r]⟩
 have regs:∀ (ds:List DV) (vs:List Value) (p:Nat),dz (fun _=>True) w ds vs->∀ d x,get (dM p ds) (.reg d)=some x->∃ i r,d=p+i/\i<vs.length/\x=.r r/\cK (gl (get (dM 0 ([]:List DV)))) G w r (vs.getD i undef):=by
  intro ds
  induction ds with
  |nil=>intro vs p _ d x h;simp[dM,get]at h
  | cons d0 ds ih=>
    intro vs p h d x hx;obtain⟨v,vs',S,rfl,h1,_,h2⟩:=h;simp only[dM,get,W.app]at hx;split at hx
    ·rename_i e;cases e;cases hx;refine⟨0,lR d0,rfl,by simp,rfl,?_⟩;simp only[WX];cases d0 with
     | one l=>
       simp only[lR,cK];have:=nW (γ:=gl (get (dM 0 ([]:List DV)))) (G:=G) [l] [v] S (by simp only[aj];exact⟨v,[],S,[],rfl,h1,⟨rfl,rfl⟩,by simp⟩) (fun b hb=>hro b (bO.lt _ _ _ h1 b hb));simp only[ZU,YO,bQ]at this;obtain⟨v',vs'',e,h3,_⟩:=this;cases e;exact h3
     | agg lls=>
       obtain⟨us,e,h1⟩:=h1;simp only[lR,cK];exact⟨us,e,nW _ _ S h1 (fun b hb=>hro b (aj.lt _ _ _ h1 b hb))⟩
     | ptr rec=>
       obtain⟨b,off,cur,ty,fz,S',e1,e2,e3,e4,e5⟩:=h1;simp only[lR,cK];exact⟨b,off,cur,ty,fz,S',e1,e2,hro b (Zz.1 e2).1,e3,e4,fun c hc=>hro c (aj.lt _ _ _ e4 c hc)⟩
     | fn f caps=>
       obtain⟨ps,e,h1⟩:=h1;simp only[lR,cK];refine⟨ps,e,?_⟩;have key:∀ (caps:af) (ps:List Value) (S:List Nat),hP w caps ps S->dH G w (caps.map fun rec=>.rp rec 0) ps:=by
        intro caps
        induction caps with
        |nil=>intro ps S h;simp only[hP]at h;simp[dH,h.1]
        | cons r rs ih=>
          intro ps S h;simp only[hP]at h;obtain⟨v,vs',S1,S2,rfl,q1,q2,_⟩:=h;obtain⟨b,off,cur,ty,fz,S',e1,e2,e3,e4,e5⟩:=q1;exact⟨v,vs',rfl,⟨b,off,cur,ty,fz,S',e1,e2,hro b (Zz.1 e2).1,e3,e4,fun c hc=>hro c (aj.lt _ _ _ e4 c hc)⟩,ih _ _ q2⟩
       exact key caps ps S h1
     |mp hs=>exact h1.elim
    ·obtain⟨i,r,e1,e2,e3,e4⟩:=ih vs' (p+1) h2 d x hx;exact⟨i+1,r,Uc,by simpa using e2,e3,by simpa using e4⟩
 have hgl:gl (get (dM 0 ds))=gl (get (dM 0 ([]:List DV))):=by
  funext r j;simp[gl,(nomem ds 0).1,(nomem [] 0).1]
 refine⟨G,rfl,by simp;omega,?_,?_,?_,?_,?_,?_,Same.refl _ _,?_,(fun r j h e=>by rw[ap,(nomem ds 0).1]at e;cases e),(fun r x e=>by cases e),(fun r b o e=>by cases e),(fun r1 r2 k1 k2 b o1 o2 _ e=>by rw[(nomem ds 0).2]at e;cases e),(fun r b o e=>by cases e),fun _ _=>trivial⟩
 ·intro d x hx;obtain⟨i,r,e1,e2,e3,e4⟩:=regs ds vs 0 hargs d x hx;have hd:d=i:=by omega
  subst hd;refine⟨by show d<n;omega,r,e3,?_⟩;rw[hgl];have:(vs.toArray++YP (n-vs.toArray.size) undef).getD d undef=vs.getD d undef:=by
   simp only[Yw];rw[Wn (by simpa using e2)];simp[ZE]
  simp only;rw[this];exact e4
 ·intro r k hk;rw[(nomem ds 0).2]at hk;cases hk
 ·intro r j x hx;rw[(nomem ds 0).1]at hx;cases hx
 ·intro r x hx;rw[(nomem ds 0).2]at hx;cases hx
 ·intro r b hb;cases hb
 ·intro b t hb;by_cases c:b<w.heap.size;exact c
  ·simp[G,c]at hb
 ·intro b hb _;exact .inr (hro b hb)
open Classical in
def EY (X:Nat->Prop)(n:Nat)(w:World)(ds:List DV)(vs:List Value)(hargs:dz X w ds vs)(hn:ds.length<=n):
 d5 ⟨n,w,fun _=>True,fun _=>undef,fun _=>none,fun _=>0,X⟩ (get (dM 0 ds)) {tmps:=vs.toArray++YP (n-vs.toArray.size) undef,defers:=[]} w:=by
 have hlen:∀ (ds:List DV) (vs:List Value),dz X w ds vs->vs.length=ds.length:=by
  intro ds
  induction ds with
  |nil=>intro vs h;simp only[dz]at h;simp[h]
  |cons d ds ih=>intro vs h;obtain⟨v,vs',S,rfl,_,_,h2⟩:=h;simp[ih vs' h2]
 have hl:=hlen ds vs hargs
 let G:Gh:={loc:=fun _=>none,val:=fun _ _=>undef,fp:=fun _ _=>[],ow:=fun b=>if b<w.heap.size/\X b then some .ro else none,lead:=id}
 have hro:∀ b,b<w.heap.size->X b->G.ow b=some .ro:=fun b hb hx=>by simp[G,hb,hx]
 have nomem:∀ (ds:List DV) (p:Nat),(∀ r j,get (dM p ds) (.leaf r j)=none)/\(∀ r,get (dM p ds) (.meta_ r)=none):=by
  intro ds
  induction ds with
  |nil=>intro p;exact⟨fun _ _=>rfl,fun _=>rfl⟩
  |cons d ds ih=>intro p;simp only[dM,get,W.app];exact⟨fun r j=>by simp[(ih (p+1)).1 r j],fun r=>by simp[(ih (p+1)).2 r]⟩
 have regs:∀ (ds:List DV) (vs:List Value) (p:Nat),dz X w ds vs->∀ d x,get (dM p ds) (.reg d)=some x->∃ i r,d=p+i/\i<vs.length/\x=.r r/\cK (gl (get (dM 0 ([]:List DV)))) G w r (vs.getD i undef):=by
  intro ds
  induction ds with
  |nil=>intro vs p _ d x h;simp[dM,get]at h
  | cons d0 ds ih=>
    intro vs p h d x hx;obtain⟨v,vs',S,rfl,h1,hX,h2⟩:=h;simp only[dM,get,W.app]at hx;split at hx
    ·rename_i e;cases e;cases hx;refine⟨0,lR d0,rfl,by simp,rfl,?_⟩;simp only[WX];cases d0 with
     | one l=>
       simp only[lR,cK];have:=nW (γ:=gl (get (dM 0 ([]:List DV)))) (G:=G) [l] [v] S (by simp only[aj];exact⟨v,[],S,[],rfl,h1,⟨rfl,rfl⟩,by simp⟩) (fun b hb=>hro b (bO.lt _ _ _ h1 b hb) (hX b hb));simp only[ZU,YO,bQ]at this;obtain⟨v',vs'',e,h3,_⟩:=this;cases e;exact h3
     | agg lls=>
       obtain⟨us,e,h1⟩:=h1;simp only[lR,cK];exact⟨us,e,nW _ _ S h1 (fun b hb=>hro b (aj.lt _ _ _ h1 b hb) (hX b hb))⟩
     | ptr rec=>
       obtain⟨b,off,cur,ty,fz,S',e1,e2,e3,e4,e5⟩:=h1;subst e5;simp only[lR,cK];exact⟨b,off,cur,ty,fz,S',e1,e2,hro b (Zz.1 e2).1 (hX b (by simp)),e3,e4,fun c hc=>hro c (aj.lt _ _ _ e4 c hc) (hX c (by simp[hc]))⟩
     | fn f caps=>
       obtain⟨ps,e,h1⟩:=h1;simp only[lR,cK];refine⟨ps,e,?_⟩;have key:∀ (caps:af) (ps:List Value) (S:List Nat),hP w caps ps S->(∀ b∈S,X b)->dH G w (caps.map fun rec=>.rp rec 0) ps:=by
        intro caps
        induction caps with
        |nil=>intro ps S h _;simp only[hP]at h;simp[dH,h.1]
        | cons r rs ih=>
          intro ps S h hX;simp only[hP]at h;obtain⟨v,vs',S1,S2,rfl,q1,q2,e6⟩:=h;subst e6;obtain⟨b,off,cur,ty,fz,S',e1,e2,e3,e4,e5⟩:=q1;subst e5;exact⟨v,vs',rfl,⟨b,off,cur,ty,fz,S',e1,e2,hro b (Zz.1 e2).1 (hX b (by simp)),e3,e4,fun c hc=>hro c (aj.lt _ _ _ e4 c hc) (hX c (by simp[hc]))⟩,ih _ _ q2 (fun c hc=>hX c (by simp[hc]))⟩
       exact key caps ps S h1 hX
     |mp hs=>exact h1.elim
    ·obtain⟨i,r,e1,e2,e3,e4⟩:=ih vs' (p+1) h2 d x hx;exact⟨i+1,r,Uc,by simpa using e2,e3,by simpa using e4⟩
 have hgl:gl (get (dM 0 ds))=gl (get (dM 0 ([]:List DV))):=by
  funext r j;simp[gl,(nomem ds 0).1,(nomem [] 0).1]
 have hroX:∀ b,G.ow b=some .ro->X b:=by
  intro b e;simp only[G]at e;split at e
  ·rename_i q;exact q.2
  ·cases e
 refine⟨G,rfl,by simp;omega,?_,?_,?_,?_,?_,?_,Same.refl _ _,?_,(fun r j h e=>by rw[ap,(nomem ds 0).1]at e;cases e),(fun r x e=>by cases e),(fun r b o e=>by cases e),(fun r1 r2 k1 k2 b o1 o2 _ e=>by rw[(nomem ds 0).2]at e;cases e),(fun r b o e=>by cases e),fun b e=>hroX b e⟩
 ·intro d x hx;obtain⟨i,r,e1,e2,e3,e4⟩:=regs ds vs 0 hargs d x hx;have hd:d=i:=by omega
  subst hd;refine⟨by show d<n;omega,r,e3,?_⟩;rw[hgl];have:(vs.toArray++YP (n-vs.toArray.size) undef).getD d undef=vs.getD d undef:=by
   simp only[Yw];rw[Wn (by simpa using e2)];simp[ZE]
  simp only;rw[this];exact e4
 ·intro r k hk;rw[(nomem ds 0).2]at hk;cases hk
 ·intro r j x hx;rw[(nomem ds 0).1]at hx;cases hx
 ·intro r x hx;rw[(nomem ds 0).2]at hx;cases hx
 ·intro r b hb;cases hb
 ·intro b t hb;simp only[G]at hb;split at hb
  ·rename_i c;exact c.1
  ·cases hb
 ·intro b hb _;simp only[G];split;exact .inr rfl;exact .inl rfl
end
end Go.V
namespace Go.V
abbrev Ups :=Nat->Nat->Option (Hv×List Nat)
section
variable {cx: Cx} {g: Gm} {G: Gh} {a: Act} {w: World}
open Classical in
def av.call (hS:av cx G g a w)(u:Ups){d:Nat}(hd:g (.meta_ d)=none)(hs:List Hv)(w':World)(g':Gm) 
 (hgr:∀ e,g' (.reg e)=g (.reg e)) (hgm:∀ r,g' (.meta_ r)=if r=d then some (.m hs.length false)else g (.meta_ r))
 (hgl:∀ r j,g' (.leaf r j)=if r=d then(hs[j]?).map .h else match u r j with
   |some x=>some (.h x.1)
   |none=>g (.leaf r j))
 (hos:w'.os=w.os) (htape:w'.tape=w.tape) (hout:w'.output=w.output) (hsize:w.heap.size<=w'.heap.size)
 (hsame:∀ b,b<w.heap.size->(∀ r j x,u r j=some x->b∉G.fp r j)->w'.heap[b]?=w.heap[b]?)
 (hu:∀ r j h' S',u r j=some (h',S')->∃ h sz es es',g (.leaf r j)=some (.h h)/\h.c=.own (.s sz es)/\h'=⟨h.ver,h.iv+1,h.org,.own (.s sz es')⟩/\es'.length=es.length/\
   bO w' (.s sz es') (G.val r j) S'/\S'.Nodup)
 (nv:Nat->Value) (nf:Nat->List Nat) (hnew:∀ j h,hs[j]?=some h->∃ l,h=⟨0,0,none,.own l⟩/\bO w' l (nv j) (nf j)/\(nf j).Nodup)
 (hfree:∀ b,((∃ j,j<hs.length/\b∈nf j)\/∃ r j h' S',u r j=some (h',S')/\b∈S')->ed w' b/\(w.heap.size<=b\/∃ r j x,u r j=some x/\b∈G.fp r j))
 (Qu:∀ i j,i<hs.length->j<hs.length->i≠j->∀ b∈nf i,b∉nf j)
 (hd2:∀ i r j h' S',i<hs.length->u r j=some (h',S')->∀ b∈nf i,b∉S')
 (hd3:∀ r j h' S' r2 j2 h2 S2,u r j=some (h',S')->u r2 j2=some (h2,S2)->(r,j)≠(r2,j2)->∀ b∈S',b∉S2):
 ∃ G',av cx G' g' a w'/\(∀ j,G'.val d j=nv j):=by
 have hlf:∀ j,g (.leaf d j)=none:=by
  intro j;cases e:g (.leaf d j)with
  |none=>rfl
  |some y=>obtain⟨h,k,bx,e1,e2,_⟩:=hS.leaf d j y e;rw[hd]at e2;cases e2
 have hud:∀ j,u d j=none:=by
  intro j;cases e:u d j with
  |none=>rfl
  |some x=>obtain⟨h,_,_,_,e1,_⟩:=hu d j x.1 x.2 e;rw[hlf]at e1;cases e1
 have hgd:∀ j,gl g d j=none:=fun j=>by simp[gl,hlf]
 have hloc:G.loc d=none:=by
  cases e:G.loc d with
  |none=>rfl
  |some y=>obtain⟨k,hk⟩:=hS.noloc d y e;rw[hd]at hk;cases hk
 let isN:Nat->Prop:=fun b=>∃ j,j<hs.length/\b∈nf j
 let isU:Nat->Prop:=fun b=>∃ p:Nat×Nat,∃ h' S',u p.1 p.2=some (h',S')/\b∈S'
 let G':Gh:={
  loc:=G.loc
  val:=fun r j=>if r=d then nv j else G.val r j
  fp:=fun r j=>if r=d then nf j else match u r j with
   |some x=>x.2
   |none=>G.fp r j
  ow:=fun b=>if h:isN b then some (.leaf d h.choose)else if h:isU b then some (.leaf h.choose.1 h.choose.2)else G.ow b
  lead:=G.lead}
 have ufp:∀ r j x,u r j=some x->∀ b∈G.fp r j,G.ow b=some (.leaf r j)/\ed w b:=by
  intro r j x hx b hb;obtain⟨h,sz,es,es',e1,e2,_⟩:=hu r j x.1 x.2 hx;have:=hS.hok (ap.2 e1);simp only[dO,e2]at this;exact this.2.2 b hb
 have ownN:∀ j,j<hs.length->∀ b∈nf j,G'.ow b=some (.leaf d j):=by
  intro j hj b hb;have h2:isN b:=⟨j,hj,hb⟩;simp only[G',dif_pos h2];have:=h2.choose_spec;by_cases e:h2.choose=j
  ·rw[e]
  ·exact absurd hb (Qu _ j this.1 hj e b this.2)
 have ownU:∀ r j h' S',u r j=some (h',S')->∀ b∈S',G'.ow b=some (.leaf r j):=by
  intro r j h' S' hx b hb;have h1:¬ isN b:=fun⟨i,hi,hbi⟩=>hd2 i r j h' S' hi hx b hbi hb
  have h2:isU b:=⟨(r,j),h',S',hx,hb⟩;simp only[G',dif_neg h1,dif_pos h2];obtain⟨h3,S3,q1,q2⟩:=h2.choose_spec;by_cases e:h2.choose=(r,j)
  ·rw[e]
  ·exact absurd hb (hd3 _ _ h3 S3 r j h' S' q1 hx (fun e'=>e e') b q2)
 have fresh:∀ b,isN b\/isU b->ed w' b/\(w.heap.size<=b\/∃ r j x,u r j=some x/\b∈G.fp r j):=by
  intro b hb;refine hfree b ?_;rcases hb with⟨j,hj,hbj⟩|⟨p,h',S',q1,q2⟩;exact .inl ⟨j,hj,hbj⟩;exact .inr ⟨p.1,p.2,h',S',q1,q2⟩
 have notnew:∀ b t,G.ow b=some t->(∀ r j,t=.leaf r j->u r j=none)->¬ isN b/\¬ isU b:=by
  intro b t ht hl;have hb:=hS.lt b t ht;have:¬ (isN b\/isU b):=by
   intro hn;rcases(fresh b hn).2 with h|⟨r,j,x,q1,q2⟩;omega
   ·rw[(ufp r j x q1 b q2).1]at ht;cases ht;rw[hl r j rfl]at q1;cases q1
  exact⟨fun h=>this (.inl h),fun h=>this (.inr h)⟩
 have owk:∀ b t,G.ow b=some t->(∀ r j,t=.leaf r j->u r j=none)->G'.ow b=some t:=by
  intro b t ht hl;obtain⟨h1,h2⟩:=notnew b t ht hl;simp only[G',dif_neg h1,dif_neg h2];exact ht
 have same:∀ b t,G.ow b=some t->(∀ r j,t=.leaf r j->u r j=none)->w'.heap[b]?=w.heap[b]?:=by
  intro b t ht hl;refine hsame b (hS.lt b t ht) (fun r j x hx hb=>?_);rw[(ufp r j x hx b hb).1]at ht;cases ht;rw[hl r j rfl]at hx;cases hx
 have st:Step g G w g' G' w':=by
  refine⟨fun r j h e=>?_,fun b hb=>⟨owk b _ hb (fun r j e=>by cases e),same b _ hb (fun r j e=>by cases e)⟩,fun b hb=>⟨owk b _ hb (fun r j e=>by cases e),same b _ hb (fun r j e=>by cases e)⟩,fun r y e=>e⟩;have hrd:r≠d:=by rintro rfl;rw[hgd]at e;cases e
  cases hx:u r j with
  | none=>
    refine⟨h,ap.2 (by rw[hgl,VK hrd,hx];exact ap.1 e),.inl ⟨rfl,by simp[G',hrd],fun l hc b hb=>?_⟩⟩;have:=hS.hok e;simp only[dO,hc]at this;exact same b _ (this.2.2 b hb).1 (fun r' j' e'=>by cases e';exact hx)
  | some x=>
    obtain⟨h0,sz,es,es',e1,e2,e3,e4,_⟩:=hu r j x.1 x.2 hx;rw[ap,e1]at e;cases e;refine⟨x.1,ap.2 (by rw[hgl,VK hrd,hx]),.inr (.inl ⟨by rw[e3],by rw[e3];exact YH _,by simp[G',hrd],.inl ⟨sz,es,es',e2,by rw[e3],e4⟩⟩)⟩
 have hroX:∀ b,G'.ow b=some .ro->cx.ro b:=fun b e=>hS.roX b (by simp only[G']at e;(repeat' split at e)<;>first|(cases e;done)|exact e)
 refine⟨G',⟨hS.defers,hS.tm,?_,?_,?_,?_,?_,?_,⟨hos.trans hS.frame.os,htape.trans hS.frame.tape,hout.trans hS.frame.output,ZA hS.frame.size hsize,fun b hb hf=>Eq.trans ?_ (hS.frame.block b hb hf)⟩,?_,?_,?_,?_,?_,hS.newb,hroX⟩,fun j=>by simp[G']⟩
 ·intro e y hy;rw[hgr]at hy;obtain⟨e1,y',e2,e3⟩:=hS.reg e y hy;exact⟨e1,y',e2,cK.step hS st _ _ e3⟩
 ·intro r k hk;rw[hgm]at hk;by_cases c:r=d
  ·rw[VJ c]at hk;cases hk
  ·rw[VK c]at hk;obtain⟨b,o,cur,ty,f1,f2,f3,f4,f5⟩:=hS.boxes r k hk;exact⟨b,o,cur,ty,f1,owk b _ f2 (fun r j e=>by cases e),by rw[same b _ f2 (fun r j e=>by cases e)];exact f3,f4,fun j hj=>by simp[G',c,f5 j hj]⟩
 ·intro r j y hy;rw[hgl]at hy;by_cases c:r=d
  ·subst c;rw[VJ rfl]at hy;cases e:hs[j]? with
   |none=>simp[e]at hy
   | some h=>
     simp[e]at hy;subst hy;have hj:j<hs.length:=(ZB.1 e).1;refine⟨h,hs.length,false,rfl,by rw[hgm,VJ rfl],hj,?_⟩;obtain⟨l,rfl,q1,q2⟩:=hnew j h e;simp only[dO];refine⟨by simp only[G',if_true];exact q1,by simp only[G',if_true];exact q2,fun b hb=>?_⟩;have hb':b∈nf j:=by simpa only[G',if_true]using hb
     exact⟨ownN j hj b hb',(fresh b (.inl ⟨j,hj,hb'⟩)).1⟩
  ·rw[VK c]at hy;cases hx:u r j with
   | some x=>
     simp only[hx]at hy;cases hy;obtain⟨h0,sz,es,es',e1,e2,e3,e4,e5,e6⟩:=hu r j x.1 x.2 hx;obtain⟨h,k,bx,q1,q2,q3,_⟩:=hS.leaf r j _ e1;refine⟨x.1,k,bx,rfl,by rw[hgm,VK c];exact q2,q3,?_⟩;rw[e3];simp only[dO,G',VK c,hx];exact⟨e5,e6,fun b hb=>⟨ownU r j x.1 x.2 hx b hb,(fresh b (.inr ⟨(r,j),x.1,x.2,hx,hb⟩)).1⟩⟩
   | none=>
     simp only[hx]at hy;obtain⟨h,k,bx,e1,e2,e3,e4⟩:=hS.leaf r j y hy;refine⟨h,k,bx,e1,by rw[hgm,VK c];exact e2,e3,?_⟩;subst e1;cases hc:h.c with
     | own l=>
       simp only[dO,hc]at e4 ⊢;simp only[G',VK c,hx];refine⟨bO.keep _ _ _ e4.1 (fun b hb=>same b _ (e4.2.2 b hb).1 (fun r' j' e=>by cases e;exact hx)),e4.2.1,fun b hb=>?_⟩;obtain⟨f1,f2⟩:=e4.2.2 b hb;have hk:=same b _ f1 (fun r' j' e=>by cases e;exact hx);exact⟨owk b _ f1 (fun r' j' e=>by cases e;exact hx),f2.keep hk⟩
     | ro l=>
       simp only[dO,hc]at e4 ⊢;obtain⟨S',f1,f2⟩:=e4;exact⟨S',by simp only[G',VK c];exact bO.keep _ _ _ f1 (fun b hb=>same b _ (f2 b hb) (fun r j e=>by cases e)),fun b hb=>owk b _ (f2 b hb) (fun r j e=>by cases e)⟩
     |gone=>simp only[dO,hc]
 ·intro r y hy;rw[hgm]at hy;by_cases c:r=d
  ·rw[VJ c]at hy;cases hy;exact⟨_,_,rfl⟩
  ·rw[VK c]at hy;exact hS.metas r y hy
 ·intro r y hy;have c:r≠d:=by rintro rfl;rw[show G'.loc r=G.loc r from rfl,hloc]at hy;cases hy
  obtain⟨k,hk⟩:=hS.noloc r y hy;exact⟨k,by rw[hgm,VK c];exact hk⟩
 ·intro b t ht;by_cases h1:isN b;exact(fresh b (.inl h1)).1.lt
  ·by_cases h2:isU b;exact(fresh b (.inr h2)).1.lt
   ·simp only[G',dif_neg h1,dif_neg h2]at ht;exact Ym (hS.lt b t ht) hsize
 ·refine hsame b (Ym hb hS.frame.size) (fun r j x hx hbf=>?_);rcases hS.frow b hb hf with e|e<;>rw[(ufp r j x hx b hbf).1]at e<;>cases e
 ·intro b hb hf;rcases hS.frow b hb hf with e|e
  ·have:¬ (isN b\/isU b):=by
    intro hn;rcases(fresh b hn).2 with h|⟨r,j,x,q1,q2⟩
    ·have:=hS.frame.size;omega
    ·rw[(ufp r j x q1 b q2).1]at e;cases e
   left
   simp only[G',dif_neg (fun h=>this (.inl h)),dif_neg (fun h=>this (.inr h))];exact e
  ·exact .inr (owk b _ e (fun r j e=>by cases e))
 ·intro r j h e;rw[ap,hgl]at e;by_cases c:r=d
  ·subst c;rw[VJ rfl,Zy]at e;obtain⟨h2,e1,e2⟩:=e;cases e2;obtain⟨l,rfl,_⟩:=hnew j h e1;exact eJ.none
  ·rw[VK c]at e;simp only[G',VK c];cases hx:u r j with
   |none=>simp only[hx]at e;exact hS.anc r j h (ap.2 e)
   | some x=>
     simp only[hx]at e;cases e;obtain⟨h0,sz,es,es',e1,e2,e3,_⟩:=hu r j x.1 x.2 hx;intro i hi _;rw[e3]at hi;exact hS.anc r j h0 (ap.2 e1) i hi ⟨_,.inl e2⟩
 ·intro r x hx;obtain⟨h1,h2⟩:=hS.aloc r x hx;have c:r≠d:=by rintro rfl;rw[hloc]at h1;cases h1
  exact⟨h1,by rw[hgm,VK c];exact h2⟩
 ·intro r b o hx;obtain⟨h1,h2⟩:=hS.aloc r _ hx;obtain⟨b',o',cur,ty,f1,f2,f3,_⟩:=hS.boxes r _ h2;rw[h1]at f1;cases f1;exact(hS.afr r b o hx).keep (same b _ f2 (fun r j e=>by cases e))
 ·intro r1 r2 k1 k2 b o1 o2 hne h1 h2 q1 q2;rw[hgm]at h1 h2;split at h1
  ·cases h1
  ·split at h2
   ·cases h2
   ·exact hS.sep r1 r2 k1 k2 b o1 o2 hne h1 h2 q1 q2
end
end Go.V
namespace Go.V
def slL:ax->ax
 |[]=>[]
 | .s sz es::ls=>.s sz es::slL ls
 |_::ls=>slL ls
def PH:ax->List Value->List Value
 | .s _ _::ls,v::vs=>v::PH ls vs
 |_::ls,_::vs=>PH ls vs
 |_,_=>[]
def ox:List DV->List Value->List Value
 | .one l::ds,v::vs=>PH [l] [v]++ox ds vs
 | .agg ls::ds,.agg cs::vs=>PH ls cs.toList++ox ds vs
 |_,_=>[]
def EH (P:Program)(f:FuncId)(ds:List DV)(outs:ax)(res:List DV):Prop:=
 ∀ (w:World) (vs:List Value) (S:List Nat),bW w ds vs S->S.Nodup->(∀ b∈S,ed w b)->
  Calls P f vs.toArray w fun e w'=>∃ v Sr S',e=.returned v/\gd w' res v Sr/\aj w' outs (ox ds vs) S'/\(Sr++S').Nodup/\(∀ b∈Sr++S',ed w' b/\(w.heap.size<=b\/b∈S))/\Same (fun b=>b∉S) w w'
def gT (l:L)(p:List (Nat×Nat)):Option (Nat×af):=
 match bP l p with
 | some (rec,o)=>match rec[o]? with
   |some (.s sz es)=>some (sz,es)
   |_=>none
 |none=>none
def rowOf:L->af
 | .s _ es=>es
 |_=>[]
def mT (l:L)(p:List (Nat×Nat)):af:=match gT l p with
 |some (_,es)=>es
 |none=>[]
def oJ (l:L)(p:List (Nat×Nat))(new:ax):af:=rowOf (lK l p new)
abbrev Pl :=Nat×Nat×List (Nat×Nat)
def rj (ps:List Pl):List (Nat×Nat):=ps.map fun p=>(p.1,p.2.1)
abbrev Qp :=L->List (Nat×Nat)->af
abbrev UpF :=L->List (Nat×Nat)->ax->af
def Hz {α:Type}(pr:(Unit->Prop)->Prop)(ps:Qp)(slot:Option Nat)(a:A)(k:L->List Pl->Rd α):Rd α:=
 match a,slot with
 | .v x,none=>if scal x then k (.v x) []else .fail
 | .vw r j ver lo m,some sz=>gn r j fun h=>match h.c with
   | .own (.s sz' es)=>if h.ver==ver&&sz'==sz then .req (pr fun _=>lo=0/\m=es.length) (k (.s sz' es) [(r,j,[])])else .fail
   |_=>.fail
 | .vn r j ver iv p lo m,some sz=>gn r j fun h=>match h.c with
   | .own (.s sz0 es0)=>if gV h ver iv then .req (pr fun _=>lo=0/\∃ es,gT (.s sz0 es0) p=some (sz,es)/\m=es.length) (k (.s sz (ps (.s sz0 es0) p)) [(r,j,p)])else .fail
   |_=>.fail
 |_,_=>.fail
def rY {α:Type}(pr:(Unit->Prop)->Prop)(psf:Qp):List (Option Nat)->List A->(ax->List Pl->Rd α)->Rd α
 |[],[],k=>k [] []
 |sl::sls,a::as,k=>Hz pr psf sl a fun l p=>rY pr psf sls as fun ls ps=>k (l::ls) (p++ps)
 |_,_,_=>.fail
def Fe {α:Type}(pr:(Unit->Prop)->Prop)(psf:Qp)(ty:TypeId->Option TI)(t:TypeId)(x:Operand)(k:DV->List Pl->Rd α):Rd α:=
 match ty t with
 |none=>.fail
 | some ti=>ev x fun val=>match val with
   | .one a=>if ti.agg then .fail else rY pr psf ti.slots [a] fun ls ps=>match ls with
     |[l]=>k (.one l) ps
     |_=>.fail
   | .agg as=>if ti.agg then rY pr psf ti.slots as fun ls ps=>k (.agg ls) ps else .fail
   | .tup _=>.fail
def xC {α:Type}(pr:(Unit->Prop)->Prop)(psf:Qp)(ty:TypeId->Option TI):List TypeId->List Operand->(List DV->List Pl->Rd α)->Rd α
 |[],[],k=>k [] []
 |t::ts,x::xs,k=>Fe pr psf ty t x fun d p=>xC pr psf ty ts xs fun ds ps=>k (d::ds) (p++ps)
 |_,_,_=>.fail
def Is {α:Type}(pr:(Unit->Prop)->Prop)(upf:UpF):List Pl->ax->(List W->Rd α)->Rd α
 |[],[],k=>k []
 | (r,j,p)::ps,o::os,k=>match o with
  | .s sz es'=>gn r j fun h=>match h.c with
    | .own (.s sz0 es0)=>match p with
      |[]=>if sz0==sz then .req (pr fun _=>es'.length=es0.length) (Is pr upf ps os fun ws=>k (.leaf r j ⟨h.ver,h.iv+1,h.org,.own (.s sz es')⟩::ws))else .fail
      |q::p'=>.req (pr fun _=>∃ es,gT (.s sz0 es0) (q::p')=some (sz,es)) (Is pr upf ps os fun ws=>k (.leaf r j ⟨h.ver,h.iv+1,h.org,.own (.s sz0 (upf (.s sz0 es0) (q::p') [.s sz es']))⟩::ws))
    |_=>.fail
  |_=>.fail
 |_,_,_=>.fail
abbrev MK :=List DV->Option ((Unit->Prop)×ax×List DV)
def sB (pr:(Unit->Prop)->Prop)(psf:Qp)(upf:UpF)(ty:TypeId->Option TI)(n:Nat)(d:Option Tmp)(body:Bool)(ts:Array TypeId)(args:Array Operand)(mk:MK)(rw:Nat->List DV->List W):Rd Out:=
 if body then xC pr psf ty ts.toList args.toList fun ds ps=>match mk ds with
  |some (pre,outs,res)=>if bz (rj ps)then .req (pr pre) (Is pr upf ps outs fun ws=>fresh n d fun d=>.ret (.ws (ws++rw d res)))else .fail
  |none=>.fail
 else .fail
def kY (f:Unit->Prop):Prop:=f ()
section
variable {P: Program} {o: Oper} {cx: Cx} {G: Gh} {g: Gm} {a: Act} {w: World}
def Fj (l:L)(p:List (Nat×Nat))(x:L):L:=match p with
 |[]=>x
 |q::p=>lK l (q::p) [x]
structure It where
 r:Nat
 j:Nat
 p:List (Nat×Nat)
 sz:Nat
 es:af
 v:Value
 Sa:List Nat
 S:List Nat
 Sb:List Nat
def It.pl (t:It):Pl:=(t.r,t.j,t.p)
def wD (g:Gm)(G:Gh)(w:World)(t:It):Prop:=
 ∃ h sz0 es0,g (.leaf t.r t.j)=some (.h h)/\h.c=.own (.s sz0 es0)/\G.fp t.r t.j=t.Sa++t.S++t.Sb/\bO w (.s t.sz t.es) t.v t.S/\
  ((t.p=[]/\sz0=t.sz/\es0=t.es)\/(t.p≠[]/\∃ rec o,bP (.s sz0 es0) t.p=some (rec,o)/\rec[o]?=some (.s t.sz t.es)))/\
  (∀ (w':World) (es':af) (S':List Nat),bO w' (.s t.sz es') t.v S'->(∀ c,c∈t.Sa\/c∈t.Sb->w'.heap[c]?=w.heap[c]?)->bO w' (Fj (.s sz0 es0) t.p (.s t.sz es')) (G.val t.r t.j) (t.Sa++S'++t.Sb))
def xt {l:L}{p:List (Nat×Nat)}{sz:Nat}{es:af}(h:gT l p=some (sz,es)):∃ rec o,bP l p=some (rec,o)/\rec[o]?=some (.s sz es):=by
 unfold gT at h;split at h
 ·rename_i rec o e;split at h
  ·rename_i sz' es' e2;cases h;exact⟨rec,o,e,e2⟩
  ·cases h
 ·cases h
def set_mid {rec:ax}{o:Nat}{x:L}(h:o<rec.length):rec.take o++[x]++rec.drop (o+1)=rec.set o x:=by
 rw[List.set_eq_take_append_cons_drop,VJ h];simp
def It.whole (hS:av cx G g a w){r j:Nat}{h:Hv}{sz:Nat}{es:af}(h1:g (.leaf r j)=some (.h h))(h2:h.c=.own (.s sz es)):wD g G w ⟨r,j,[],sz,es,G.val r j,[],G.fp r j,[]⟩:=by
 have hok:=hS.hok (ap.2 h1);simp only[dO,h2]at hok;refine⟨h,sz,es,h1,h2,by simp,hok.1,.inl ⟨rfl,rfl,rfl⟩,fun w' es' S' hr _=>?_⟩
 simpa[Fj]using hr
def It.nested (hS:av cx G g a w){r j ver iv lo m:Nat}{p:List (Nat×Nat)}{v:Value}{h:Hv}{sz0 sz:Nat}{es0 es:af}(h1:g (.leaf r j)=some (.h h))(h2:h.c=.own (.s sz0 es0)) 
 (hv:gq (gl g) G w (.vn r j ver iv p lo m) v) (hg:gV h ver iv=true) (hs:gT (.s sz0 es0) p=some (sz,es)) (hlo:lo=0) (hm:m=es.length):
 ∃ Sa S Sb,wD g G w ⟨r,j,p,sz,es,v,Sa,S,Sb⟩:=by
 obtain⟨h',f1,f2,f3,hp,f4⟩:=hv;rw[ap.2 h1]at f1;cases f1;obtain⟨rec,o,e1,e2⟩:=xt hs;obtain⟨b,oo,hv0,t1,t2,t3,t4⟩:=f4 hg _ rec o sz es h2 e1 e2;have hok:=hS.hok (ap.2 h1);simp only[dO,h2]at hok;obtain⟨cur,ty,fz,base,Sa,S1,Sb,g1,g2,g3,g4,g5,g6,g7⟩:=focus p _ _ _ b oo rec o hok.1 hok.2.1 t1 e1;obtain⟨Ta,T1,Tb,u,k1,k2,k3,k4⟩:=g6.upd o _ e2;have ho:o<rec.length:=(ZB.1 e2).1;have hu:u=hv0:=by
  have:=dp g1 k2;rw[g4,this]at t2;exact YB t2
 subst hu;have hvv:v=u:=by
  obtain⟨bs,len,cap,bs',cap',y1,y2,y3,y4,y5,y6⟩:=t4;simp only[bO]at k3;obtain⟨bs2,len2,cap2,z1,z2,_⟩:=k3;rw[y1]at z1;cases z1;exact y5 hlo Uc
 subst hvv;refine⟨Sa++Ta,T1,Tb++Sb,h,sz0,es0,h1,h2,by rw[g2,k1];simp,k3,.inr ⟨hp,rec,o,e1,e2⟩,fun w' es' S' hr hk=>?_⟩;have hnd:=hok.2.1;have r1:=k4 w' (.s sz es') S' hr (fun c hc=>hk c (by rcases hc with q|q;exact .inl (by simp[q]);exact .inr (by simp[q])));have hb:w'.heap[b]?=w.heap[b]?:=hk b (.inl (by simp[g3]));have r2:=g7 w' cur (rec.set o (.s sz es')) (Ta++S'++Tb) (by rw[hb];exact g1) rfl (fun _ _=>rfl) (by simp) r1 (fun c hc _=>hk c (by rcases hc with q|q;exact .inl (by simp[q]);exact .inr (by simp[q])));have hset:Fj (.s sz0 es0) p (.s sz es')=mr (.s sz0 es0) p (rec.set o (.s sz es')):=by
  have:Fj (.s sz0 es0) p (.s sz es')=lK (.s sz0 es0) p [.s sz es']:=by
   cases p with
   |nil=>exact absurd rfl hp
   |cons q p=>rfl
  rw[this,oH p _ rec o _ e1,List.length_singleton,set_mid ho]
 simp only;rw[hset]
 simpa using r2
inductive gu (g:Gm)(G:Gh)(w:World):ax->List It->List Value->Prop where
 |nil:gu g G w [] [] []
 |v {x:Value} {ls ts vs} (h:scal x=true) (hs:gu g G w ls ts vs):gu g G w (.v x::ls) ts (x::vs)
 |s {t:It} {ls ts vs} (h1:wD g G w t) (hs:gu g G w ls ts vs):gu g G w (.s t.sz t.es::ls) (t::ts) (t.v::vs)
def kV (ts:List It):List Nat:=(ts.map (·.S)).flatten
def sU {ts us:List It}:kV (ts++us)=kV ts++kV us:=by simp[kV]
def gu.rd {ls:ax}{ts:List It}{vs:List Value}(h:gu g G w ls ts vs):aj w ls vs (kV ts):=by
 induction h with
 |nil=>simp[aj,kV]
 |v h hs ih=>simp only[aj];exact⟨_,_,[],_,rfl,by simp[bO,h],ih,rfl⟩
 | @s t ls ts vs h1 hs ih=>
   obtain⟨_,_,_,_,_,_,hr,_⟩:=h1;simp only[aj];exact⟨_,_,t.S,_,rfl,hr,ih,rfl⟩
def gu.vals {ls:ax}{ts:List It}{vs:List Value}(h:gu g G w ls ts vs):PH ls vs=ts.map (·.v):=by
 induction h with
 |nil=>rfl
 |v h hs ih=>simpa[PH]using ih
 |s h1 hs ih=>simp[PH,ih]
def CG (hS:av cx G g a w){α:Type}{slot:Option Nat}{x:A}{v:Value}(hx:gq (gl g) G w x v){k:L->List Pl->Rd α}{ls:List Loc}{out:α} 
 (h:(Hz kY mT slot x k).Runs g ls out):∃ l ts ls',gu g G w [l] ts [v]/\(k l (ts.map It.pl)).Runs g ls' out:=by
 unfold Hz at h;split at h
 ·rename_i y;have hv:v=y:=hx;subst hv;split at h
  ·rename_i hs;exact⟨_,[],ls,.v hs .nil,h⟩
  ·exact h.elim
 ·rename_i r j ver lo m sz;obtain⟨hv,ls2,q1,q2,h⟩:=bD h;split at h
  ·rename_i sz' es hc;split at h
   ·rename_i hb;simp only[Zb,beq_iff_eq]at hb;obtain⟨hp,h⟩:=h;obtain⟨h0,h1⟩:lo=0/\m=es.length:=hp;obtain⟨h2,f1,f2,f3⟩:=hx;rw[q1]at f1;cases f1;obtain⟨f4,base,len,cap,base',cap',g1,g2,g3,g4,g5,g6⟩:=f3 hb.1 sz' es hc;have hok:=hS.hok q1;have:m=len:=by
     simp only[dO,hc,bO]at hok;obtain⟨⟨b0,n0,c0,r1,r2,_⟩,_⟩:=hok;rw[g1]at r1;cases r1;omega
    have e:=g5 h0 this;refine⟨_,[⟨r,j,[],sz',es,G.val r j,[],G.fp r j,[]⟩],ls2,?_,h⟩;rw[e];exact .s (It.whole hS q2 hc) .nil
   ·exact h.elim
  ·exact h.elim
 ·rename_i r j ver iv p lo m sz;obtain⟨hv,ls2,q1,q2,h⟩:=bD h;split at h
  ·rename_i sz0 es0 hc;split at h
   ·rename_i hb;obtain⟨hp,h⟩:=h;obtain⟨h0,es,h1,h2⟩:lo=0/\∃ es,gT (.s sz0 es0) p=some (sz,es)/\m=es.length:=hp;obtain⟨Sa,S,Sb,ht⟩:=It.nested hS q2 hc hx hb h1 h0 h2;have he:mT (.s sz0 es0) p=es:=by simp only[mT,h1]
    rw[he]at h;exact⟨_,[⟨r,j,p,sz,es,v,Sa,S,Sb⟩],ls2,.s ht .nil,h⟩
   ·exact h.elim
  ·exact h.elim
 ·exact h.elim
def gu.append {ls ls':ax}{ts ts':List It}{vs vs':List Value}(h:gu g G w ls ts vs)(h':gu g G w ls' ts' vs'):gu g G w (ls++ls') (ts++ts') (vs++vs'):=by
 induction h with
 |nil=>exact h'
 |v h hs ih=>exact .v h ih
 |s h1 hs ih=>exact .s h1 ih
def mn (hS:av cx G g a w){α:Type}:∀ (slots:List (Option Nat)) (as:List A) (vs:List Value),bQ (gl g) G w as vs->∀ (k:ax->List Pl->Rd α) (ls:List Loc) (out:α),(rY kY mT slots as k).Runs g ls out->
 ∃ l ts ls',gu g G w l ts vs/\(k l (ts.map It.pl)).Runs g ls' out
 |[],[],vs,hx,k,ls,out,h=>by simp only[bQ]at hx;subst hx;exact⟨[],[],ls,.nil,h⟩
 |[],_::_,vs,hx,k,ls,out,h=>h.elim
 |_::_,[],vs,hx,k,ls,out,h=>h.elim
 | sl::sls,x::as,vs,hx,k,ls,out,h=>by
   obtain⟨v,vs',rfl,h1,h2⟩:=hx;obtain⟨l,p,ls2,k1,h⟩:=CG hS h1 h;obtain⟨l2,p2,ls3,k2,h⟩:=mn hS sls as vs' h2 _ _ _ h;exact⟨l::l2,p++p2,ls3,k1.append k2,by rw[YZ];exact h⟩
inductive kB (g:Gm)(G:Gh)(w:World):List DV->List It->List Value->Prop where
 |nil:kB g G w [] [] []
 |one {l:L} {p v ds ps vs} (h:gu g G w [l] p [v]) (hs:kB g G w ds ps vs):kB g G w (.one l::ds) (p++ps) (v::vs)
 |agg {ls:ax} {p:List It} {us:List Value} {ds ps vs} (h:gu g G w ls p us) (hs:kB g G w ds ps vs):kB g G w (.agg ls::ds) (p++ps) (.agg us.toArray::vs)
def kB.rd {ds:List DV}{ps:List It}{vs:List Value}(h:kB g G w ds ps vs):bW w ds vs (kV ps):=by
 induction h with
 |nil=>simp[bW,kV]
 | @one l p v ds ps vs h hs ih=>
   have:=h.rd;simp only[aj]at this;obtain⟨v',vs',S1,S2,e,q1,⟨rfl,rfl⟩,q3⟩:=this;cases e;simp only[bW];exact⟨_,_,kV p,kV ps,rfl,by rw[q3,Z4];exact q1,ih,sU⟩
 | @agg ls p us ds ps vs h hs ih=>
   simp only[bW];exact⟨_,_,kV p,kV ps,rfl,⟨us,rfl,h.rd⟩,ih,sU⟩
def kB.vals {ds:List DV}{ps:List It}{vs:List Value}(h:kB g G w ds ps vs):ox ds vs=ps.map (·.v):=by
 induction h with
 |nil=>rfl
 |one h hs ih=>simp only[ox,h.vals,ih,YZ]
 |agg h hs ih=>simp only[ox,h.vals,ih,YZ]
def gu.mem {ls:ax}{ps:List It}{vs:List Value}(h:gu g G w ls ps vs):∀ p∈ps,wD g G w p:=by
 induction h with
 |nil=>intro p hp;cases hp
 |v h hs ih=>exact ih
 | s h1 hs ih=>
   intro p hp;rcases Zj.1 hp with rfl|hp;exact h1;exact ih p hp
def kB.mem {ds:List DV}{ps:List It}{vs:List Value}(h:kB g G w ds ps vs):∀ p∈ps,wD g G w p:=by
 induction h with
 |nil=>intro p hp;cases hp
 | one h hs ih=>
   intro p hp;rcases Zg.1 hp with q|q;exact h.mem p q;exact ih p q
 | agg h hs ih=>
   intro p hp;rcases Zg.1 hp with q|q;exact h.mem p q;exact ih p q
def CH (hS:av cx G g a w){ty:TypeId->Option TI}{t:TypeId}{x:Operand}{α:Type}{k:DV->List Pl->Rd α}{ls:List Loc}{out:α}(h:(Fe kY mT ty t x k).Runs g ls out):
 ∃ d p ls',(∀ ds ps vs,kB g G w ds ps vs->kB g G w (d::ds) (p++ps) (a.eval x::vs))/\(k d (p.map It.pl)).Runs g ls' out:=by
 unfold Fe at h;cases hti:ty t with
 |none=>simp[hti,Rd.Runs]at h
 | some ti=>
   simp only[hti]at h;obtain⟨r,ls1,hr,h⟩:=dh hS h;cases r with
   | one x0=>
     simp only[cK]at hr;simp only at h;split at h
     ·exact h.elim
     ·obtain⟨l,p,ls2,k1,h⟩:=mn hS _ [x0] [a.eval x] (by simp[bQ,hr]) _ _ _ h;split at h
      ·exact⟨_,p,ls2,fun ds ps vs hm=>.one k1 hm,h⟩
      ·exact h.elim
   | agg as=>
     simp only[cK]at hr;obtain⟨us,e,hr⟩:=hr;simp only at h;split at h
     ·obtain⟨l,p,ls2,k1,h⟩:=mn hS _ as us hr _ _ _ h;exact⟨_,p,ls2,fun ds ps vs hm=>by rw[e];exact .agg k1 hm,h⟩
     ·exact h.elim
   |tup rs=>exact h.elim
def te (hS:av cx G g a w){ty:TypeId->Option TI}{α:Type}:∀ (ts:List TypeId) (xs:List Operand) (k:List DV->List Pl->Rd α) (ls:List Loc) (out:α),(xC kY mT ty ts xs k).Runs g ls out->
 ∃ ds ps ls',kB g G w ds ps (xs.map a.eval)/\(k ds (ps.map It.pl)).Runs g ls' out
 |[],[],k,ls,out,h=>⟨[],[],ls,.nil,h⟩
 |[],_::_,k,ls,out,h=>h.elim
 |_::_,[],k,ls,out,h=>h.elim
 | t::ts,x::xs,k,ls,out,h=>by
   simp only[xC]at h;obtain⟨d,p,ls2,k1,h⟩:=CH hS h;obtain⟨ds,ps,ls3,k2,h⟩:=te hS ts xs _ _ _ h;exact⟨d::ds,p++ps,ls3,k1 _ _ _ k2,by rw[YZ];exact h⟩
def PF {sz:Nat}{es:af}{p:List (Nat×Nat)}{new:ax}{y:ax×Nat}(h:bP (.s sz es) p=some y):lK (.s sz es) p new=.s sz (oJ (.s sz es) p new)/\(oJ (.s sz es) p new).length=es.length:=by
 match p with
 |[]=>simp[bP]at h
 |[(i,j)]=>exact⟨rfl,by simp[oJ,lK,rowOf]⟩
 |(i,j)::q::p=>exact⟨rfl,by simp[oJ,lK,rowOf]⟩
inductive na (g:Gm):List It->ax->List Hv->Prop where
 |nil:na g [] [] []
 | cons {t:It} {h:Hv} {sz0:Nat} {es0 es1 es':af} {ps os hs} (h1:g (.leaf t.r t.j)=some (.h h)) (h2:h.c=.own (.s sz0 es0)) (h3:Fj (.s sz0 es0) t.p (.s t.sz es')=.s sz0 es1) (h4:es1.length=es0.length) (hs':na g ps os hs):
    na g (t::ps) (.s t.sz es'::os) (⟨h.ver,h.iv+1,h.org,.own (.s sz0 es1)⟩::hs)
def cZ:List (Nat×Nat)->List Hv->List W
 |(r,j)::ps,h::hs=>.leaf r j h::cZ ps hs
 |_,_=>[]
def wU (ts:List It):List (Nat×Nat):=ts.map fun t=>(t.r,t.j)
def Px {ts:List It}:rj (ts.map It.pl)=wU ts:=by simp[rj,wU,It.pl,WS]
def pL {α:Type}:∀ (ts:List It) (os:ax) (k:List W->Rd α) (ls:List Loc) (out:α),(∀ t∈ts,wD g G w t)->(Is kY oJ (ts.map It.pl) os k).Runs g ls out->∃ hs ls',na g ts os hs/\(k (cZ (wU ts) hs)).Runs g ls' out
 |[],[],k,ls,out,_,h=>⟨[],ls,.nil,h⟩
 |[],_::_,k,ls,out,_,h=>h.elim
 |_::_,[],k,ls,out,_,h=>h.elim
 | t::ps,o::os,k,ls,out,hm,h=>by
   obtain⟨h0,sz0',es0',m1,m2,_,_,m3,_⟩:=hm t (by simp);cases o with
   |v x=>exact h.elim
   |g=>exact h.elim
   |m _ _=>exact h.elim
   | s sz es'=>
     obtain⟨r,j,p,tsz,tes,tv,tSa,tS,tSb⟩:=t;simp only[ZU,It.pl,Is]at h;obtain⟨hv,ls2,q1,q2,h⟩:=bD h;simp only at m1 m3;rw[q2]at m1;cases m1;split at h
     ·rename_i sz0 es0 hc;rw[hc]at m2;cases m2;cases p with
      | nil=>
        simp only at h;split at h
        ·rename_i hb;simp only[beq_iff_eq]at hb;subst hb;obtain⟨hp,h⟩:=h;obtain⟨hs,ls3,k1,k2⟩:=pL ps os _ _ _ (fun t ht=>hm t (by simp[ht])) h;rcases m3 with⟨_,e1,e2⟩|⟨e1,_⟩
         ·subst e1;exact⟨_,ls3,.cons (t:=⟨r,j,[],sz0',tes,tv,tSa,tS,tSb⟩) q2 hc rfl hp k1,k2⟩
         ·exact absurd rfl e1
        ·exact h.elim
      | cons q p'=>
        obtain⟨hp,h⟩:=h;obtain⟨es,hp⟩:∃ es,gT (.s sz0' es0') (q::p')=some (sz,es):=hp;obtain⟨hs,ls3,k1,k2⟩:=pL ps os _ _ _ (fun t ht=>hm t (by simp[ht])) h;rcases m3 with⟨e1,_⟩|⟨_,rec,o,e1,e2⟩
        ·cases e1
        ·obtain⟨rec',o',e3,e4⟩:=xt hp
         skip
         rw[e1]at e3;cases e3;rw[e2]at e4;cases e4;obtain⟨z1,z2⟩:=PF (new:=[.s sz es']) e1;exact⟨_,ls3,.cons (t:=⟨r,j,q::p',sz,tes,tv,tSa,tS,tSb⟩) q2 hc z1 z2 k1,k2⟩
     ·exact h.elim
def C4:List (Nat×Nat)->List Hv->List (List Nat)->Ups
 |p::ps,h::hs,S::Ss,r,j=>if(r,j)=p then some (h,S)else C4 ps hs Ss r j
 |_,_,_,_,_=>none
def A5:∀ {ps:List (Nat×Nat)} {hs:List Hv} {Ss:List (List Nat)} {r j:Nat} {x:Hv×List Nat},C4 ps hs Ss r j=some x->∃ i:Nat,ps[i]?=some (r,j)/\hs[i]?=some x.1/\Ss[i]?=some x.2
 |[],_,_,r,j,x,h=>by cases h
 |_::_,[],_,r,j,x,h=>by cases h
 |_::_,_::_,[],r,j,x,h=>by cases h
 | p::ps,hv::hs,S::Ss,r,j,x,h=>by
   simp only[C4]at h;split at h
   ·rename_i e;cases h;exact⟨0,by simp[e],rfl,rfl⟩
   ·obtain⟨i,h1,h2,h3⟩:=A5 h;exact⟨i+1,by simpa using h1,by simpa using h2,by simpa using h3⟩
def zd:∀ {ps:List (Nat×Nat)} {hs:List Hv} {Ss:List (List Nat)} {r j:Nat},hs.length=ps.length->Ss.length=ps.length->(r,j)∈ps->∃ x,C4 ps hs Ss r j=some x
 |[],_,_,r,j,_,_,h=>by cases h
 |_::_,[],_,r,j,h,_,_=>by simp at h
 |_::_,_::_,[],r,j,_,h,_=>by simp at h
 | p::ps,hv::hs,S::Ss,r,j,h1,h2,h=>by
   simp only[C4];split;exact⟨_,rfl⟩
   ·rename_i e;rcases Zj.1 h with q|q;exact absurd q e;exact zd (by simpa using h1) (by simpa using h2) q
def A4:∀ {ps:List (Nat×Nat)} {hs:List Hv} {Ss:List (List Nat)} {r j:Nat},(r,j)∉ps->C4 ps hs Ss r j=none
 |[],_,_,r,j,_=>rfl
 |_::_,[],_,r,j,_=>rfl
 |_::_,_::_,[],r,j,_=>rfl
 | p::ps,hv::hs,S::Ss,r,j,h=>by
   simp only[Zj,not_or]at h;simp only[C4];rw[VK h.1];exact A4 h.2
def jT {p:Nat×Nat}{ps:List (Nat×Nat)}(h:bz (p::ps)=true):p∉ps/\bz ps=true:=by
 simp only[bz,Zb,Bool.not_eq_true',List.contains_eq_mem,decide_eq_false_iff_not]at h;exact h
def Ac:∀ {ps:List (Nat×Nat)} {hs:List Hv} {Ss:List (List Nat)} {g:Gm},bz ps=true->hs.length=ps.length->Ss.length=ps.length->
 (∀ d,bh g (cZ ps hs) (.reg d)=g (.reg d))/\(∀ d,bh g (cZ ps hs) (.meta_ d)=g (.meta_ d))/\∀ r j,bh g (cZ ps hs) (.leaf r j)=match C4 ps hs Ss r j with
   |some x=>some (.h x.1)
   |none=>g (.leaf r j)
 |[],[],_,g,_,_,_=>⟨fun _=>rfl,fun _=>rfl,fun _ _=>rfl⟩
 |[],_::_,_,g,_,h,_=>by simp at h
 |_::_,[],_,g,_,h,_=>by simp at h
 |_::_,_::_,[],g,_,_,h=>by simp at h
 | (r0,j0)::ps,h::hs,S::Ss,g,hd,hl,hl2=>by
  obtain⟨hn,hd2⟩:=jT hd;obtain⟨k1,k2,k3⟩:=Ac (Ss:=Ss) (g:=(W.leaf r0 j0 h).app g) hd2 (by simpa using hl) (by simpa using hl2);refine⟨fun d=>?_,fun d=>?_,fun r j=>?_⟩
  ·simp only[cZ,bh];rw[k1];simp[W.app]
  ·simp only[cZ,bh];rw[k2];simp[W.app]
  ·simp only[cZ,bh];rw[k3];simp only[C4];by_cases e:(r,j)=(r0,j0)
   ·cases e;rw[VJ rfl,A4 hn];simp[W.app]
   ·rw[VK e];cases C4 ps hs Ss r j with
    |some x=>rfl
    |none=>simp only[W.app];rw[VK (by intro q;cases q;exact e rfl)]
def na.length {ps:List It}{os:ax}{hs:List Hv}(h:na g ps os hs):hs.length=ps.length/\os.length=ps.length:=by
 induction h with
 |nil=>exact⟨rfl,rfl⟩
 |cons _ _ _ _ _ ih=>simp[ih.1,ih.2]
def na.at {ps:List It}{os:ax}{hs:List Hv}(h:na g ps os hs):∀ (i:Nat) (t:It) (h':Hv),ps[i]?=some t->hs[i]?=some h'->∃ h sz0 es0 es1 es',g (.leaf t.r t.j)=some (.h h)/\h.c=.own (.s sz0 es0)/\h'=⟨h.ver,h.iv+1,h.org,.own (.s sz0 es1)⟩/\Fj (.s sz0 es0) t.p (.s t.sz es')=.s sz0 es1/\es1.length=es0.length/\os[i]?=some (.s t.sz es'):=by
 induction h with
 |nil=>intro i t h' e;simp at e
 | @cons t0 h0 sz0 es0 es1 es' ps os hs h1 h2 h3 h4 hr ih=>
   intro i t h' e1 e2;cases i with
   |zero=>simp at e1 e2;subst e1 e2;exact⟨h0,sz0,es0,es1,es',h1,h2,rfl,h3,h4,rfl⟩
   |succ i=>simp at e1 e2;obtain⟨a1,a2,a3,a4,a5,q⟩:=ih i t h' e1 e2;exact⟨a1,a2,a3,a4,a5,by simpa using q⟩
def qp {ps:List It}{b:Nat}(h:b∈kV ps):∃ p∈ps,b∈p.S:=by
 simp only[kV,Wi,ZW]at h;obtain⟨l,⟨p,hp,rfl⟩,hb⟩:=h;exact⟨p,hp,hb⟩
def wD.tok (hS:av cx G g a w){t:It}(h:wD g G w t):(G.fp t.r t.j).Nodup/\(∀ b∈G.fp t.r t.j,G.ow b=some (.leaf t.r t.j)/\ed w b)/\G.fp t.r t.j=t.Sa++t.S++t.Sb:=by
 obtain⟨h,sz,es,e1,e2,e3,_⟩:=h;have:=hS.hok (ap.2 e1);simp only[dO,e2]at this;exact⟨this.2.1,this.2.2,e3⟩
def vj (hS:av cx G g a w):∀ {ps:List It},bz (wU ps)=true->(∀ p∈ps,wD g G w p)->(kV ps).Nodup/\∀ b∈kV ps,ed w b
 |[],_,_=>⟨ZO,fun b hb=>by cases hb⟩
 | p::ps,hd,hm=>by
   obtain⟨hn,hd2⟩:=jT hd;obtain⟨k1,k2⟩:=vj hS hd2 (fun q hq=>hm q (by simp[hq]));obtain⟨t1,t2,t3⟩:=(hm p (by simp)).tok hS;have e:kV (p::ps)=p.S++kV ps:=by simp[kV]
   have hin:∀ b∈p.S,b∈G.fp p.r p.j:=fun b hb=>by rw[t3];simp[hb]
   rw[e];refine⟨Zu.2 ⟨(mj (t3▸t1)).1,k1,fun x hx y hy exy=>?_⟩,fun b hb=>?_⟩
   ·subst exy;obtain⟨q,hq,hxq⟩:=qp hy;obtain⟨_,u2,u3⟩:=(hm q (by simp[hq])).tok hS;have h1:=(t2 x (hin x hx)).1;have h2:=(u2 x (by rw[u3];simp[hxq])).1;rw[h1]at h2
    injection h2 with h2
    injection h2 with e1 e2
    exact hn (ZW.2 ⟨q,hq,by show(q.r,q.j)=(p.r,p.j);rw[e1,e2]⟩)
   ·rcases Zg.1 hb with q|q;exact(t2 b (hin b q)).2;exact k2 b q
end
end Go.V
namespace Go.V
def mO:∀ {ps:List (Nat×Nat)},bz ps=true->ps.Nodup
 |[],_=>ZO
 | p::ps,h=>by
   obtain⟨h1,h2⟩:=jT h;exact Yn.2 ⟨h1,mO h2⟩
instance: Inhabited It:=⟨⟨0,0,[],0,[],undef,[],[],[]⟩⟩
section
variable {P: Program} {o: Oper} {cx: Cx} {G: Gh} {g: Gm} {a: Act} {w: World} {ls: List Loc} {K: Act -> World -> Prop} {Q: Exit -> Act -> World -> Prop}
def zw {f:FuncId}{ts:Array TypeId}{args:Array Operand}(ho:o.op=.call {callee:=.value (.func f),args:=args,argTypes:=ts})(hS:av cx G g a w){ty:TypeId->Option TI}{mk:MK} 
 {ws:List W} (h:(sB kY mT oJ ty cx.n o.dst (da P f) ts args mk dt).Runs g ls (.ws ws)) (hc:∀ ds pre outs res,mk ds=some (pre,outs,res)->pre ()->EH P f ds outs res)
 (hk:∀ a' w',d5 cx (bh g ws) a' w'->K a' w'):o.wp P a w K Q:=by
 unfold sB at h;split at h
 case isFalse=>exact h.elim
 rename_i hbody;obtain⟨ds,ps,ls1,hargs,h⟩:=te hS _ _ _ _ _ h;split at h
 case h_2=>exact h.elim
 rename_i pre outs res hmk;split at h
 case isFalse=>exact h.elim
 rename_i hdist;obtain⟨hpre,h⟩:=h;rw[Px]at hdist;obtain⟨hs,ls2,hups,h⟩:=pL _ _ _ _ _ hargs.mem h;obtain⟨d,ls3,hd,hlt,hm,h⟩:=cJ h;simp only[Rd.Runs,Out.ws.injEq]at h;obtain⟨_,rfl⟩:=h;have hex:(execOp a.eval o).run P w=.ok (.enter f (args.map a.eval)) w:=by
  unfold execOp;simp only[ho,resolve,Z1,Y7,ZL,Ye,ZY,invoke,Y8,Xt];exact d6 hbody _
 unfold YE;rw[hex];simp only[Y4];obtain⟨hnd,hunf⟩:=vj hS hdist hargs.mem;have hcall:=hc ds pre outs res hmk hpre w (args.toList.map a.eval) (kV ps) hargs.rd hnd hunf;have harr:(args.toList.map a.eval).toArray=args.map a.eval:=by rw[<-Yq,Yr]
 rw[harr]at hcall;refine hcall.mono ?_;rintro e w' ⟨v,Sr,So,rfl,hres,hout,hnd2,hfr,hsame⟩;rw[hd];refine hk _ _ ?_;rw[hargs.vals]at hout;obtain⟨Su,u1,u2,u3⟩:=hout.items;obtain⟨vs,lv,hlv,hv⟩:∃ vs lv,xU w' res vs lv Sr/\((∃ dv,res=[dv]/\vs=[v])\/v=.tuple vs.toArray/\∀ dv,res≠[dv]):=by
  cases res with
  |nil=>obtain⟨vs,e,h2⟩:=hres;obtain⟨lv,k⟩:=bW.lv h2;exact⟨vs,lv,k,.inr ⟨e,fun dv e=>by cases e⟩⟩
  | cons d1 rest=>
    cases rest with
    | nil=>
      have h2:bW w' [d1] [v] Sr:=by simp only[bW];exact⟨v,[],Sr,[],rfl,hres,⟨rfl,rfl⟩,by simp⟩
      obtain⟨lv,k⟩:=bW.lv h2;exact⟨[v],lv,k,.inl ⟨d1,rfl,rfl⟩⟩
    |cons d2 rest=>obtain⟨vs,e,h2⟩:=hres;obtain⟨lv,k⟩:=bW.lv h2;exact⟨vs,lv,k,.inr ⟨e,fun dv e=>by cases e⟩⟩
 have hrec:=hlv.rec_;obtain⟨Ss,s1,s2,s3⟩:=hrec.items;obtain⟨l1,l2⟩:=hups.length;have l3:Su.length=ps.length:=by omega
 rw[Zu]at hnd2;obtain⟨n1,n2,n3⟩:=hnd2
 let F:List (List Nat):=(Ze ps.length).map fun i=>(ps.getD i default).Sa++Su.getD i []++(ps.getD i default).Sb
 have lF:F.length=(wU ps).length:=by simp[F,wU]
 have l1':hs.length=(wU ps).length:=by simp[wU,l1]
 obtain⟨a1,a2,a3⟩:=Ac (Ss:=F) (g:=g) hdist l1' lF;have hSu:∀ {i:Nat} {S:List Nat},Su[i]?=some S->Su.getD i []=S:=fun e=>by simp[ZE,e]
 have hSuS:∀ {i:Nat} {b:Nat},b∈Su.getD i []->b∈So:=fun {i b} hb=>by
  rw[<-u1];exact fu (k:=i) hb
 have item:∀ {r j:Nat} {h':Hv} {S':List Nat},C4 (wU ps) hs F r j=some (h',S')->∃ (i:Nat) (t:It),ps[i]?=some t/\t.r=r/\t.j=j/\hs[i]?=some h'/\S'=t.Sa++Su.getD i []++t.Sb/\wD g G w t:=by
  intro r j h' S' hx;obtain⟨i,i1,i2,i3⟩:=A5 hx;simp only[wU,ZC,Zy]at i1;obtain⟨t,e1,e2⟩:=i1;cases e2;refine⟨i,t,e1,rfl,rfl,i2,?_,hargs.mem t (Zx e1)⟩;have hi:i<ps.length:=(ZB.1 e1).1;simp only[F,ZC,Xg hi,Yk,Yd]at i3;rw[<-i3];simp[ZE,e1]
 have side:∀ {t:It} {b:Nat},t∈ps->b∈t.Sa\/b∈t.Sb->b∉kV ps/\G.ow b=some (.leaf t.r t.j)/\ed w b/\b∈G.fp t.r t.j:=by
  intro t b ht hb;obtain⟨t1,t2,t3⟩:=(hargs.mem t ht).tok hS;have hbf:b∈G.fp t.r t.j:=by rw[t3];rcases hb with q|q<;>simp[q]
  refine⟨fun hbS=>?_,(t2 b hbf).1,(t2 b hbf).2,hbf⟩;obtain⟨q,hq,hbq⟩:=qp hbS;obtain⟨_,v2,v3⟩:=(hargs.mem q hq).tok hS;have h1:=(t2 b hbf).1;have h2:=(v2 b (by rw[v3];simp[hbq])).1;rw[h1]at h2
  injection h2 with h2
  injection h2 with e1 e2
  have:t=q:=by
   have hd:=hdist;obtain⟨i,hi⟩:=Yt ht;obtain⟨i',hi'⟩:=Yt hq;have h3:(wU ps)[i]?=some (t.r,t.j):=by simp[wU,hi]
   have h4:(wU ps)[i']?=some (q.r,q.j):=by simp[wU,hi']
   rw[<-e1, <-e2]at h4;obtain⟨l3,m3⟩:=ZB.1 h3;obtain⟨l4,m4⟩:=ZB.1 h4;have:=(List.getElem_inj (mO hd)).1 (m3.trans m4.symm);subst this;rw[hi]at hi';cases hi';rfl
  subst this;have:=(mj (t3▸t1)).2 b hbq;rcases hb with q|q;exact this.1 q;exact this.2 q
 have same:∀ {t:It} {b:Nat},t∈ps->b∈t.Sa\/b∈t.Sb->w'.heap[b]?=w.heap[b]?:=fun {t b} ht hb=>
  hsame.block b (hS.lt b _ (side ht hb).2.1) (side ht hb).1
 have hso:∀ {t:It} {b:Nat},t∈ps->b∈t.Sa\/b∈t.Sb->b∉Sr/\b∉So:=by
  intro t b ht hb;obtain⟨s1,s2,s3,s4⟩:=side ht hb;have hlt:=hS.lt b _ s2;refine⟨fun hx=>?_,fun hx=>?_⟩
  ·rcases(hfr b (Zg.2 (.inl hx))).2 with q|q;omega;exact s1 q
  ·rcases(hfr b (Zg.2 (.inr hx))).2 with q|q;omega;exact s1 q
 have hl:∀ r j,((W.root d false ((res.flatMap bJ).map fun l=>⟨0,0,none,.own l⟩)).app (bh g (cZ (wU ps) hs))) (.leaf r j)=if r=d then(((res.flatMap bJ).map fun l=>(⟨0,0,none,.own l⟩:Hv))[j]?).map .h else match C4 (wU ps) hs F r j with
  |some x=>some (.h x.1)
  |none=>g (.leaf r j):=by
  intro r j;simp only[W.app];split;rfl;exact a3 r j
 obtain⟨G',k1,k2⟩:=hS.call (C4 (wU ps) hs F) hm ((res.flatMap bJ).map fun l=>⟨0,0,none,.own l⟩) w' ((W.root d false ((res.flatMap bJ).map fun l=>⟨0,0,none,.own l⟩)).app (bh g (cZ (wU ps) hs)))
  (fun e=>by simp only[W.app];exact a1 e)
  (fun r=>by
    simp only[W.app];split;rfl
    ·exact a2 r)
  hl hsame.os hsame.tape hsame.output hsame.size
  (by
    intro b hb hno;refine hsame.block b hb (fun hbS=>?_);obtain⟨p,hp,hbp⟩:=qp hbS;obtain⟨x,hx⟩:=zd (Ss:=F) l1' lF (ZW.2 ⟨p,hp,rfl⟩);exact hno p.r p.j x hx (by rw[((hargs.mem p hp).tok hS).2.2];simp[hbp]))
  (by
    intro r j h' S' hx;obtain⟨i,t,i1,rfl,rfl,i2,i3,i4⟩:=item hx;obtain⟨h,sz0,es0,es1,es',q1,q2,q3,q4,q5,q6⟩:=hups.at i t h' i1 i2;obtain⟨h4,sz4,es4,z1,z2,z3,_,_,z4⟩:=i4;rw[q1]at z1;cases z1;rw[q2]at z2;cases z2;have ht:=Zx i1;refine⟨h,sz0,es0,es1,q1,q2,q3,q5,?_,?_⟩
    ·obtain⟨v',y1,y2⟩:=u3 i _ q6;rw[ZC,i1]at y1;cases y1;have:=z4 w' es' _ y2 (fun c hc=>same ht hc);rw[q4]at this;rw[i3];exact this
    ·have m1:=iG (by rw[u1];exact n2) i;have tk:=(hargs.mem t ht).tok hS;have m2:=mj (tk.2.2▸tk.1);have m3:(t.Sa++t.Sb).Nodup:=by
      have h:=tk.2.2▸tk.1;rw[Zu]at h ⊢;obtain⟨x1,x2,x3⟩:=h;rw[Zu]at x1;exact⟨x1.1,x2,fun a ha b hb=>x3 a (by simp[ha]) b hb⟩
     rw[i3];rw[Zu]at m3;refine Zu.2 ⟨Zu.2 ⟨m3.1,m1,fun a ha b hb e=>?_⟩,m3.2.1,fun a ha b hb e=>?_⟩
     ·subst e;exact(hso ht (.inl ha)).2 (hSuS hb)
     ·subst e;rcases Zg.1 ha with q|q;exact m3.2.2 a q a hb rfl
      ·exact(hso ht (.inr hb)).2 (hSuS q))
  (fun j=>lv.getD j undef) (fun j=>Ss.getD j [])
  (by
    intro j h hj;simp only[ZC,Zy]at hj;obtain⟨l,e1,rfl⟩:=hj;obtain⟨u,q1,q2⟩:=s3 j l e1;exact⟨l,rfl,by simpa[ZE,q1]using q2,iG (by rw[s1];exact n1) j⟩)
  (by
    have fromS:∀ b,b∈Sr++So->ed w' b/\(w.heap.size<=b\/∃ r j x,C4 (wU ps) hs F r j=some x/\b∈G.fp r j):=by
     intro b hbb;obtain⟨q1,q2⟩:=hfr b hbb;refine⟨q1,?_⟩;rcases q2 with q2|q2;exact .inl q2
     ·obtain⟨p,hp,hbp⟩:=qp q2;obtain⟨x,hx⟩:=zd (Ss:=F) l1' lF (ZW.2 ⟨p,hp,rfl⟩);exact .inr ⟨p.r,p.j,x,hx,by rw[((hargs.mem p hp).tok hS).2.2];simp[hbp]⟩
    rintro b (⟨j,_,hbj⟩|⟨r,j,h',S',hx,hbS⟩);exact fromS b (Zg.2 (.inl (by rw[<-s1];exact fu hbj)))
    ·obtain⟨i,t,i1,rfl,rfl,_,i3,_⟩:=item hx;rw[i3]at hbS;have ht:=Zx i1;have hside:b∈t.Sa\/b∈t.Sb->ed w' b/\(w.heap.size<=b\/∃ r j x,C4 (wU ps) hs F r j=some x/\b∈G.fp r j):=by
      intro hb;obtain⟨y1,y2,y3,y4⟩:=side ht hb;exact⟨y3.keep (same ht hb),.inr ⟨_,_,_,hx,y4⟩⟩
     rcases Zg.1 hbS with hbS|hbS
     ·rcases Zg.1 hbS with hbS|hbS;exact hside (.inl hbS);exact fromS b (Zg.2 (.inr (hSuS hbS)))
     ·exact hside (.inr hbS))
  (fun i j _ _ hij=>ft (by rw[s1];exact n1) i j hij)
  (by
    intro i r j h' S' _ hx b hb hbS;obtain⟨i2,t,i1,rfl,rfl,_,i3,_⟩:=item hx;have ht:=Zx i1;have hbr:b∈Sr:=by rw[<-s1];exact fu hb
    rw[i3]at hbS;rcases Zg.1 hbS with hbS|hbS
    ·rcases Zg.1 hbS with hbS|hbS;exact(hso ht (.inl hbS)).1 hbr;exact n3 b hbr b (hSuS hbS) rfl
    ·exact(hso ht (.inr hbS)).1 hbr)
  (by
    intro r j h' S' r2 j2 h2 S2 hx hx2 hne b hb hb2;obtain⟨i,t,i1,rfl,rfl,_,i3,_⟩:=item hx;obtain⟨i',t',i1',rfl,rfl,_,i3',_⟩:=item hx2;have hii:i≠i':=by rintro rfl;rw[i1]at i1';cases i1';exact hne rfl
    have ht:=Zx i1;have ht':=Zx i1';have cs:∀ {t:It} {i:Nat},b∈t.Sa++Su.getD i []++t.Sb->(b∈t.Sa\/b∈t.Sb)\/b∈Su.getD i []:=by
     intro t i h;rcases Zg.1 h with h|h
     ·rcases Zg.1 h with h|h;exact .inl (.inl h);exact .inr h
     ·exact .inl (.inr h)
    rw[i3]at hb;rw[i3']at hb2;rcases cs hb with hb|hb<;>rcases cs hb2 with hb2|hb2
    ·have o1:=(side ht hb).2.1;have o2:=(side ht' hb2).2.1;rw[o1]at o2
     injection o2 with o2
     injection o2 with e1 e2
     exact hne (by rw[e1,e2])
    ·exact(hso ht hb).2 (hSuS hb2)
    ·exact(hso ht' hb2).2 (hSuS hb)
    ·exact ft (by rw[u1];exact n2) i i' hii b hb hb2)
 rw[cE];simp only[dt,bh];refine⟨G',k1.put hlt ?_⟩;have hgl:∀ i l,(res.flatMap bJ)[i]?=some l->gl ((W.root d false ((res.flatMap bJ).map fun l=>⟨0,0,none,.own l⟩)).app (bh g (cZ (wU ps) hs))) d (0+i)=some ⟨0,0,none,.own l⟩:=by
  intro i l e;simp[gl,W.app,e]
 have hval:∀ i u,lv[i]?=some u->G'.val d (0+i)=u:=by
  intro i u e;rw[k2,ZP];simp[ZE,e]
 have hall:=nU (G:=G') res 0 vs lv Sr hlv (fun i l e=>⟨none,hgl i l e⟩) hval;rcases hv with⟨dv,rfl,rfl⟩|⟨rfl,hne⟩
 ·simp only[gY];simp only[kn,hZ]at hall;obtain⟨v',vs',e,h1,_⟩:=hall;cases e;exact h1
 ·have:gY d res=.tup (kn d 0 res):=by
   unfold gY;split;exact absurd rfl (hne _);rfl
  rw[this];simp only[cK];exact⟨vs,rfl,hall⟩
end
end Go.V
namespace Go.V
section
variable {cx: Cx} {g: Gm} {G: Gh} {a: Act} {w: World}
abbrev UpP :=Nat->Nat->Option (Hv×Value×List Nat)
open Classical in
def av.callP (hS:av cx G g a w)(u:UpP)(nr:Option Nat)(hd:∀ d,nr=some d->g (.meta_ d)=none)(hs:List Hv)(hnr:nr=none->hs=[])(w':World)(g':Gm) 
 (hgr:∀ e,g' (.reg e)=g (.reg e)) (hgm:∀ r,g' (.meta_ r)=if nr=some r then some (.m hs.length false)else g (.meta_ r))
 (hgl:∀ r j,g' (.leaf r j)=if nr=some r then(hs[j]?).map .h else match u r j with
   |some x=>some (.h x.1)
   |none=>g (.leaf r j))
 (hos:w'.os=w.os) (htape:w'.tape=w.tape) (hout:w'.output=w.output) (hsize:w.heap.size<=w'.heap.size)
 (hsame:∀ b,b<w.heap.size->(∀ r j x h l,u r j=some x->g (.leaf r j)=some (.h h)->h.c=.own l->b∉G.fp r j)->(∀ r j x off,u r j=some x->G.loc r≠some (b,off))->w'.heap[b]?=w.heap[b]?)
 (hu:∀ r j x,u r j=some x->∃ h l,g (.leaf r j)=some (.h h)/\h.ver<x.1.ver/\h.iv<=x.1.iv/\x.1.org=none/\x.1.c=.own l/\bO w' l x.2.1 x.2.2/\x.2.2.Nodup)
 (hub:∀ r j x,u r j=some x->∃ y,G.loc r=some y)
 (hbox:∀ b r j x off,u r j=some x->G.loc r=some (b,off)->∃ cur cur' ty,w.heap[b]?=some (.cells cur ty (0,0))/\w'.heap[b]?=some (.cells cur' ty (0,0))/\cur'.size=cur.size/\
   (∀ r' j' x' off',u r' j'=some x'->G.loc r'=some (b,off')->cur'[off'+j']?=some x'.2.1)/\(∀ i,(∀ r' j' x' off',u r' j'=some x'->G.loc r'=some (b,off')->i≠off'+j')->cur'[i]?=cur[i]?))
 (nv:Nat->Value) (nf:Nat->List Nat) (hnew:∀ j h,hs[j]?=some h->∃ l,h=⟨0,0,none,.own l⟩/\bO w' l (nv j) (nf j)/\(nf j).Nodup)
 (hfree:∀ b,((∃ j,j<hs.length/\b∈nf j)\/∃ r j x,u r j=some x/\b∈x.2.2)->ed w' b/\(w.heap.size<=b\/∃ r j x h l,u r j=some x/\g (.leaf r j)=some (.h h)/\h.c=.own l/\b∈G.fp r j))
 (Qu:∀ i j,i<hs.length->j<hs.length->i≠j->∀ b∈nf i,b∉nf j)
 (hd2:∀ i r j x,i<hs.length->u r j=some x->∀ b∈nf i,b∉x.2.2)
 (hd3:∀ r j x r2 j2 x2,u r j=some x->u r2 j2=some x2->(r,j)≠(r2,j2)->∀ b∈x.2.2,b∉x2.2.2):
 ∃ G',av cx G' g' a w'/\(∀ d,nr=some d->∀ j,G'.val d j=nv j):=by
 have hlf:∀ d,nr=some d->∀ j,g (.leaf d j)=none:=by
  intro d hnd j;cases e:g (.leaf d j)with
  |none=>rfl
  |some y=>obtain⟨h,k,bx,e1,e2,_⟩:=hS.leaf d j y e;rw[hd d hnd]at e2;cases e2
 have hgd:∀ d,nr=some d->∀ j,gl g d j=none:=fun d hnd j=>by simp[gl,hlf d hnd]
 have hloc:∀ d,nr=some d->G.loc d=none:=by
  intro d hnd;cases e:G.loc d with
  |none=>rfl
  |some y=>obtain⟨k,hk⟩:=hS.noloc d y e;rw[hd d hnd]at hk;cases hk
 let isN:Nat->Prop:=fun b=>∃ j,j<hs.length/\b∈nf j
 let isU:Nat->Prop:=fun b=>∃ p:Nat×Nat,∃ x,u p.1 p.2=some x/\b∈x.2.2
 let d0:=nr.getD 0
 have hd0:∀ d,nr=some d->d0=d:=fun d e=>by simp[d0,e]
 have hN0:∀ j,j<hs.length->nr=some d0:=by
  intro j hj;cases e:nr with
  |none=>rw[hnr e]at hj;simp at hj
  |some d=>simp[d0,e]
 let G':Gh:={
  loc:=G.loc
  val:=fun r j=>if nr=some r then nv j else match u r j with
   |some x=>x.2.1
   |none=>G.val r j
  fp:=fun r j=>if nr=some r then nf j else match u r j with
   |some x=>x.2.2
   |none=>G.fp r j
  ow:=fun b=>if h:isN b then some (.leaf d0 h.choose)else if h:isU b then some (.leaf h.choose.1 h.choose.2)else G.ow b
  lead:=G.lead}
 have ufp:∀ r j x h l,u r j=some x->g (.leaf r j)=some (.h h)->h.c=.own l->∀ b∈G.fp r j,G.ow b=some (.leaf r j)/\ed w b:=by
  intro r j x h l hx e1 e2 b hb;have:=hS.hok (ap.2 e1);simp only[dO,e2]at this;exact this.2.2 b hb
 have ownN:∀ j,j<hs.length->∀ b∈nf j,G'.ow b=some (.leaf d0 j):=by
  intro j hj b hb;have h2:isN b:=⟨j,hj,hb⟩;simp only[G',dif_pos h2];have:=h2.choose_spec;by_cases e:h2.choose=j
  ·rw[e]
  ·exact absurd hb (Qu _ j this.1 hj e b this.2)
 have ownU:∀ r j x,u r j=some x->∀ b∈x.2.2,G'.ow b=some (.leaf r j):=by
  intro r j x hx b hb;have h1:¬ isN b:=fun⟨i,hi,hbi⟩=>hd2 i r j x hi hx b hbi hb
  have h2:isU b:=⟨(r,j),x,hx,hb⟩;simp only[G',dif_neg h1,dif_pos h2];obtain⟨x3,q1,q2⟩:=h2.choose_spec;by_cases e:h2.choose=(r,j)
  ·rw[e]
  ·exact absurd hb (hd3 _ _ x3 r j x q1 hx (fun e'=>e e') b q2)
 have fresh:∀ b,isN b\/isU b->ed w' b/\(w.heap.size<=b\/∃ r j x h l,u r j=some x/\g (.leaf r j)=some (.h h)/\h.c=.own l/\b∈G.fp r j):=by
  intro b hb;refine hfree b ?_;rcases hb with⟨j,hj,hbj⟩|⟨p,x,q1,q2⟩;exact .inl ⟨j,hj,hbj⟩;exact .inr ⟨p.1,p.2,x,q1,q2⟩
 have notnew:∀ b t,G.ow b=some t->(∀ r j,t=.leaf r j->u r j=none)->¬ isN b/\¬ isU b:=by
  intro b t ht hl;have hb:=hS.lt b t ht;have:¬ (isN b\/isU b):=by
   intro hn;rcases(fresh b hn).2 with h|⟨r,j,x,h,l,q1,q3,q4,q2⟩;omega
   ·rw[(ufp r j x h l q1 q3 q4 b q2).1]at ht;cases ht;rw[hl r j rfl]at q1;cases q1
  exact⟨fun h=>this (.inl h),fun h=>this (.inr h)⟩
 have owk:∀ b t,G.ow b=some t->(∀ r j,t=.leaf r j->u r j=none)->G'.ow b=some t:=by
  intro b t ht hl;obtain⟨h1,h2⟩:=notnew b t ht hl;simp only[G',dif_neg h1,dif_neg h2];exact ht
 have ubox:∀ r j x b off,u r j=some x->G.loc r=some (b,off)->G.ow b=some (.box (G.lead r)):=by
  intro r j x b off _ hl;obtain⟨k,hk⟩:=hS.noloc r _ hl;obtain⟨b',off',cur,ty,f1,f2,_⟩:=hS.boxes r k hk;rw[hl]at f1;cases f1;exact f2
 have same:∀ b t,G.ow b=some t->(∀ r j,t=.leaf r j->u r j=none)->(∀ k,t≠ .box k)->w'.heap[b]?=w.heap[b]?:=by
  intro b t ht hl hb;refine hsame b (hS.lt b t ht) (fun r j x h l hx e1 e2 hbf=>?_) (fun r j x off hx hlc=>?_)
  ·rw[(ufp r j x h l hx e1 e2 b hbf).1]at ht;cases ht;rw[hl r j rfl]at hx;cases hx
  ·rw[ubox r j x b off hx hlc]at ht;cases ht;exact hb _ rfl
 have st:Step g G w g' G' w':=by
  refine⟨fun r j h e=>?_,fun b hb=>⟨owk b _ hb (fun r j e=>by cases e),same b _ hb (fun r j e=>by cases e) (fun k e=>by cases e)⟩,fun b hb=>⟨owk b _ hb (fun r j e=>by cases e),same b _ hb (fun r j e=>by cases e) (fun k e=>by cases e)⟩,fun r y e=>e⟩;have hrd:¬ nr=some r:=by intro c;rw[hgd r c]at e;cases e
  cases hx:u r j with
  | none=>
    refine⟨h,ap.2 (by rw[hgl,VK hrd,hx];exact ap.1 e),.inl ⟨rfl,by simp[G',hrd,hx],fun l hc b hb=>?_⟩⟩;have:=hS.hok e;simp only[dO,hc]at this;exact same b _ (this.2.2 b hb).1 (fun r' j' e'=>by cases e';exact hx) (fun k e=>by cases e)
  | some x=>
    obtain⟨h0,l,e1,e2,e3,_⟩:=hu r j x hx;rw[ap,e1]at e;cases e;exact⟨x.1,ap.2 (by rw[hgl,VK hrd,hx]),.inr (.inr ⟨e2,e3⟩)⟩
 have cells:∀ r k b off,g (.meta_ r)=some (.m k true)->G.loc r=some (b,off)->∃ cur cur' ty,w.heap[b]?=some (.cells cur ty (0,0))/\w'.heap[b]?=some (.cells cur' ty (0,0))/\cur'.size=cur.size/\
  (∀ j,j<k->cur'[off+j]?=some (match u r j with|some x=>x.2.1|none=>G.val r j))/\
  (∀ i,(∀ r' k' off',g (.meta_ r')=some (.m k' true)->G.loc r'=some (b,off')->(∃ j x,u r' j=some x)->i<off'\/off'+k'<=i)->cur'[i]?=cur[i]?):=by
  intro r k b off hk hl;obtain⟨b',off',cur,ty,f1,f2,f3,f4,f5⟩:=hS.boxes r k hk;rw[hl]at f1;cases f1;by_cases c:∃ r1 j1 x1 off1,u r1 j1=some x1/\G.loc r1=some (b,off1)
  ·obtain⟨r1,j1,x1,off1,c1,c2⟩:=c;obtain⟨cur0,cur',ty',q1,q2,q3,q4,q5⟩:=hbox b r1 j1 x1 off1 c1 c2;rw[f3]at q1;cases q1;refine⟨cur,cur',ty,f3,q2,q3,fun j hj=>?_,fun i hi=>?_⟩
   ·cases hx:u r j with
    |some x=>exact q4 r j x off hx hl
    | none=>
      rw[q5 _ ?_];exact f5 j hj;intro r2 j2 x2 off2 d1 d2 e;by_cases crr:r2=r
      ·subst crr;rw[hl]at d2;cases d2;have:j2=j:=by omega
       subst this;rw[hx]at d1;cases d1
      ·obtain⟨h2,l2,m1,_⟩:=hu r2 j2 x2 d1;obtain⟨_,k2,bx,_,m2,m3,_⟩:=hS.leaf r2 j2 _ m1;obtain⟨k3,hk3⟩:=hS.noloc r2 _ d2;rw[m2]at hk3;cases hk3;have:=hS.sep r2 r k2 k b off2 off crr m2 hk d2 hl;omega
   ·refine q5 i (fun r2 j2 x2 off2 d1 d2 e=>?_);obtain⟨h2,l2,m1,_⟩:=hu r2 j2 x2 d1;obtain⟨_,k2,bx,_,m2,m3,_⟩:=hS.leaf r2 j2 _ m1;obtain⟨k3,hk3⟩:=hS.noloc r2 _ d2;rw[m2]at hk3;cases hk3;have:=hi r2 k2 off2 m2 d2 ⟨j2,x2,d1⟩;omega
  ·have hw:w'.heap[b]?=w.heap[b]?:=hsame b (Zz.1 f3).1 (fun r1 j1 x1 h l hx e1 e2 hbf=>by rw[(ufp r1 j1 x1 h l hx e1 e2 b hbf).1]at f2;cases f2)
    (fun r1 j1 x1 off1 hx hl1=>c ⟨r1,j1,x1,off1,hx,hl1⟩)
   refine⟨cur,cur,ty,f3,by rw[hw];exact f3,rfl,fun j hj=>?_,fun i _=>rfl⟩;cases hx:u r j with
   |some x=>exact absurd ⟨r,j,x,off,hx,hl⟩ c
   |none=>exact f5 j hj
 have hroX:∀ b,G'.ow b=some .ro->cx.ro b:=fun b e=>hS.roX b (by simp only[G']at e;(repeat' split at e)<;>first|(cases e;done)|exact e)
 refine⟨G',⟨hS.defers,hS.tm,?_,?_,?_,?_,?_,?_,⟨hos.trans hS.frame.os,htape.trans hS.frame.tape,hout.trans hS.frame.output,ZA hS.frame.size hsize,fun b hb hf=>Eq.trans ?_ (hS.frame.block b hb hf)⟩,?_,?_,?_,?_,?_,hS.newb,hroX⟩,fun d hnd j=>by simp[G',hnd]⟩
 ·intro e y hy;rw[hgr]at hy;obtain⟨e1,y',e2,e3⟩:=hS.reg e y hy;exact⟨e1,y',e2,cK.step hS st _ _ e3⟩
 ·intro r k hk;rw[hgm]at hk;by_cases c:nr=some r
  ·rw[VJ c]at hk;cases hk
  ·rw[VK c]at hk;obtain⟨b,o,cur,ty,f1,f2,f3,f4,f5⟩:=hS.boxes r k hk;obtain⟨cur0,cur',ty',q1,q2,q3,q4,_⟩:=cells r k b o hk f1;rw[f3]at q1;cases q1;refine⟨b,o,cur',ty,f1,owk b _ f2 (fun r j e=>by cases e),q2,Uc,fun j hj=>?_⟩;rw[q4 j hj];simp only[G',VK c]
 ·intro r j y hy;rw[hgl]at hy;by_cases c:nr=some r
  ·rw[VJ c]at hy;cases e:hs[j]? with
   |none=>simp[e]at hy
   | some h=>
     simp[e]at hy;subst hy;have hj:j<hs.length:=(ZB.1 e).1;refine⟨h,hs.length,false,rfl,by rw[hgm,VJ c],hj,?_⟩;obtain⟨l,rfl,q1,q2⟩:=hnew j h e;simp only[dO,G',VJ c];refine⟨q1,q2,fun b hb=>?_⟩;have:=ownN j hj b hb;rw[hd0 r c]at this;exact⟨this,(fresh b (.inl ⟨j,hj,hb⟩)).1⟩
  ·rw[VK c]at hy;cases hx:u r j with
   | some x=>
     simp only[hx]at hy;cases hy;obtain⟨h0,l,e1,e2,e3,e4,e5,e6,e7⟩:=hu r j x hx;obtain⟨h,k,bx,q1,q2,q3,_⟩:=hS.leaf r j _ e1;refine⟨x.1,k,bx,rfl,by rw[hgm,VK c];exact q2,q3,?_⟩;simp only[dO,e5,G',VK c,hx];exact⟨e6,e7,fun b hb=>⟨ownU r j x hx b hb,(fresh b (.inr ⟨(r,j),x,hx,hb⟩)).1⟩⟩
   | none=>
     simp only[hx]at hy;obtain⟨h,k,bx,e1,e2,e3,e4⟩:=hS.leaf r j y hy;refine⟨h,k,bx,e1,by rw[hgm,VK c];exact e2,e3,?_⟩;subst e1;cases hc:h.c with
     | own l=>
       simp only[dO,hc]at e4 ⊢;simp only[G',VK c,hx];refine⟨bO.keep _ _ _ e4.1 (fun b hb=>same b _ (e4.2.2 b hb).1 (fun r' j' e=>by cases e;exact hx) (fun k e=>by cases e)),e4.2.1,fun b hb=>?_⟩;obtain⟨f1,f2⟩:=e4.2.2 b hb;have hk:=same b _ f1 (fun r' j' e=>by cases e;exact hx) (fun k e=>by cases e);exact⟨owk b _ f1 (fun r' j' e=>by cases e;exact hx),f2.keep hk⟩
     | ro l=>
       simp only[dO,hc]at e4 ⊢;obtain⟨S',f1,f2⟩:=e4;exact⟨S',by simp only[G',VK c,hx];exact bO.keep _ _ _ f1 (fun b hb=>same b _ (f2 b hb) (fun r j e=>by cases e) (fun k e=>by cases e)),fun b hb=>owk b _ (f2 b hb) (fun r j e=>by cases e)⟩
     |gone=>simp only[dO,hc]
 ·intro r y hy;rw[hgm]at hy;by_cases c:nr=some r
  ·rw[VJ c]at hy;cases hy;exact⟨_,_,rfl⟩
  ·rw[VK c]at hy;exact hS.metas r y hy
 ·intro r y hy;have c:¬ nr=some r:=by intro c;rw[show G'.loc r=G.loc r from rfl,hloc r c]at hy;cases hy
  obtain⟨k,hk⟩:=hS.noloc r y hy;exact⟨k,by rw[hgm,VK c];exact hk⟩
 ·intro b t ht;by_cases h1:isN b;exact(fresh b (.inl h1)).1.lt
  ·by_cases h2:isU b;exact(fresh b (.inr h2)).1.lt
   ·simp only[G',dif_neg h1,dif_neg h2]at ht;exact Ym (hS.lt b t ht) hsize
 ·refine hsame b (Ym hb hS.frame.size) (fun r j x h l hx e1 e2 hbf=>?_) (fun r j x off hx hl=>?_)
  ·rcases hS.frow b hb hf with e|e<;>rw[(ufp r j x h l hx e1 e2 b hbf).1]at e<;>cases e
  ·rcases hS.frow b hb hf with e|e<;>rw[ubox r j x b off hx hl]at e<;>cases e
 ·intro b hb hf;rcases hS.frow b hb hf with e|e
  ·have:¬ (isN b\/isU b):=by
    intro hn;rcases(fresh b hn).2 with h|⟨r,j,x,h,l,q1,q3,q4,q2⟩
    ·have:=hS.frame.size;omega
    ·rw[(ufp r j x h l q1 q3 q4 b q2).1]at e;cases e
   left
   simp only[G',dif_neg (fun h=>this (.inl h)),dif_neg (fun h=>this (.inr h))];exact e
  ·exact .inr (owk b _ e (fun r j e=>by cases e))
 ·intro r j h e;rw[ap,hgl]at e;by_cases c:nr=some r
  ·rw[VJ c,Zy]at e;obtain⟨h2,e1,e2⟩:=e;cases e2;obtain⟨l,rfl,_⟩:=hnew j _ e1;exact eJ.none
  ·rw[VK c]at e;simp only[G',VK c];cases hx:u r j with
   |none=>simp only[hx]at e ⊢;exact hS.anc r j h (ap.2 e)
   | some x=>
     simp only[hx]at e;cases e;obtain⟨h0,l,e1,e2,e3,e4,_⟩:=hu r j x hx;rw[e4];exact eJ.none
 ·intro r x hx;obtain⟨h1,h2⟩:=hS.aloc r x hx;have c:¬ nr=some r:=by intro c;rw[hloc r c]at h1;cases h1
  exact⟨h1,by rw[hgm,VK c];exact h2⟩
 ·intro r b off hx;obtain⟨h1,h2⟩:=hS.aloc r _ hx;obtain⟨cur,cur',ty,q1,q2,q3,q4,q5⟩:=cells r _ b off h2 h1;obtain⟨c0,c1,ty1,m1,m2,m3,m4⟩:=hS.afr r b off hx;rw[m2]at q1;cases q1;refine⟨c0,cur',ty,m1,q2,Uc,fun i hi=>?_⟩;rw[q5 i ?_];exact m4 i hi;intro r2 k2 off2 d1 d2 _;by_cases hal:∃ y,cx.aloc r2=some y
  ·obtain⟨y,hy⟩:=hal;obtain⟨g1,g2⟩:=hS.aloc r2 y hy;rw[d2]at g1;cases g1;rw[d1]at g2;cases g2;exact hi r2 off2 hy
  ·have:=hS.newb r2 b off2 d2 (by cases e:cx.aloc r2 with|none=>rfl|some x=>exact absurd ⟨x,e⟩ hal);have:=(Zz.1 m1).1;omega
 ·intro r1 r2 k1 k2 b o1 o2 hne h1 h2 q1 q2;rw[hgm]at h1 h2;split at h1
  ·cases h1
  ·split at h2
   ·cases h2
   ·exact hS.sep r1 r2 k1 k2 b o1 o2 hne h1 h2 q1 q2
end
end Go.V
namespace Go.V
def zq (P:Program)(ct:FuncId->List DV->Option ((Unit->Prop)×List DV))(n:Nat)(d:Option Tmp)(t:Tmp)(ts:Array TypeId)(args:Array Operand):Rd Out:=
 fF (.tmp t) fun
  | .fn f caps=>pO P ts.toList args.toList fun ds=>ff caps fun recs=>match ct f (ds++recs.map .ptr)with
    |some (pre,res)=>.req (pre ()/\da P f=true) (fresh n d fun d=>.ret (.ws (dt d res)))
    |none=>.fail
  |_=>.fail
section
variable {P: Program} {o: Oper} {cx: Cx} {G: Gh} {g: Gm} {a: Act} {w: World} {ls: List Loc} {ws: List W} {K: Act -> World -> Prop} {Q: Exit -> Act -> World -> Prop}
def hP.args:∀ {recs:af} {ps:List Value} {S:List Nat},hP w recs ps S->dz (fun _=>True) w (recs.map .ptr) ps
 |[],ps,S,h=>h.1
 | r::rs,ps,S,h=>by
   obtain⟨v,vs',S1,S2,rfl,h1,h2,_⟩:=h;exact⟨v,vs',S1,rfl,h1,fun _ _=>trivial,hP.args h2⟩
def dz.append {ok:Nat->Prop}:∀ {ds es:List DV} {vs us:List Value},dz ok w ds vs->dz ok w es us->dz ok w (ds++es) (vs++us)
 |[],es,vs,us,h,k=>by simp only[dz]at h;subst h;exact k
 | d::ds,es,vs,us,h,k=>by
   obtain⟨v,vs',S,rfl,h1,h2,h3⟩:=h;exact⟨v,vs'++us,S,rfl,h1,h2,h3.append k⟩
def zu {ct:FuncId->List DV->Option ((Unit->Prop)×List DV)}(hct:∀ f ds pre res,ct f ds=some (pre,res)->pre ()->FI P f ds res){t:Tmp}{ts:Array TypeId}{args:Array Operand} 
 (ho:o.op=.call {callee:=.value (.tmp t),args:=args,argTypes:=ts}) (hS:av cx G g a w) (h:(zq P ct cx.n o.dst t ts args).Runs g ls (.ws ws))
 (hk:∀ a' w',d5 cx (bh g ws) a' w'->K a' w'):o.wp P a w K Q:=by
 obtain⟨x0,ls1,hx,h⟩:=bu hS h;cases x0 with
 | fn f caps=>
   obtain⟨ps,e,hc⟩:=hx;obtain⟨ds,ls2,hargs,h⟩:=kC hS _ _ _ _ _ h;obtain⟨recs,S,ls3,hp,h⟩:=iJ hS _ _ _ _ _ hc h;split at h
   case h_2=>exact h.elim
   rename_i pre res he;obtain⟨⟨hpre,hbody⟩,h⟩:=h;obtain⟨d,ls4,hd,hlt,hm,h⟩:=cJ h;simp only[Rd.Runs,Out.ws.injEq]at h;obtain⟨_,rfl⟩:=h;have hex:(execOp a.eval o).run P w=.ok (.enter f (args.map a.eval++ps.toArray)) w:=by
    unfold execOp;simp only[ho,resolve,e,Y7,ZL,Ye,ZY,invoke,Y8];exact d6 hbody _
   unfold YE;rw[hex];simp only[Y4];have hcall:=hct f _ pre res he hpre w (args.toList.map a.eval++ps) (hargs.append hp.args);have harr:(args.toList.map a.eval++ps).toArray=args.map a.eval++ps.toArray:=by rw[<-List.append_toArray, <-Yq,Yr]
   rw[harr]at hcall;refine hcall.mono ?_;rintro e w' ⟨v,S,rfl,hres,hnd,hfr,hsame⟩;rw[hd];exact hk _ _ (xd hS hlt hm hres hnd hfr hsame)
 |_=>exact h.elim
end
structure fe where
 b:Nat
 off:Nat
 hs:List H
 val:Nat->Value
 fp:Nat->List Nat
def kK (ps:List fe)(b:Nat):Prop:=∃ p∈ps,∃ j l,p.hs[j]?=some (.own l)/\b∈p.fp j
def oP (ps:List fe)(b:Nat):Prop:=∃ p∈ps,p.b=b
def fy (w:World)(ok:Nat->Prop):List DV->List Value->List fe->Prop
 |[],vs,ps=>vs=[]/\ps=[]
 | .mp hs::ds,vs,ps=>∃ p ps' vs',vs=.pointer (some ⟨p.b,p.off,none⟩)::vs'/\ps=p::ps'/\p.hs=hs/\fy w ok ds vs' ps'
 |d::ds,vs,ps=>∃ v vs' S,vs=v::vs'/\mG w d v S/\(∀ b∈S,ok b)/\fy w ok ds vs' ps
structure MP (w:World)(ds:List DV)(vs:List Value)(ps:List fe):Prop where
 args:fy w (fun b=>¬ kK ps b/\¬ oP ps b) ds vs ps
 cell:∀ p∈ps,∃ cur ty,w.heap[p.b]?=some (.cells cur ty (0,0))/\p.off+p.hs.length<=cur.size/\∀ j,j<p.hs.length->cur[p.off+j]?=some (p.val j)
 own:∀ p∈ps,∀ j l,p.hs[j]?=some (.own l)->bO w l (p.val j) (p.fp j)/\(p.fp j).Nodup/\∀ b∈p.fp j,ed w b
 ro:∀ p∈ps,∀ j l,p.hs[j]?=some (.ro l)->bO w l (p.val j) (p.fp j)/\∀ b∈p.fp j,¬ kK ps b/\¬ oP ps b
 gone:∀ p∈ps,∀ j:Nat,p.hs[j]?≠some .gone
 disj:∀ (i j i' j':Nat) p p' l l',ps[i]?=some p->ps[i']?=some p'->p.hs[j]?=some (.own l)->p'.hs[j']?=some (.own l')->(i,j)≠(i',j')->∀ b∈p.fp j,b∉p'.fp j'
 sep:∀ (i i':Nat) p p',i≠i'->ps[i]?=some p->ps[i']?=some p'->p.b=p'.b->p.off+p.hs.length<=p'.off\/p'.off+p'.hs.length<=p.off
 box:∀ b,oP ps b->¬ kK ps b
structure FN (w:World)(ps:List fe)(outs:List (List H))(w':World)(ps':List fe)(Sr:List Nat):Prop where
 len:ps'.length=ps.length
 same:∀ (i:Nat) p p',ps[i]?=some p->ps'[i]?=some p'->p'.b=p.b/\p'.off=p.off/\outs[i]?=some p'.hs/\p'.hs.length=p.hs.length
 cell:∀ p∈ps',∃ cur ty,w'.heap[p.b]?=some (.cells cur ty (0,0))/\∀ j,j<p.hs.length->cur[p.off+j]?=some (p.val j)
 own:∀ p∈ps',∀ j l,p.hs[j]?=some (.own l)->bO w' l (p.val j) (p.fp j)/\(p.fp j).Nodup
 ro:∀ (i:Nat) p p' j l,ps[i]?=some p->ps'[i]?=some p'->p'.hs[j]?=some (.ro l)->p.hs[j]?=some (.ro l)/\p'.val j=p.val j
 gone:∀ p∈ps',∀ j:Nat,p.hs[j]?≠some .gone
 disj:∀ (i j i' j':Nat) p p' l l',ps'[i]?=some p->ps'[i']?=some p'->p.hs[j]?=some (.own l)->p'.hs[j']?=some (.own l')->(i,j)≠(i',j')->∀ b∈p.fp j,b∉p'.fp j'
 res:Sr.Nodup/\∀ b∈Sr,¬ kK ps' b
 tok:∀ b,(b∈Sr\/kK ps' b)->ed w' b/\(w.heap.size<=b\/kK ps b)
 frame:Same (fun b=>¬ kK ps b/\¬ oP ps b) w w'
 blk:∀ b,oP ps b->∃ cur cur' ty,w.heap[b]?=some (.cells cur ty (0,0))/\w'.heap[b]?=some (.cells cur' ty (0,0))/\cur'.size=cur.size/\∀ i,(∀ p∈ps,p.b=b->i<p.off\/p.off+p.hs.length<=i)->cur'[i]?=cur[i]?
def xV (P:Program)(f:FuncId)(ds:List DV)(outs:List (List H))(res:List DV):Prop:=
 ∀ (w:World) (vs:List Value) (ps:List fe),MP w ds vs ps->Calls P f vs.toArray w fun e w'=>∃ v Sr ps',e=.returned v/\gd w' res v Sr/\FN w ps outs w' ps' Sr
abbrev kx :=Nat×Nat×List H
def kW {α:Type}(r:Nat):Nat->Nat->(List H->Rd α)->Rd α
 |_,0,k=>k []
 | j,m+1,k=>gn r j fun h=>match h.c with
   | .own l=>kW r (j+1) m fun hs=>k (.own l::hs)
   | .ro l=>kW r (j+1) m fun hs=>k (.ro l::hs)
   | .gone=>.fail
section
variable (al: ∀ {β : Type}, List (Option Nat) -> List A -> (ax -> Rd β) -> Rd β) (ty pty: TypeId -> Option TI) (isP: TypeId -> Bool)
def yI {α:Type}(t:TypeId)(x:Operand)(k:DV->List (Nat×Nat)->List kx->Rd α):Rd α:=
 match ty t with
 | some ti=>ev x fun val=>match val with
   | .one a=>if ti.agg then .fail else al ti.slots [a] fun ls=>match ls with
     |[l]=>k (.one l) (Fl a) []
     |_=>.fail
   | .agg as=>if ti.agg then al ti.slots as fun ls=>k (.agg ls) (as.flatMap Fl) []else .fail
   | .tup _=>.fail
 | none=>if isP t then fF x fun
   | .pt r j=>match pty t with
     |some ti=>if 0<ti.zero.length then kW r j ti.zero.length fun hs=>k (.mp hs) [] [(r,j,hs)]else .fail
     |none=>.fail
   |_=>.fail else .fail
def qH {α:Type}:List TypeId->List Operand->(List DV->List (Nat×Nat)->List kx->Rd α)->Rd α
 |[],[],k=>k [] [] []
 |t::ts,x::xs,k=>yI al ty pty isP t x fun d src pt=>qH ts xs fun ds srcs pts=>k (d::ds) (src++srcs) (pt++pts)
 |_,_,_=>.fail
end
def Ed (p q:kx):Bool:= !(p.1.beq q.1)||(p.2.1+p.2.2.length).ble q.2.1||(q.2.1+q.2.2.length).ble p.2.1
def mU:List kx->Bool
 |[]=>true
 |p::ps=>ps.all (Ed p)&&mU ps
def Az (s:Nat×Nat)(p:kx):Bool:=s.1.beq p.1&&(p.2.1.ble s.2&&(s.2+1).ble (p.2.1+p.2.2.length))
def Ir {α:Type}(r:Nat):Nat->List H->List H->(List W->Rd α)->Rd α
 |_,[],[],k=>k []
 | j,h::hs,o::os,k=>match o with
   | .own l=>gn r j fun hv=>Ir r (j+1) hs os fun ws=>k (.leaf r j ⟨hv.ver+1,hv.iv+1,none,.own l⟩::ws)
   | .ro _=>match h with
     | .ro _=>Ir r (j+1) hs os k
     |_=>.fail
   | .gone=>.fail
 |_,_,_,_=>.fail
def Fu {α:Type}:List kx->List (List H)->(List W->Rd α)->Rd α
 |[],[],k=>k []
 |p::ps,os::oss,k=>Ir p.1 p.2.1 p.2.2 os fun w1=>Fu ps oss fun w2=>k (w1++w2)
 |_,_,_=>.fail
abbrev PK :=List DV->Option ((Unit->Prop)×List (List H)×List DV)
def sD (pr:(Unit->Prop)->Prop)(al:∀ {β:Type},List (Option Nat)->List A->(ax->Rd β)->Rd β)(ty pty:TypeId->Option TI)(isP:TypeId->Bool)(n:Nat)(d:Option Tmp)(body:Bool)(ts:Array TypeId)(args:Array Operand)(mk:PK)(rw:Nat->List DV->List W):Rd Out:=
 if body then qH al ty pty isP ts.toList args.toList fun ds srcs pts=>match mk ds with
  | some (pre,outs,res)=>if mU pts&&srcs.all (fun s=>pts.all fun p=> !Az s p)then .req (pr pre) (Fu pts outs fun ws=>match d with
     |some _=>fresh n d fun d=>.ret (.ws (ws++rw d res))
     |none=>.ret (.ws ws))else .fail
  |none=>.fail
 else .fail
end Go.V