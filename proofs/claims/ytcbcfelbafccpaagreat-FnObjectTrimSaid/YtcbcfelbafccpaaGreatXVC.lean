/-
  A condition generator for functions on trees of data, part 3 of 5: values in memory, contracts, soundness.
-/
import Derived.Test.YtcbcfelbafccpaaGreatXVB
set_option linter.all false
open Go
open Act renaming put->ZT,eval->Z1
open BitVec renaming ofInt->ZR
open Bool renaming and_eq_true->Zb,or_eq_true->Yc,eq_false_iff->W0
open Classical renaming byContradiction->VD
open Deferred renaming ofValue->Y7
open Function renaming comp_apply->VE
open Instr renaming findNow->W5,lookup->Wo,mapUpdate->Wp,mapEntry->Wq,entryStore->W8
open IntKind renaming i64->Za
open List renaming all_eq_true->ZV,mem_of_getElem?->Zx,mem_cons->Zj,mem_map->ZW,getElem?_eq_getElem->Zt,getElem?_eq_some_iff->ZB,getElem?_map->ZC,mem_append->Zg,length_map->YY,getElem?_of_mem->Yt,getD->ZE,append_assoc->Zn,drop_take->YN,take_take->Y5,drop_drop->Z9,length_drop->Zo,append_nil->Z4,nodup_nil->ZO,ext_getElem?->ZQ,getElem?_set->Xz,getElem?_inj->W7,not_mem_nil->Xe,length_append->Zh,length_take->Zi,getElem?_append_left->ZN,getElem?_take->Zw,getElem?_append_right->ZM,getElem?_drop->Zv,nodup_append->Zu,take_append_drop->ZK,getElem?_eq_none->Z8,length_cons->Zr,length_nil->Zs,map_cons->ZU,mem_cons_of_mem->X6,replicate->Zk,range->Ze,getD_eq_getElem?_getD->Zp
open List.cons renaming injEq->Vd
open MapKept renaming run_getObj_map->Xa,run_checkKey->Xi,run_findKey->Xj,run_setObj_map->Xu,run_keyThatStays->W6,heap_set->W9
open Nat renaming eq_of_beq_eq_true->Ys,beq_refl->WY,le_of_ble_eq_true->Y9,ble_eq_true_of_le->WZ,lt_or_ge->Z7,le_refl->Zf,lt_succ_self->YH,zero_add->ZP,add_mul->Zl,beq->Z5,add_zero->Yi,lt_irrefl->X4,lt_of_lt_of_le->Ym
open Obj renaming map->Va
open Oper renaming wp->YE,upon->Y4
open Option renaming getD_some->Z6,map_eq_some_iff->Zy,none->XE
open Option.some renaming injEq->Yd,inj->YB
open Region renaming wanted->YI
open Result renaming andThen_ok->ZY,andThen->ZZ
open Sem renaming run_bind->ZL,run_pure->Ye
open _root_.Array renaming toList_map->Yq,toArray_toList->Yr,empty_append->Y8,append_empty->Xt,getElem?_eq_some_iff->Zz,getElem?_toList->ZX,getElem?_modify->YQ,length_toList->ZF,size_push->Vb
namespace Go.V
def vU:∀ {pts:List kx},mU pts=true->∀ (i i':Nat) (p p':kx),i<i'->pts[i]?=some p->pts[i']?=some p'->Ed p p'=true
 |[],_,i,i',p,p',_,h,_=>by simp at h
 | q::ps,h,i,i',p,p',hi,h1,h2=>by
   simp only[mU,Zb,ZV]at h;cases i with
   | zero=>
     simp at h1;subst h1;cases i' with
     |zero=>omega
     |succ i'=>simp at h2;exact h.1 p' (Zx h2)
   | succ i=>
     cases i' with
     |zero=>omega
     |succ i'=>simp at h1 h2;exact vU h.2 i i' p p' Uc h1 h2
def xz {p q:kx}:Ed p q=true↔p.1≠q.1\/p.2.1+p.2.2.length<=q.2.1\/q.2.1+q.2.2.length<=p.2.1:=by
 have hb:∀ a b:Nat,a.beq b=true↔a=b:=fun a b=>⟨Ys,fun e=>by subst e;exact WY a⟩
 have hl:∀ a b:Nat,a.ble b=true↔a<=b:=fun a b=>⟨Y9,WZ⟩
 unfold Ed;simp only[Yc,Bool.not_eq_true',hl];rw[W0,Ne,hb];simp[or_assoc]
def GX {s:Nat×Nat}{p:kx}:Az s p=true↔s.1=p.1/\p.2.1<=s.2/\s.2<p.2.1+p.2.2.length:=by
 have hb:∀ a b:Nat,a.beq b=true↔a=b:=fun a b=>⟨Ys,fun e=>by subst e;exact WY a⟩
 have hl:∀ a b:Nat,a.ble b=true↔a<=b:=fun a b=>⟨Y9,WZ⟩
 unfold Az;simp only[Zb,hb,hl]
 constructor
 ·rintro⟨h1,h2,h3⟩;exact⟨h1,h2,Uc⟩
 ·rintro⟨h1,h2,h3⟩;exact⟨h1,h2,Uc⟩
def vV {pts:List kx}(h:mU pts=true){i i':Nat}{p p':kx}(hi:i≠i')(h1:pts[i]?=some p)(h2:pts[i']?=some p'):p.1≠p'.1\/p.2.1+p.2.2.length<=p'.2.1\/p'.2.1+p'.2.2.length<=p.2.1:=by
 rcases Z7 i i' with c|c;exact xz.1 (vU h i i' p p' c h1 h2)
 ·have:=xz.1 (vU h i' i p' p Uc h2 h1);rcases this with q|q|q;exact .inl (Ne.symm q);exact .inr (.inr q);exact .inr (.inl q)
section
variable {P: Program} {o: Oper} {cx: Cx} {G: Gh} {g: Gm} {a: Act} {w: World}
def EK (G:Gh)(g:Gm)(p:kx):Prop:=
 (∃ b off,G.loc p.1=some (b,off))/\0<p.2.2.length/\∀ (i:Nat) c,p.2.2[i]?=some c->c≠ .gone/\∃ hv,g (.leaf p.1 (p.2.1+i))=some (.h hv)/\hv.c=c
inductive sN (G:Gh)(g:Gm)(w:World):List DV->List (Nat×Nat)->List kx->List Value->Prop where
 |nil:sN G g w [] [] [] []
 |dat {d v S src ds srcs pts vs} (hd:∀ hs,d≠ .mp hs) (h:mG w d v S) (ht:∀ b∈S,G.ow b=some .ro\/∃ r j,(r,j)∈src/\G.ow b=some (.leaf r j)) (hs:sN G g w ds srcs pts vs):sN G g w (d::ds) (src++srcs) pts (v::vs)
 |ptr {p:kx} {b off ds srcs pts vs} (h:EK G g p) (h0:G.loc p.1=some (b,off)) (hs:sN G g w ds srcs pts vs):sN G g w (.mp p.2.2::ds) srcs (p::pts) (.pointer (some ⟨b,off+p.2.1,none⟩)::vs)
def mh {α:Type}{r:Nat}:∀ (m j:Nat) (k:List H->Rd α) (ls:List Loc) (out:α),(kW r j m k).Runs g ls out->
 ∃ hs ls',hs.length=m/\(∀ (i:Nat) c,hs[i]?=some c->c≠ .gone/\∃ hv,g (.leaf r (j+i))=some (.h hv)/\hv.c=c)/\(k hs).Runs g ls' out
 |0,j,k,ls,out,h=>⟨[],ls,rfl,(fun i c e=>by simp at e),h⟩
 | m+1,j,k,ls,out,h=>by
   obtain⟨hv,ls2,_,q2,hk⟩:=bD (k:=fun h=>match h.c with
    | .own l=>kW r (j+1) m fun hs=>k (.own l::hs)
    | .ro l=>kW r (j+1) m fun hs=>k (.ro l::hs)
    | .gone=>.fail) h
   have fin:∀ c,c≠ .gone->hv.c=c->(kW r (j+1) m fun hs=>k (c::hs)).Runs g ls2 out->∃ hs ls',hs.length=m+1/\(∀ (i:Nat) c,hs[i]?=some c->c≠ .gone/\∃ hv,g (.leaf r (j+i))=some (.h hv)/\hv.c=c)/\(k hs).Runs g ls' out:=by
    intro c hc e hk;obtain⟨hs,ls3,e1,e2,e3⟩:=mh m (j+1) _ _ _ hk;refine⟨c::hs,ls3,by simp[e1],fun i c' e'=>?_,e3⟩;cases i with
    |zero=>simp at e';subst e';exact⟨hc,hv,q2,e⟩
    | succ i=>
      simp at e';have:=e2 i c' e';rw[show j+(i+1)=j+1+i from by omega];exact this
   cases hc:hv.c with
   |own l=>simp only[hc]at hk;exact fin _ (by simp) hc hk
   |ro l=>simp only[hc]at hk;exact fin _ (by simp) hc hk
   |gone=>simp[hc,Rd.Runs]at hk
def CI (hS:av cx G g a w){isP:TypeId->Bool}{t:TypeId}{x:Operand}{α:Type}{k:DV->List (Nat×Nat)->List kx->Rd α}{ls:List Loc}{out:α}(h:(yI eL (kz P) (Eg P) isP t x k).Runs g ls out):
 ∃ d src pt ls',(∀ ds srcs pts vs,sN G g w ds srcs pts vs->sN G g w (d::ds) (src++srcs) (pt++pts) (a.eval x::vs))/\(k d src pt).Runs g ls' out:=by
 unfold yI at h;cases hti:kz P t with
 | none=>
   simp only[hti]at h;split at h
   case isFalse=>exact h.elim
   obtain⟨x0,ls1,hx,h⟩:=bu hS h;cases x0 with
   | pt r j=>
     simp only at h;split at h
     ·rename_i ti _;split at h
      ·rename_i hpos;obtain⟨hs,ls2,e1,e2,h⟩:=mh _ _ _ _ _ h;obtain⟨b,off,h0,h1⟩:=hx;refine⟨.mp hs,[],[(r,j,hs)],ls2,fun ds srcs pts vs hp=>?_,h⟩;have:=sN.ptr (p:=(r,j,hs)) (b:=b) (off:=off) ⟨⟨b,off,h0⟩,by rw[<-e1]at hpos;exact hpos,e2⟩ h0 hp;rw[h1];exact this
      ·exact h.elim
     ·exact h.elim
   |_=>exact h.elim
 | some ti=>
   simp only[hti]at h;obtain⟨r,ls1,hr,h⟩:=dh hS h;cases r with
   | one x0=>
     simp only[cK]at hr;simp only at h;split at h
     ·simp[Rd.Runs]at h
     ·obtain⟨l,S,ls2,k1,t1,h⟩:=rl hS _ [x0] [a.eval x] (by simp[bQ,hr]) _ _ _ h;split at h
      ·rename_i l0;simp only[aj]at k1;obtain⟨v,vs',S1,S2,e1,k2,⟨e2,e3⟩,e4⟩:=k1;cases e1;refine⟨.one l0,Fl x0,[],ls2,fun ds srcs pts vs hp=>sN.dat (S:=S1) (fun hs=>by simp) k2 (fun b hb=>?_) hp,h⟩
       simpa using t1 b (by rw[e4];simp[hb])
      ·simp[Rd.Runs]at h
   | agg as=>
     simp only[cK]at hr;obtain⟨vs,e,hr⟩:=hr;simp only at h;split at h
     ·obtain⟨l,S,ls2,k1,t1,h⟩:=rl hS _ as vs hr _ _ _ h;exact⟨.agg l,as.flatMap Fl,[],ls2,fun ds srcs pts vs' hp=>sN.dat (S:=S) (fun hs=>by simp) ⟨vs,e,k1⟩ t1 hp,h⟩
     ·simp[Rd.Runs]at h
   |tup rs=>simp[Rd.Runs]at h
def nR (hS:av cx G g a w){isP:TypeId->Bool}{α:Type}:∀ (ts:List TypeId) (xs:List Operand) (k:List DV->List (Nat×Nat)->List kx->Rd α) (ls:List Loc) (out:α),(qH eL (kz P) (Eg P) isP ts xs k).Runs g ls out->
 ∃ ds srcs pts ls',sN G g w ds srcs pts (xs.map a.eval)/\(k ds srcs pts).Runs g ls' out
 |[],[],k,ls,out,h=>⟨[],[],[],ls,.nil,h⟩
 |[],_::_,k,ls,out,h=>h.elim
 |_::_,[],k,ls,out,h=>h.elim
 | t::ts,x::xs,k,ls,out,h=>by
   simp only[qH]at h;obtain⟨d,src,pt,ls2,k1,h⟩:=CI hS h;obtain⟨ds,srcs,pts,ls3,k2,h⟩:=nR hS ts xs _ _ _ h;exact⟨_,_,_,ls3,k1 _ _ _ _ k2,h⟩
open Classical in
noncomputable def paOf (G:Gh)(w:World)(p:kx):fe where
 b:=((G.loc p.1).getD (0,0)).1
 off:=((G.loc p.1).getD (0,0)).2+p.2.1
 hs:=p.2.2
 val:=fun i=>G.val p.1 (p.2.1+i)
 fp:=fun i=>match p.2.2[i]? with
  |some (.own _)=>G.fp p.1 (p.2.1+i)
  |some (.ro l)=>if h:∃ S,bO w l (G.val p.1 (p.2.1+i)) S/\∀ b∈S,G.ow b=some .ro then h.choose else[]
  |_=>[]
def sN.mem {ds:List DV}{srcs:List (Nat×Nat)}{pts:List kx}{vs:List Value}(h:sN G g w ds srcs pts vs):∀ p∈pts,EK G g p:=by
 induction h with
 |nil=>intro p hp;cases hp
 |dat _ _ _ _ ih=>exact ih
 | ptr h _ _ ih=>
   intro p hp;rcases Zj.1 hp with rfl|hp;exact h;exact ih p hp
def sN.args {ok:Nat->Prop}{ds:List DV}{srcs:List (Nat×Nat)}{pts:List kx}{vs:List Value}(h:sN G g w ds srcs pts vs)(hok:∀ b,(G.ow b=some .ro\/∃ r j,(r,j)∈srcs/\G.ow b=some (.leaf r j))->ok b):fy w ok ds vs (pts.map (paOf G w)):=by
 induction h with
 |nil=>exact⟨rfl,rfl⟩
 | @dat d v S src ds srcs pts vs hd h ht hs ih=>
   have h1:fy w ok ds vs (pts.map (paOf G w)):=ih (fun b hb=>hok b (by
    rcases hb with q|⟨r,j,q1,q2⟩;exact .inl q
    ·exact .inr ⟨r,j,by simp[q1],q2⟩))
   have h2:∀ b∈S,ok b:=fun b hb=>hok b (by
    rcases ht b hb with q|⟨r,j,q1,q2⟩;exact .inl q
    ·exact .inr ⟨r,j,by simp[q1],q2⟩)
   cases d with
   |mp hs=>exact absurd rfl (hd hs)
   |one l=>exact⟨v,vs,S,rfl,h,h2,h1⟩
   |agg l=>exact⟨v,vs,S,rfl,h,h2,h1⟩
   |ptr l=>exact⟨v,vs,S,rfl,h,h2,h1⟩
   |fn f l=>exact⟨v,vs,S,rfl,h,h2,h1⟩
 | @ptr p b off ds srcs pts vs h h0 hs ih=>
   refine⟨paOf G w p,_,vs,?_,rfl,rfl,ih hok⟩;simp[paOf,h0]
def qI (hS:av cx G g a w){p:kx}(hp:EK G g p){i:Nat}{l:L}(h:p.2.2[i]?=some (.own l)):
 (paOf G w p).fp i=G.fp p.1 (p.2.1+i)/\bO w l (G.val p.1 (p.2.1+i)) (G.fp p.1 (p.2.1+i))/\(G.fp p.1 (p.2.1+i)).Nodup/\∀ b∈G.fp p.1 (p.2.1+i),G.ow b=some (.leaf p.1 (p.2.1+i))/\ed w b:=by
 obtain⟨_,hv,e1,e2⟩:=hp.2.2 i _ h;have:=hS.hok (ap.2 e1);simp only[dO,e2]at this;exact⟨by simp[paOf,h],this⟩
def Ks (hS:av cx G g a w){p:kx}(hp:EK G g p){i:Nat}{l:L}(h:p.2.2[i]?=some (.ro l)):
 bO w l (G.val p.1 (p.2.1+i)) ((paOf G w p).fp i)/\∀ b∈(paOf G w p).fp i,G.ow b=some .ro:=by
 obtain⟨_,hv,e1,e2⟩:=hp.2.2 i _ h;have hx:=hS.hok (ap.2 e1);simp only[dO,e2]at hx;have:(paOf G w p).fp i=hx.choose:=by simp only[paOf,h];rw[dif_pos hx]
 rw[this];exact hx.choose_spec
def uy (hS:av cx G g a w){pts:List kx}(hp:∀ p∈pts,EK G g p){b:Nat}(h:kK (pts.map (paOf G w)) b):
 ∃ p∈pts,∃ (i:Nat) (l:L),p.2.2[i]?=some (.own l)/\b∈G.fp p.1 (p.2.1+i)/\G.ow b=some (.leaf p.1 (p.2.1+i)):=by
 obtain⟨q,hq,i,l,h1,h2⟩:=h;obtain⟨p,hpm,rfl⟩:=ZW.1 hq;obtain⟨e1,e2,e3,e4⟩:=qI hS (hp p hpm) h1;rw[e1]at h2;exact⟨p,hpm,i,l,h1,h2,(e4 b h2).1⟩
def uB (hS:av cx G g a w){pts:List kx}(hp:∀ p∈pts,EK G g p){b:Nat}(h:oP (pts.map (paOf G w)) b):
 ∃ p∈pts,∃ off,G.loc p.1=some (b,off)/\G.ow b=some (.box (G.lead p.1)):=by
 obtain⟨q,hq,rfl⟩:=h;obtain⟨p,hpm,rfl⟩:=ZW.1 hq;obtain⟨⟨b,off,h0⟩,_⟩:=hp p hpm;obtain⟨k,hk⟩:=hS.noloc _ _ h0;obtain⟨b',off',cur,ty,f1,f2,_⟩:=hS.boxes _ k hk;rw[h0]at f1;cases f1;exact⟨p,hpm,off,by simp[paOf,h0],by simpa[paOf,h0]using f2⟩
def aae (hS:av cx G g a w){ds:List DV}{srcs:List (Nat×Nat)}{pts:List kx}{vs:List Value}(h:sN G g w ds srcs pts vs)(hr:mU pts=true)(hs:∀ s∈srcs,∀ p∈pts,Az s p=false):
 MP w ds vs (pts.map (paOf G w)):=by
 have hp:=h.mem;have lt:∀ p∈pts,∀ i:Nat,i<p.2.2.length->∃ hv,g (.leaf p.1 (p.2.1+i))=some (.h hv):=by
  intro p hpm i hi;obtain⟨_,hv,e,_⟩:=(hp p hpm).2.2 i _ (Zt hi);exact⟨hv,e⟩
 have noBoth:∀ b,(G.ow b=some .ro\/∃ r j,(r,j)∈srcs/\G.ow b=some (.leaf r j))->¬ kK (pts.map (paOf G w)) b/\¬ oP (pts.map (paOf G w)) b:=by
  intro b hb;refine⟨fun ho=>?_,fun ho=>?_⟩
  ·obtain⟨p,hpm,i,l,h1,h2,h3⟩:=uy hS hp ho;rcases hb with q|⟨r,j,q1,q2⟩
   ·rw[q]at h3;cases h3
   ·rw[q2]at h3;cases h3;have:=hs _ q1 p hpm;rw[W0]at this;exact this (GX.2 ⟨rfl,Uc,by have:=(ZB.1 h1).1;simp only;omega⟩)
  ·obtain⟨p,hpm,off,h1,h2⟩:=uB hS hp ho;rcases hb with q|⟨r,j,q1,q2⟩
   ·rw[q]at h2;cases h2
   ·rw[q2]at h2;cases h2
 refine⟨h.args noBoth,?_,?_,?_,?_,?_,?_,?_⟩
 ·intro q hq;obtain⟨p,hpm,rfl⟩:=ZW.1 hq;obtain⟨⟨b,off,h0⟩,hpos,_⟩:=hp p hpm;obtain⟨k,hk⟩:=hS.noloc _ _ h0;obtain⟨b',off',cur,ty,f1,f2,f3,f4,f5⟩:=hS.boxes _ k hk;rw[h0]at f1;cases f1;have hlt:∀ i,i<p.2.2.length->p.2.1+i<k:=by
   intro i hi;obtain⟨hv,e⟩:=lt p hpm i hi;obtain⟨_,k',bx,_,e2,e3,_⟩:=hS.leaf _ _ _ e;rw[hk]at e2;cases e2;exact e3
  refine⟨cur,ty,by simpa[paOf,h0]using f3,?_,fun j hj=>?_⟩
  ·have:=hlt (p.2.2.length-1) Uc;simp only[paOf,h0,Z6];omega
  ·have:=f5 _ (hlt j hj);simp only[paOf,h0,Z6];rw[show off+p.2.1+j=off+(p.2.1+j)from by omega];exact this
 ·intro q hq j l hl;obtain⟨p,hpm,rfl⟩:=ZW.1 hq;obtain⟨e1,e2,e3,e4⟩:=qI hS (hp p hpm) hl;rw[e1];exact⟨e2,e3,fun b hb=>(e4 b hb).2⟩
 ·intro q hq j l hl;obtain⟨p,hpm,rfl⟩:=ZW.1 hq;obtain⟨e1,e2⟩:=Ks hS (hp p hpm) hl;exact⟨e1,fun b hb=>noBoth b (.inl (e2 b hb))⟩
 ·intro q hq j hj;obtain⟨p,hpm,rfl⟩:=ZW.1 hq;exact((hp p hpm).2.2 j _ hj).1 rfl
 ·intro i j i' j' q q' l l' h1 h2 h3 h4 hne b hb hb';rw[ZC,Zy]at h1 h2;obtain⟨p,m1,rfl⟩:=h1;obtain⟨p',m2,rfl⟩:=h2;obtain⟨e1,_,_,e4⟩:=qI hS (hp p (Zx m1)) h3;obtain⟨e1',_,_,e4'⟩:=qI hS (hp p' (Zx m2)) h4;rw[e1]at hb;rw[e1']at hb';have t1:=(e4 b hb).1;have t2:=(e4' b hb').1;rw[t1]at t2;simp only[Yd,Tok.leaf.injEq]at t2;have l1:=(ZB.1 h3).1;have l2:=(ZB.1 h4).1;simp only[paOf]at l1 l2;by_cases c:i=i'
  ·subst c;rw[m1]at m2;cases m2;exact hne (by rw[show j=j' from by omega])
  ·rcases vV hr c m1 m2 with k|k|k<;>omega
 ·intro i i' q q' hne h1 h2 hb;rw[ZC,Zy]at h1 h2;obtain⟨p,m1,rfl⟩:=h1;obtain⟨p',m2,rfl⟩:=h2;obtain⟨⟨b,off,h0⟩,hpos,_⟩:=hp p (Zx m1);obtain⟨⟨b',off',h0'⟩,hpos',_⟩:=hp p' (Zx m2);simp only[paOf,h0,h0',Z6]at hb ⊢;subst hb;obtain⟨k,hk⟩:=hS.noloc _ _ h0;obtain⟨k',hk'⟩:=hS.noloc _ _ h0';have hlt:∀ (p:kx) (k:Nat),p∈pts->0<p.2.2.length->g (.meta_ p.1)=some (.m k true)->p.2.1+p.2.2.length<=k:=by
   intro p k hpm hpos hk;obtain⟨hv,e⟩:=lt p hpm (p.2.2.length-1) Uc;obtain⟨_,k',bx,_,e2,e3,_⟩:=hS.leaf _ _ _ e;rw[hk]at e2;cases e2;omega
  have l1:=hlt p k (Zx m1) hpos hk;have l2:=hlt p' k' (Zx m2) hpos' hk';by_cases c:p.1=p'.1
  ·rw[c,h0']at h0;cases h0;rcases vV hr hne m1 m2 with q|q|q;exact absurd c q
   ·left;omega
   ·right;omega
  ·rcases hS.sep _ _ k k' b off off' c hk hk' h0 h0' with q|q
   ·left;omega
   ·right;omega
 ·intro b hb ho;obtain⟨p,hpm,i,l,h1,h2,h3⟩:=uy hS hp ho;obtain⟨p',hpm',off,h4,h5⟩:=uB hS hp hb;rw[h3]at h5;cases h5
end
end Go.V
namespace Go.V
def sP:∀ (ws:List W) (g:Gm),(∀ x∈ws,∃ r j h,x=W.leaf r j h)->(∀ e,bh g ws (.reg e)=g (.reg e))/\(∀ r,bh g ws (.meta_ r)=g (.meta_ r))/\
 ∀ r j,(∃ h,W.leaf r j h∈ws/\bh g ws (.leaf r j)=some (.h h))\/((∀ h,W.leaf r j h∉ws)/\bh g ws (.leaf r j)=g (.leaf r j))
 |[],g,_=>⟨fun _=>rfl,fun _=>rfl,fun r j=>.inr ⟨by simp,rfl⟩⟩
 | x::ws,g,h=>by
   obtain⟨r0,j0,h0,rfl⟩:=h x (by simp);obtain⟨a1,a2,a3⟩:=sP ws ((W.leaf r0 j0 h0).app g) (fun y hy=>h y (by simp[hy]));simp only[bh];refine⟨fun e=>by rw[a1];simp[W.app],fun r=>by rw[a2];simp[W.app],fun r j=>?_⟩;rcases a3 r j with⟨h1,q1,q2⟩|⟨q1,q2⟩;exact .inl ⟨h1,by simp[q1],q2⟩
   ·by_cases c:r=r0/\j=j0
    ·obtain⟨rfl,rfl⟩:=c;exact .inl ⟨h0,by simp,by rw[q2];simp[W.app]⟩
    ·refine .inr ⟨fun h' hm=>?_,by rw[q2];simp[W.app];intro e1 e2;exact absurd ⟨e1,e2⟩ c⟩;rcases Zj.1 hm with e|e
     ·cases e;exact c ⟨rfl,rfl⟩
     ·exact q1 h' e
section
variable {P: Program} {o: Oper} {cx: Cx} {G: Gh} {g: Gm} {a: Act} {w: World}
def pK {α:Type}{r:Nat}:∀ (hs os:List H) (j:Nat) (k:List W->Rd α) (ls:List Loc) (out:α),(Ir r j hs os k).Runs g ls out->
 ∃ ws ls',(k ws).Runs g ls' out/\os.length=hs.length/\(∀ i:Nat,os[i]?≠some .gone)/\
  (∀ x∈ws,∃ i l hv,os[i]?=some (.own l)/\g (.leaf r (j+i))=some (.h hv)/\x=W.leaf r (j+i) ⟨hv.ver+1,hv.iv+1,none,.own l⟩)/\
  (∀ (i:Nat) l,os[i]?=some (.own l)->∃ hv,g (.leaf r (j+i))=some (.h hv)/\W.leaf r (j+i) ⟨hv.ver+1,hv.iv+1,none,.own l⟩∈ws)
 |[],[],j,k,ls,out,h=>⟨[],ls,h,rfl,by simp,by simp,by simp⟩
 |[],_::_,j,k,ls,out,h=>h.elim
 |_::_,[],j,k,ls,out,h=>h.elim
 | h0::hs,o0::os,j,k,ls,out,h=>by
   cases o0 with
   |gone=>exact h.elim
   | ro l0=>
     cases h0 with
     | ro l1=>
       obtain⟨ws,ls',e1,e2,e3,e4,e5⟩:=pK hs os (j+1) k ls out h;refine⟨ws,ls',e1,by simp[e2],fun i=>?_,fun x hx=>?_,fun i l hi=>?_⟩
       ·cases i with
        |zero=>simp
        |succ i=>simpa using e3 i
       ·obtain⟨i,l,hv,q1,q2,q3⟩:=e4 x hx;exact⟨i+1,l,hv,by simpa using q1,by rw[show j+(i+1)=j+1+i from by omega];exact q2,by rw[show j+(i+1)=j+1+i from by omega];exact q3⟩
       ·cases i with
        |zero=>simp at hi
        | succ i=>
          rw[show j+(i+1)=j+1+i from by omega];exact e5 i l (by simpa using hi)
     |own l1=>exact h.elim
     |gone=>exact h.elim
   | own l0=>
     obtain⟨hv,ls2,_,q2,hk⟩:=bD (k:=fun hv=>Ir r (j+1) hs os fun ws=>k (.leaf r j ⟨hv.ver+1,hv.iv+1,none,.own l0⟩::ws)) h;obtain⟨ws,ls',e1,e2,e3,e4,e5⟩:=pK hs os (j+1) _ _ _ hk;refine⟨_,ls',e1,by simp[e2],fun i=>?_,fun x hx=>?_,fun i l hi=>?_⟩
     ·cases i with
      |zero=>simp
      |succ i=>simpa using e3 i
     ·rcases Zj.1 hx with rfl|hx;exact⟨0,l0,hv,by simp,q2,rfl⟩
      ·obtain⟨i,l,hv,q1,q2,q3⟩:=e4 x hx;exact⟨i+1,l,hv,by simpa using q1,by rw[show j+(i+1)=j+1+i from by omega];exact q2,by rw[show j+(i+1)=j+1+i from by omega];exact q3⟩
     ·cases i with
      |zero=>simp at hi;subst hi;exact⟨hv,q2,by simp⟩
      | succ i=>
        rw[show j+(i+1)=j+1+i from by omega];obtain⟨hv',p1,p2⟩:=e5 i l (by simpa using hi);exact⟨hv',p1,by simp[p2]⟩
def wd {α:Type}:∀ (pts:List kx) (outs:List (List H)) (k:List W->Rd α) (ls:List Loc) (out:α),(Fu pts outs k).Runs g ls out->
 ∃ ws ls',(k ws).Runs g ls' out/\outs.length=pts.length/\
  (∀ x∈ws,∃ (n:Nat) (p:kx) (os:List H) (i:Nat) (l:L) (hv:Hv),pts[n]?=some p/\outs[n]?=some os/\os[i]?=some (.own l)/\g (.leaf p.1 (p.2.1+i))=some (.h hv)/\x=W.leaf p.1 (p.2.1+i) ⟨hv.ver+1,hv.iv+1,none,.own l⟩)/\
  (∀ (n:Nat) p os,pts[n]?=some p->outs[n]?=some os->∀ (i:Nat) l,os[i]?=some (.own l)->∃ hv,g (.leaf p.1 (p.2.1+i))=some (.h hv)/\W.leaf p.1 (p.2.1+i) ⟨hv.ver+1,hv.iv+1,none,.own l⟩∈ws)
 |[],[],k,ls,out,h=>⟨[],ls,h,rfl,by simp,by simp⟩
 |[],_::_,k,ls,out,h=>h.elim
 |_::_,[],k,ls,out,h=>h.elim
 | p::pts,os::oss,k,ls,out,h=>by
   obtain⟨w1,ls1,h1,_,_,e4,e5⟩:=pK _ _ _ _ _ _ h;obtain⟨w2,ls2,h2,e6,e7,e8⟩:=wd pts oss _ _ _ h1;refine⟨_,ls2,h2,by simp[e6],fun x hx=>?_,fun n p' os' hn ho i l hi=>?_⟩
   ·rcases Zg.1 hx with hx|hx
    ·obtain⟨i,l,hv,q1,q2,q3⟩:=e4 x hx;exact⟨0,p,os,i,l,hv,by simp,by simp,q1,q2,q3⟩
    ·obtain⟨n,p',os',i,l,hv,q0,q1,q2⟩:=e7 x hx;exact⟨n+1,p',os',i,l,hv,by simpa using q0,by simpa using q1,q2⟩
   ·cases n with
    | zero=>
      simp at hn ho;subst hn ho;obtain⟨hv,q1,q2⟩:=e5 i l hi;exact⟨hv,q1,by simp[q2]⟩
    | succ n=>
      simp at hn ho;obtain⟨hv,q1,q2⟩:=e8 n p' os' hn ho i l hi;exact⟨hv,q1,by simp[q2]⟩
def I5 (g:Gm)(pts:List kx)(ps':List fe)(r j:Nat)(x:Hv×Value×List Nat):Prop:=
 ∃ (n:Nat) (p:kx) (q:fe) (i:Nat) (l:L) (hv:Hv),pts[n]?=some p/\ps'[n]?=some q/\r=p.1/\j=p.2.1+i/\i<p.2.2.length/\q.hs[i]?=some (.own l)/\g (.leaf r j)=some (.h hv)/\x=(⟨hv.ver+1,hv.iv+1,none,.own l⟩,q.val i,q.fp i)
def I5.same {pts:List kx}(hr:mU pts=true){ps':List fe}{r j n n':Nat}{p p':kx}{i i':Nat}(h1:pts[n]?=some p)(h2:pts[n']?=some p')(e1:r=p.1)(e2:r=p'.1)(e3:j=p.2.1+i)(e4:j=p'.2.1+i')(l1:i<p.2.2.length)(l2:i'<p'.2.2.length):n=n'/\p=p'/\i=i':=by
 by_cases c:n=n'
 ·subst c;rw[h1]at h2;cases h2;exact⟨rfl,rfl,Uc⟩
 ·rcases vV hr c h1 h2 with q|q|q;exact absurd (e1.symm.trans e2) q;omega;omega
def I5.unique {pts:List kx}(hr:mU pts=true){ps':List fe}{r j:Nat}{x y:Hv×Value×List Nat}(h1:I5 g pts ps' r j x)(h2:I5 g pts ps' r j y):x=y:=by
 obtain⟨n,p,q,i,l,hv,a1,a2,a3,a4,a5,a6,a7,rfl⟩:=h1;obtain⟨n',p',q',i',l',hv',b1,b2,b3,b4,b5,b6,b7,rfl⟩:=h2;obtain⟨rfl,rfl,rfl⟩:=I5.same hr (ps':=ps') a1 b1 a3 b3 a4 b4 a5 b5;rw[a2]at b2;cases b2;rw[a6]at b6;cases b6;rw[a7]at b7;cases b7;rfl
open Classical in
noncomputable def uP (g:Gm)(pts:List kx)(ps':List fe):UpP:=fun r j=>if h:∃ x,I5 g pts ps' r j x then some h.choose else none
def KZ {pts:List kx}(hr:mU pts=true){ps':List fe}{r j:Nat}{x:Hv×Value×List Nat}:uP g pts ps' r j=some x↔I5 g pts ps' r j x:=by
 unfold uP
 constructor
 ·intro e;split at e
  ·rename_i h;cases e;exact h.choose_spec
  ·cases e
 ·intro h;rw[dif_pos ⟨x,h⟩];exact congrArg some (I5.unique hr (Exists.choose_spec (⟨x,h⟩:∃ x,I5 g pts ps' r j x)) h)
variable {ls: List Loc} {ws: List W} {K: Act -> World -> Prop} {Q: Exit -> Act -> World -> Prop}
def A3 (pr:(Unit->Prop)->Prop)(n:Nat)(d:Option Tmp)(ds:List DV)(srcs:List (Nat×Nat))(pts:List kx)(mk:PK)(rw:Nat->List DV->List W):Rd Out:=
 match mk ds with
 | some (pre,outs,res)=>if mU pts&&srcs.all (fun s=>pts.all fun p=> !Az s p)then .req (pr pre) (Fu pts outs fun ws=>match d with
    |some _=>fresh n d fun d=>.ret (.ws (ws++rw d res))
    |none=>.ret (.ws ws))else .fail
 |none=>.fail
def tx {f:FuncId}{ds:List DV}{srcs:List (Nat×Nat)}{pts:List kx}{vs:List Value}(hS:av cx G g a w)(hargs:sN G g w ds srcs pts vs)(hex:(execOp a.eval o).run P w=.ok (.enter f vs.toArray) w){mk:PK} 
 (hc:∀ ds pre outs res,mk ds=some (pre,outs,res)->pre ()->xV P f ds outs res) (h:(A3 kY cx.n o.dst ds srcs pts mk dt).Runs g ls (.ws ws))
 (hk:∀ a' w',d5 cx (bh g ws) a' w'->K a' w'):o.wp P a w K Q:=by
 unfold A3 at h;split at h
 case h_2=>exact h.elim
 rename_i pre outs res hmk;split at h
 case isFalse=>exact h.elim
 rename_i hcond;simp only[Zb]at hcond;obtain⟨hrng,hsrc⟩:=hcond;have hsrc':∀ s∈srcs,∀ p∈pts,Az s p=false:=by
  intro s hs p hp;have:=ZV.1 (ZV.1 hsrc s hs) p hp
  simpa using this
 obtain⟨hpre,h⟩:=h;obtain⟨w1,ls2,h,hol,u1,u2⟩:=wd _ _ _ _ _ h;have hp:=hargs.mem;unfold YE;rw[hex];simp only[Y4];have hcall:=hc ds pre outs res hmk hpre w vs _ (aae hS hargs hrng hsrc');refine hcall.mono ?_;rintro e w' ⟨v,Sr,ps',rfl,hres,hpost⟩;have plen:ps'.length=pts.length:=by rw[hpost.len,YY]
 have at_:∀ (n:Nat) p,pts[n]?=some p->∃ q,ps'[n]?=some q/\q.b=(paOf G w p).b/\q.off=(paOf G w p).off/\outs[n]?=some q.hs/\q.hs.length=p.2.2.length:=by
  intro n p hn;have hlt:n<ps'.length:=by rw[plen];exact(ZB.1 hn).1
  have:=hpost.same n (paOf G w p) ps'[n] (by rw[ZC,hn];rfl) (Zt hlt);exact⟨ps'[n],Zt hlt,this⟩
 have uS:=fun {r j x}=>KZ (g:=g) hrng (ps':=ps') (r:=r) (j:=j) (x:=x)
 have hl1:∀ x∈w1,∃ r j h,x=W.leaf r j h:=by
  intro x hx;obtain⟨n,p,os,i,l,hv,_,_,_,_,rfl⟩:=u1 x hx;exact⟨_,_,_,rfl⟩
 obtain⟨a1,a2,a3⟩:=sP w1 g hl1;have a4:∀ r j,bh g w1 (.leaf r j)=match uP g pts ps' r j with
  |some x=>some (.h x.1)
  |none=>g (.leaf r j):=by
  intro r j;rcases a3 r j with⟨h0,q1,q2⟩|⟨q1,q2⟩
  ·obtain⟨n,p,os,i,l,hv,z1,z2,z3,z4,z5⟩:=u1 _ q1;cases z5;obtain⟨q,y1,y2,y3,y4,y5⟩:=at_ n p z1;rw[z2]at y4;cases y4;have hx:uP g pts ps' p.1 (p.2.1+i)=some (⟨hv.ver+1,hv.iv+1,none,.own l⟩,q.val i,q.fp i):=uS.2 ⟨n,p,q,i,l,hv,z1,y1,rfl,rfl,by rw[<-y5];exact(ZB.1 z3).1,z3,z4,rfl⟩;rw[q2,hx]
  ·cases hx:uP g pts ps' r j with
   |none=>exact q2
   | some x=>
     exfalso;obtain⟨n,p,q,i,l,hv,z1,z2,z3,z4,z5,z6,z7,z8⟩:=uS.1 hx;obtain⟨q',y1,y2,y3,y4,y5⟩:=at_ n p z1;rw[z2]at y1;cases y1;obtain⟨hv',m1,m2⟩:=u2 n p q.hs z1 y4 i l z6;subst z3 z4;exact q1 _ m2
 obtain⟨vs,lv,hlv,hv⟩:∃ vs lv,xU w' res vs lv Sr/\((∃ dv,res=[dv]/\vs=[v])\/v=.tuple vs.toArray/\∀ dv,res≠[dv]):=by
  cases res with
  |nil=>obtain⟨vs,e,h2⟩:=hres;obtain⟨lv,k⟩:=bW.lv h2;exact⟨vs,lv,k,.inr ⟨e,fun dv e=>by cases e⟩⟩
  | cons d1 rest=>
    cases rest with
    | nil=>
      have h2:bW w' [d1] [v] Sr:=by simp only[bW];exact⟨v,[],Sr,[],rfl,hres,⟨rfl,rfl⟩,by simp⟩
      obtain⟨lv,k⟩:=bW.lv h2;exact⟨[v],lv,k,.inl ⟨d1,rfl,rfl⟩⟩
    |cons d2 rest=>obtain⟨vs,e,h2⟩:=hres;obtain⟨lv,k⟩:=bW.lv h2;exact⟨vs,lv,k,.inr ⟨e,fun dv e=>by cases e⟩⟩
 have hrec:=hlv.rec_;obtain⟨Ss,s1,s2,s3⟩:=hrec.items;have hnd:Ss.flatten.Nodup:=by rw[s1];exact hpost.res.1
 have own_tok:∀ b,kK (pts.map (paOf G w)) b->∃ r j x h l,uP g pts ps' r j=some x/\g (.leaf r j)=some (.h h)/\h.c=.own l/\b∈G.fp r j:=by
  intro b hb;obtain⟨p,hpm,i,l,h1,h2,h3⟩:=uy hS hp hb;obtain⟨_,hv,e1,e2⟩:=(hp p hpm).2.2 i _ h1;obtain⟨n,hn⟩:=Yt hpm;obtain⟨q,y1,y2,y3,y4,y5⟩:=at_ n p hn;have hi:i<p.2.2.length:=(ZB.1 h1).1;have hq:i<q.hs.length:=by omega
  cases hc:q.hs[i]with
  |gone=>exact absurd (by rw[Zt hq,hc]) (hpost.gone q (Zx y1) i)
  | ro l'=>
    exfalso;have:=hpost.ro n (paOf G w p) q i l' (by rw[ZC,hn];rfl) y1 (by rw[Zt hq,hc]);simp only[paOf]at this;rw[h1]at this;cases this.1
  | own l'=>
    exact⟨p.1,p.2.1+i,_,hv,l,uS.2 ⟨n,p,q,i,l',hv,hn,y1,rfl,rfl,hi,by rw[Zt hq,hc],e1,rfl⟩,e1,e2,h2⟩
 have cellSame:∀ b cur cur' ty ty',w.heap[b]?=some (.cells cur ty (0,0))->w'.heap[b]?=some (.cells cur' ty' (0,0))->(∀ i,(∀ p∈pts.map (paOf G w),p.b=b->i<p.off\/p.off+p.hs.length<=i)->cur'[i]?=cur[i]?)->
  ∀ i0,(∀ (n:Nat) (p:kx) (q:fe) (i:Nat) (l:L),pts[n]?=some p->ps'[n]?=some q->(paOf G w p).b=b->q.hs[i]?=some (.own l)->i0≠(paOf G w p).off+i)->cur'[i0]?=cur[i0]?:=by
  intro b cur cur' ty ty' k1 k2 k4 i0 hi0;by_cases c:∃ (n:Nat) (p:kx),pts[n]?=some p/\(paOf G w p).b=b/\(paOf G w p).off<=i0/\i0<(paOf G w p).off+p.2.2.length
  ·obtain⟨n,p,hn,hb,c1,c2⟩:=c;obtain⟨q,y1,y2,y3,y4,y5⟩:=at_ n p hn;have hq:i0- (paOf G w p).off<q.hs.length:=by omega
   have hpa:paOf G w p∈pts.map (paOf G w):=ZW.2 ⟨p,Zx hn,rfl⟩;cases hc:q.hs[i0- (paOf G w p).off]with
   |gone=>exact absurd (by rw[Zt hq,hc]) (hpost.gone q (Zx y1) _)
   |own l=>exact absurd (show i0=(paOf G w p).off+(i0- (paOf G w p).off)by omega) (hi0 n p q _ l hn y1 hb (by rw[Zt hq,hc]))
   | ro l=>
     have hr:=hpost.ro n (paOf G w p) q _ l (by rw[ZC,hn];rfl) y1 (by rw[Zt hq,hc]);obtain⟨cur2,ty2,m1,m2⟩:=hpost.cell q (Zx y1);obtain⟨cur3,ty3,m3,_,m4⟩:=(aae hS hargs hrng hsrc').cell _ hpa;rw[y2,hb,k2]at m1;cases m1;rw[hb,k1]at m3;cases m3;have e1:=m2 _ hq;have e2:=m4 (i0- (paOf G w p).off) (by show _<p.2.2.length;omega);rw[y3,show(paOf G w p).off+(i0- (paOf G w p).off)=i0 from by omega]at e1;rw[show(paOf G w p).off+(i0- (paOf G w p).off)=i0 from by omega]at e2;rw[e1,e2,hr.2]
  ·refine k4 i0 (fun q hq hb=>?_);obtain⟨p,hpm,rfl⟩:=ZW.1 hq;obtain⟨n,hn⟩:=Yt hpm;rcases Z7 i0 (paOf G w p).off with d|d;exact .inl d
   ·refine .inr (Nat.le_of_not_lt fun d2=>c ⟨n,p,hn,hb,d,d2⟩)
 have main:∀ (nr:Option Nat) (hs:List Hv) (g':Gm),(∀ d,nr=some d->g (.meta_ d)=none/\hs=(res.flatMap bJ).map fun l=>(⟨0,0,none,.own l⟩:Hv))->(nr=none->hs=[])->
  (∀ e,g' (.reg e)=g (.reg e))->(∀ r,g' (.meta_ r)=if nr=some r then some (.m hs.length false)else g (.meta_ r))->
  (∀ r j,g' (.leaf r j)=if nr=some r then(hs[j]?).map .h else match uP g pts ps' r j with
    |some x=>some (.h x.1)
    |none=>g (.leaf r j))->∃ G',av cx G' g' a w'/\(∀ d,nr=some d->∀ j,G'.val d j=lv.getD j undef):=by
  intro nr hs g' hdn hnr hgr hgm hgl;have hlen:hs.length<=Ss.length:=by
   cases e:nr with
   |none=>rw[hnr e];simp
   |some d=>rw[(hdn d e).2,YY,s2];exact Zf _
  have tokNF:∀ j,∀ b∈Ss.getD j [],b∈Sr:=fun j b hb=>by rw[<-s1];exact fu hb
  refine hS.callP (uP g pts ps') nr (fun d e=>(hdn d e).1) hs hnr w' g' hgr hgm hgl hpost.frame.os hpost.frame.tape hpost.frame.output hpost.frame.size ?_ ?_ ?_ ?_ (fun j=>lv.getD j undef) (fun j=>Ss.getD j []) ?_ ?_ ?_ ?_ ?_
  ·intro b hb h1 h2;refine VD fun hne=>?_
   refine hne (hpost.frame.block b hb ⟨fun ho=>?_,fun ho=>?_⟩)
   ·obtain⟨r,j,x,h0,l,q1,q2,q3,q4⟩:=own_tok b ho;exact h1 r j x h0 l q1 q2 q3 q4
   ·obtain⟨p,hpm,off,q1,q2⟩:=uB hS hp ho;obtain⟨n,hn⟩:=Yt hpm;obtain⟨q,y1,y2,y3,y4,y5⟩:=at_ n p hn;by_cases c:∃ (n:Nat) (p:kx) (q:fe) (i:Nat) (l:L),pts[n]?=some p/\ps'[n]?=some q/\(paOf G w p).b=b/\q.hs[i]?=some (.own l)
    ·obtain⟨n,p,q,i,l,c1,c2,c3,c4⟩:=c;have hpm:=Zx c1;obtain⟨⟨b',off',h0⟩,_⟩:=hp p hpm;have hb':b'=b:=by simpa[paOf,h0]using c3
     subst hb';obtain⟨q',y1,y2,y3,y4,y5⟩:=at_ n p c1;rw[c2]at y1;cases y1;have hi:i<p.2.2.length:=by rw[<-y5];exact(ZB.1 c4).1
     obtain⟨_,hv,e1,e2⟩:=(hp p hpm).2.2 i _ (Zt hi);exact h2 p.1 (p.2.1+i) _ off' (uS.2 ⟨n,p,q,i,l,hv,c1,c2,rfl,rfl,hi,c4,e1,rfl⟩) h0
    ·exfalso;obtain⟨cur,cur',ty,k1,k2,k3,k4⟩:=hpost.blk b ho;refine hne ?_;rw[k1,k2];have:cur'=cur:=Array.ext_getElem? fun i=>cellSame b cur cur' ty ty k1 k2 k4 i (fun n p q i l z1 z2 z3 z4=>absurd ⟨n,p,q,i,l,z1,z2,z3,z4⟩ c)
     rw[this]
  ·intro r j x hx;obtain⟨n,p,q,i,l,hv,z1,z2,z3,z4,z5,z6,z7,rfl⟩:=uS.1 hx;obtain⟨m1,m2⟩:=hpost.own q (Zx z2) i l z6;exact⟨hv,l,z7,YH _,Nat.le_succ _,rfl,rfl,m1,m2⟩
  ·intro r j x hx;obtain⟨n,p,q,i,l,hv,z1,z2,z3,z4,z5,z6,z7,rfl⟩:=uS.1 hx;obtain⟨⟨b,off,h0⟩,_⟩:=hp p (Zx z1);exact⟨_,by rw[z3];exact h0⟩
  ·intro b r j x off hx hl;obtain⟨n,p,q,i,l,hv,z1,z2,z3,z4,z5,z6,z7,rfl⟩:=uS.1 hx;subst z3 z4;have hPt:oP (pts.map (paOf G w)) b:=⟨paOf G w p,ZW.2 ⟨p,Zx z1,rfl⟩,by simp[paOf,hl]⟩;obtain⟨cur,cur',ty,k1,k2,k3,k4⟩:=hpost.blk b hPt;refine⟨cur,cur',ty,k1,k2,k3,?_,?_⟩
   ·intro r' j' x' off' hx' hl';obtain⟨n',p',q',i',l',hv',z1',z2',rfl,rfl,z5',z6',z7',rfl⟩:=uS.1 hx';obtain⟨q'',y1,y2,y3,y4,y5⟩:=at_ n' p' z1';rw[z2']at y1;cases y1;obtain⟨cur2,ty2,m1,m2⟩:=hpost.cell q' (Zx z2');have hb:q'.b=b:=by rw[y2];simp[paOf,hl']
    have hoff:q'.off=off'+p'.2.1:=by rw[y3];simp[paOf,hl']
    rw[hb,k2]at m1;cases m1;have:=m2 i' Uc;rw[hoff]at this;rw[show off'+(p'.2.1+i')=off'+p'.2.1+i' from by omega];exact this
   ·intro i0 hi0;refine cellSame b cur cur' ty ty k1 k2 k4 i0 (fun n p q i l z1 z2 z3 z4=>?_);obtain⟨q',y1,y2,y3,y4,y5⟩:=at_ n p z1;rw[z2]at y1;cases y1;have hi:i<p.2.2.length:=by rw[<-y5];exact(ZB.1 z4).1
    have hpm:=Zx z1;obtain⟨⟨b',off',h0⟩,_⟩:=hp p hpm;have hb':b'=b:=by simpa[paOf,h0]using z3
    subst hb';obtain⟨_,hv,e1,e2⟩:=(hp p hpm).2.2 i _ (Zt hi);have:=hi0 p.1 (p.2.1+i) _ off' (uS.2 ⟨n,p,q,i,l,hv,z1,z2,rfl,rfl,hi,z4,e1,rfl⟩) h0;simp only[paOf,h0,Z6];omega
  ·intro j h hj;cases e:nr with
   |none=>rw[hnr e]at hj;simp at hj
   | some d=>
     rw[(hdn d e).2,ZC,Zy]at hj;obtain⟨l,e1,rfl⟩:=hj;obtain⟨u,q1,q2⟩:=s3 j l e1;exact⟨l,rfl,by simpa[ZE,q1]using q2,iG hnd j⟩
  ·intro b hb;have hb':b∈Sr\/kK ps' b:=by
    rcases hb with⟨j,_,hbj⟩|⟨r,j,x,hx,hbx⟩;exact .inl (tokNF j b hbj)
    ·obtain⟨n,p,q,i,l,hv,z1,z2,z3,z4,z5,z6,z7,rfl⟩:=uS.1 hx;exact .inr ⟨q,Zx z2,i,l,z6,hbx⟩
   obtain⟨k1,k2⟩:=hpost.tok b hb';refine⟨k1,?_⟩;rcases k2 with k2|k2;exact .inl k2;exact .inr (own_tok b k2)
  ·exact fun i j _ _ hij=>ft hnd i j hij
  ·intro i r j x _ hx b hb hbx;obtain⟨n,p,q,i',l,hv,z1,z2,z3,z4,z5,z6,z7,rfl⟩:=uS.1 hx;exact hpost.res.2 b (tokNF i b hb) ⟨q,Zx z2,i',l,z6,hbx⟩
  ·intro r j x r2 j2 x2 hx hx2 hne b hb;obtain⟨n,p,q,i,l,hv,z1,z2,rfl,rfl,z5,z6,z7,rfl⟩:=uS.1 hx;obtain⟨n',p',q',i',l',hv',z1',z2',rfl,rfl,z5',z6',z7',rfl⟩:=uS.1 hx2;refine hpost.disj n i n' i' q q' l l' z2 z2' z6 z6' (fun e=>?_) b hb;cases e;rw[z1]at z1';cases z1';exact hne rfl
 cases hd:o.dst with
 | none=>
   simp only[hd,Rd.Runs,Out.ws.injEq]at h;obtain⟨_,rfl⟩:=h;obtain⟨G',k1,_⟩:=main none [] (bh g ws) (fun d e=>by cases e) (fun _=>rfl) a1 (fun r=>by rw[a2];simp) (fun r j=>by rw[a4];simp);refine hk _ _ ⟨G',?_⟩
   simpa[ZT]using k1
 | some d0=>
   simp only[hd]at h;obtain⟨d,ls3,hd',hlt,hm,h⟩:=cJ h;cases hd';simp only[Rd.Runs,Out.ws.injEq]at h;obtain⟨_,rfl⟩:=h;refine hk _ _ ?_;rw[cE];simp only[dt,bh];obtain⟨G',k1,k2⟩:=main (some d0) ((res.flatMap bJ).map fun l=>⟨0,0,none,.own l⟩) ((W.root d0 false ((res.flatMap bJ).map fun l=>⟨0,0,none,.own l⟩)).app (bh g w1)) (fun d e=>by cases e;exact⟨hm,rfl⟩) (fun e=>by cases e)
    (fun e=>by simp only[W.app];exact a1 e)
    (fun r=>by
      simp only[W.app,Yd,eq_comm (a:=d0)];split;rfl
      ·exact a2 r)
    (fun r j=>by
      simp only[W.app,Yd,eq_comm (a:=d0)];split;rfl
      ·exact a4 r j)
   refine⟨G',k1.put hlt ?_⟩;have hgl:∀ i l,(res.flatMap bJ)[i]?=some l->gl ((W.root d0 false ((res.flatMap bJ).map fun l=>⟨0,0,none,.own l⟩)).app (bh g w1)) d0 (0+i)=some ⟨0,0,none,.own l⟩:=by
    intro i l e;simp[gl,W.app,e]
   have hval:∀ i u,lv[i]?=some u->G'.val d0 (0+i)=u:=by
    intro i u e;rw[k2 d0 rfl,ZP];simp[ZE,e]
   have hall:=nU (G:=G') res 0 vs lv Sr hlv (fun i l e=>⟨none,hgl i l e⟩) hval;rcases hv with⟨dv,rfl,rfl⟩|⟨rfl,hne⟩
   ·simp only[gY];simp only[kn,hZ]at hall;obtain⟨v',vs',e,h1,_⟩:=hall;cases e;exact h1
   ·have:gY d0 res=.tup (kn d0 0 res):=by
     unfold gY;split;exact absurd rfl (hne _);rfl
    rw[this];simp only[cK];exact⟨vs,rfl,hall⟩
def zy {f:FuncId}{ts:Array TypeId}{args:Array Operand}(ho:o.op=.call {callee:=.value (.func f),args:=args,argTypes:=ts})(hS:av cx G g a w){isP:TypeId->Bool}{mk:PK} 
 (hc:∀ ds pre outs res,mk ds=some (pre,outs,res)->pre ()->xV P f ds outs res)
 (h:(sD kY eL (kz P) (Eg P) isP cx.n o.dst (da P f) ts args mk dt).Runs g ls (.ws ws))
 (hk:∀ a' w',d5 cx (bh g ws) a' w'->K a' w'):o.wp P a w K Q:=by
 unfold sD at h;split at h
 case isFalse=>exact h.elim
 rename_i hbody;obtain⟨ds,srcs,pts,ls1,hargs,h⟩:=nR hS _ _ _ _ _ h;have hex:(execOp a.eval o).run P w=.ok (.enter f (args.toList.map a.eval).toArray) w:=by
  have harr:(args.toList.map a.eval).toArray=args.map a.eval:=by rw[<-Yq,Yr]
  rw[harr];unfold execOp;simp only[ho,resolve,Z1,Y7,ZL,Ye,ZY,invoke,Y8,Xt];exact d6 hbody _
 exact tx hS hargs hex hc h hk
def uV {α:Type}:List BA->(List DV->List kx->Rd α)->Rd α
 |[],k=>k [] []
 | .pt r j::cs,k=>.get (.meta_ r) fun
   |some (.m n true)=>if j<n then kW r j (n-j) fun hs=>uV cs fun ds pts=>k (.mp hs::ds) ((r,j,hs)::pts)else .fail
   |_=>.fail
 | .rp rec j::cs,k=>if j<rec.length then uV cs fun ds pts=>k (.ptr (rec.drop j)::ds) pts else .fail
def oK (pr:(Unit->Prop)->Prop)(al:∀ {β:Type},List (Option Nat)->List A->(ax->Rd β)->Rd β)(ty pty:TypeId->Option TI)(isP:TypeId->Bool)(n:Nat)(d:Option Tmp)(body:FuncId->Bool)(t:Tmp)(ts:Array TypeId)(args:Array Operand)(pt:FuncId->Option PK)(rw:Nat->List DV->List W):Rd Out:=
 fF (.tmp t) fun
  | .fn f caps=>match pt f with
    |some mk=>if body f then qH al ty pty isP ts.toList args.toList fun ds srcs pts=>uV caps fun ds2 pts2=>A3 pr n d (ds++ds2) srcs (pts++pts2) mk rw else .fail
    |none=>.fail
  |_=>.fail
def sN.append {ds es:List DV}{srcs src2:List (Nat×Nat)}{pts pts2:List kx}{vs us:List Value}(h:sN G g w ds srcs pts vs)(k:sN G g w es src2 pts2 us):sN G g w (ds++es) (srcs++src2) (pts++pts2) (vs++us):=by
 induction h with
 |nil=>exact k
 |dat hd h ht hs ih=>rw[Zn];exact sN.dat hd h ht ih
 |ptr h h0 hs ih=>exact sN.ptr h h0 ih
def nu (hS:av cx G g a w){α:Type}:∀ (cs:List BA) (ps:List Value) (k:List DV->List kx->Rd α) (ls:List Loc) (out:α),dH G w cs ps->(uV cs k).Runs g ls out->
 ∃ ds pts ls',sN G g w ds [] pts ps/\(k ds pts).Runs g ls' out
 |[],ps,k,ls,out,hc,h=>by simp only[dH]at hc;subst hc;exact⟨[],[],ls,.nil,h⟩
 | .pt r j::cs,ps,k,ls,out,hc,h=>by
   obtain⟨v,vs',rfl,⟨b,off,h0,rfl⟩,hc⟩:=hc;obtain⟨ls1,_,h⟩:=h;simp only at h;split at h
   ·split at h
    ·rename_i hlt;obtain⟨hs,ls2,e1,e2,h⟩:=mh _ _ _ _ _ h;obtain⟨ds,pts,ls3,k1,k2⟩:=nu hS cs vs' _ _ _ hc h;refine⟨_,_,ls3,sN.ptr (p:=(r,j,hs)) (b:=b) (off:=off) ⟨⟨b,off,h0⟩,?_,e2⟩ h0 k1,k2⟩;show 0<hs.length;omega
    ·exact h.elim
   ·exact h.elim
 | .rp rec j::cs,ps,k,ls,out,hc,h=>by
   obtain⟨v,vs',rfl,⟨b,off,cur,ty,fz,S,rfl,q1,q2,q3,q4,q5⟩,hc⟩:=hc;simp only[uV]at h;split at h
   ·rename_i hlt;obtain⟨ds,pts,ls3,k1,k2⟩:=nu hS cs vs' _ _ _ hc h;obtain⟨S1,r1,r2⟩:=q4.sub j (rec.length-j);have hd:(rec.drop j).take (rec.length-j)=rec.drop j:=List.take_of_length_le (by simp);rw[hd]at r1;have e:(cur.toList.drop (off+j)).take (rec.drop j).length=(((cur.toList.drop off).take rec.length).drop j).take (rec.length-j):=by
     rw[YN,Y5,Z9,Zo,Nat.min_self]
    have hrd:mG w (.ptr (rec.drop j)) (.pointer (some ⟨b,off+j,none⟩)) (b::S1):=⟨b,off+j,cur,ty,fz,S1,rfl,q1,by simp;omega,by rw[e];exact r1,rfl⟩;refine⟨_,_,ls3,sN.dat (src:=[]) (S:=b::S1) (fun hs=>by simp) hrd (fun c hcb=>?_) k1,k2⟩;rcases Zj.1 hcb with rfl|hcb;exact .inl q2;exact .inl (q5 c (r2 c hcb))
   ·exact h.elim
def wV {t:Tmp}{ts:Array TypeId}{args:Array Operand}(ho:o.op=.call {callee:=.value (.tmp t),args:=args,argTypes:=ts})(hS:av cx G g a w){isP:TypeId->Bool}{pt:FuncId->Option PK} 
 (hc:∀ f mk,pt f=some mk->∀ ds pre outs res,mk ds=some (pre,outs,res)->pre ()->xV P f ds outs res)
 (h:(oK kY eL (kz P) (Eg P) isP cx.n o.dst (da P) t ts args pt dt).Runs g ls (.ws ws))
 (hk:∀ a' w',d5 cx (bh g ws) a' w'->K a' w'):o.wp P a w K Q:=by
 obtain⟨x0,ls1,hx,h⟩:=bu hS h;cases x0 with
 | fn f caps=>
   obtain⟨ps,e,hcap⟩:=hx;simp only at h;split at h
   case h_2=>exact h.elim
   rename_i mk hmk;split at h
   case isFalse=>exact h.elim
   rename_i hbody;obtain⟨ds,srcs,pts,ls2,hargs,h⟩:=nR hS _ _ _ _ _ h;obtain⟨ds2,pts2,ls3,hcaps,h⟩:=nu hS _ _ _ _ _ hcap h;have hall:=hargs.append hcaps;rw[Z4]at hall;have hex:(execOp a.eval o).run P w=.ok (.enter f (args.toList.map a.eval++ps).toArray) w:=by
    have harr:(args.toList.map a.eval++ps).toArray=args.map a.eval++ps.toArray:=by rw[<-List.append_toArray, <-Yq,Yr]
    rw[harr];unfold execOp;simp only[ho,resolve,e,Y7,ZL,Ye,ZY,invoke,Y8];exact d6 hbody _
   exact tx hS hall hex (hc f mk hmk) h hk
 |_=>exact h.elim
end
end Go.V
namespace Go.V
def FM (X:Nat->Prop)(w:World):H->Value->Prop
 | .own l,v=>bO w l v []
 | .ro l,v=>∃ S,bO w l v S/\∀ c∈S,X c
 | .gone,_=>True
def EI (P:Program)(f:FuncId)(ds:List DV)(hs:List H):Prop:=
 ∀ (X:Nat->Prop) (w:World) (vs:List Value),dz X w ds vs->
  Calls P f vs.toArray w fun e w'=>∃ b off cur ty,∃ val:Nat->Value,e=.returned (.pointer (some ⟨b,off,none⟩))/\w.heap.size<=b/\w'.heap[b]?=some (.cells cur ty (0,0))/\off+hs.length<=cur.size/\
   (∀ j,j<hs.length->cur[off+j]?=some (val j))/\(∀ j h,hs[j]?=some h->FM X w' h (val j))/\Same (fun _=>True) w w'
abbrev NK :=List DV->Option ((Unit->Prop)×List H)
def D9 {α:Type}:List Operand->(List DV->Rd α)->Rd α
 |[],k=>k []
 | x::xs,k=>fF x fun
   | .v y=>if scal y then D9 xs fun ds=>k (.one (.v y)::ds)else .fail
   | .ro sz es=>D9 xs fun ds=>k (.one (.s sz es)::ds)
   |_=>.fail
def sC (pr:(Unit->Prop)->Prop)(n:Nat)(d:Option Tmp)(body:Bool)(args:Array Operand)(mk:NK):Rd Out:=
 if body then D9 args.toList fun ds=>match mk ds with
  |some (pre,hs)=>.req (pr pre) (fresh n d fun d=>.ret (.ws [.root d true (hs.map fun h=>⟨0,0,none,h⟩),.reg d (.one (.pt d 0))]))
  |none=>.fail
 else .fail
section
variable {P: Program} {o: Oper} {cx: Cx} {G: Gh} {g: Gm} {a: Act} {w: World} {ls: List Loc} {ws: List W} {K: Act -> World -> Prop} {Q: Exit -> Act -> World -> Prop}
def nO (hS:av cx G g a w){α:Type}:∀ (xs:List Operand) (k:List DV->Rd α) (ls:List Loc) (out:α),(D9 xs k).Runs g ls out->
 ∃ ds ls',dz (fun b=>G.ow b=some .ro) w ds (xs.map a.eval)/\(k ds).Runs g ls' out
 |[],k,ls,out,h=>⟨[],ls,rfl,h⟩
 | x::xs,k,ls,out,h=>by
   obtain⟨x0,ls1,hx,h⟩:=bu hS h;cases x0 with
   | v y=>
     simp only at h;split at h
     ·rename_i hy;obtain⟨ds,ls2,h1,h2⟩:=nO hS xs _ _ _ h;have hx':a.eval x=y:=hx;have hr:mG w (.one (.v y)) (a.eval x) []:=⟨hx',hy,rfl⟩;have hh:dz (fun b=>G.ow b=some .ro) w (.one (.v y)::ds) (a.eval x::xs.map a.eval):=⟨_,_,[],rfl,hr,by simp,h1⟩;exact⟨_,ls2,hh,h2⟩
     ·exact h.elim
   | ro sz es=>
     obtain⟨ds,ls2,h1,h2⟩:=nO hS xs _ _ _ h;obtain⟨S,q1,q2⟩:=hx;have hh:dz (fun b=>G.ow b=some .ro) w (.one (.s sz es)::ds) (a.eval x::xs.map a.eval):=⟨_,_,S,rfl,q1,q2,h1⟩;exact⟨_,ls2,hh,h2⟩
   |_=>exact h.elim
def zx {f:FuncId}{ts:Array TypeId}{args:Array Operand}(ho:o.op=.call {callee:=.value (.func f),args:=args,argTypes:=ts})(hS:av cx G g a w){mk:NK} 
 (hmk:∀ ds pre hs,mk ds=some (pre,hs)->pre ()->EI P f ds hs) (h:(sC kY cx.n o.dst (da P f) args mk).Runs g ls (.ws ws))
 (hk:∀ a' w',d5 cx (bh g ws) a' w'->K a' w'):o.wp P a w K Q:=by
 unfold sC at h;split at h
 ·rename_i hbody;obtain⟨ds,ls1,hargs,h⟩:=nO hS _ _ _ _ h;split at h
  case h_2=>exact h.elim
  rename_i pre hs he;obtain⟨hpre,h⟩:=h;obtain⟨d,ls2,hd,hlt,hm,h⟩:=cJ h;simp only[Rd.Runs,Out.ws.injEq]at h;obtain⟨_,rfl⟩:=h;have hex:(execOp a.eval o).run P w=.ok (.enter f (args.map a.eval)) w:=by
   unfold execOp;simp only[ho,resolve,Z1,Y7,ZL,Ye,ZY,invoke,Y8,Xt];exact d6 hbody _
  unfold YE;rw[hex];simp only[Y4];have hcall:=hmk ds pre hs he hpre _ w (args.toList.map a.eval) hargs;have harr:(args.toList.map a.eval).toArray=args.map a.eval:=by rw[<-Yq,Yr]
  rw[harr]at hcall;refine hcall.mono ?_;rintro e w' ⟨b,off,cur,ty,val,rfl,hb,hheap,hlen,hcell,hn,hsame⟩;rw[hd];refine hk _ _ ?_;obtain⟨G',k1,k2,k3,_⟩:=hS.newRoot hm true (hs.map fun h=>⟨0,0,none,h⟩) w' hsame val (fun _=>[])
   (by
     intro j h hj;simp only[ZC,Zy]at hj;obtain⟨h0,e1,rfl⟩:=hj;have:=hn j h0 e1;cases h0 with
     |own l=>simp only[Dm];exact⟨this,ZO,by simp⟩
     |ro l=>simp only[Dm];obtain⟨S,q1,q2⟩:=this;exact⟨trivial,S,q1,q2⟩
     |gone=>simp only[Dm])
   (by
     intro j h hj;simp only[ZC,Zy]at hj;obtain⟨h0,e1,rfl⟩:=hj;exact eJ.none)
   (fun i j _ _ _ b hb=>by cases hb) b off
   (fun _=>⟨hb,⟨cur,ty,hheap,by simpa using hlen,fun j hj=>hcell j (by simpa using hj)⟩,fun j _ hb=>by cases hb⟩)
  simp only[bh];exact⟨G',k1.put hlt (by simp only[cK];exact⟨b,off,k3 rfl,rfl⟩)⟩
 ·exact h.elim
end
end Go.V
namespace Go.V
open Go.MapKept
def dN:af->Int->Option (Nat×Value)
 |[],_=>none
 |[.v (.int _ k),.v x]::l,n=>if k=n then some (0,x)else(dN l n).map fun p=>(p.1+1,p.2)
 |_::_,_=>none
def mgbI (es:af)(n:Int):Bool:=match dN es n with
 |some (_,.bool b)=>b
 |_=>false
def iF (es:af)(n:Int):Int:=match dN es n with
 |some (_,.int _ i)=>i
 |_=>0
def lO (es:af)(n:Int)(l:L):af:=match dN es n with
 |some (j,_)=>es.set j [.i n,l]
 |none=>es++[[.i n,l]]
def qF:Bool->Value
 |true=>.bool false
 |false=>.int Za 0
def yE (P:Program)(t:TypeId):Option Bool:=match P.underlying t with
 | some (.map kt et)=>match P.underlying kt,P.info? et with
   | some (.int Za),some i=>match i.zero with
     |some (.bool false)=>some true
     |some (.int Za 0)=>some false
     |_=>none
   |_,_=>none
 |_=>none
section
variable {P: Program} {w: World}
def qE {t:TypeId}{kb:Bool}(h:yE P t=some kb):∃ kt et,P.underlying t=some (.map kt et)/\P.underlying kt=some (.int Za)/\(zeroValue et).run P w=.ok (qF kb) w:=by
 unfold yE at h;split at h
 ·rename_i kt et hm;split at h
  ·rename_i i hk hi;split at h
   ·rename_i hz;cases h;exact⟨kt,et,hm,hk,by simp[zeroValue,typeInfo,hi,hz,qF]⟩
   ·rename_i hz;cases h;exact⟨kt,et,hm,hk,by simp[zeroValue,typeInfo,hi,hz,qF]⟩
   ·cases h
  ·cases h
 ·cases h
def dR.find {kb:Bool}{n:Int}:∀ {l:List MapEntry} {es:af} (i:Nat),dR kb l es->W5 (.int Za) (.int Za n) l i=some ((dN es n).map fun p=>(i+p.1,p.2))
 |[],es,i,h=>by simp only[dR]at h;subst h;rfl
 | e::l,es,i,h=>by
   obtain⟨k,r,rfl,hk,hm,h⟩:=h;have ih:=dR.find (n:=n) (i+1) h;simp only[W5,hk,Instr.sameNow,if_true,dN];by_cases c:k=n
   ·subst c;simp
   ·have:(n==k)=false:=by simpa using fun e=>c e.symm
    simp only[this,VK c,ih,Option.map_map]
    congr 2
    funext p
    simp only[VE]
    congr 1;omega
def dR.keys {kb:Bool}:∀ {l:List MapEntry} {es:af},dR kb l es->∀ x∈l,IsKey (.int Za) x.key/\FF kb x.val=true
 |[],es,h,x,hx=>by cases hx
 | e::l,es,h,x,hx=>by
   obtain⟨k,r,rfl,hk,hm,h⟩:=h;rcases Zj.1 hx with rfl|hx
   ·rw[hk];exact⟨rfl,hm⟩
   ·exact dR.keys h x hx
def dR.at {kb:Bool}{n:Int}:∀ {l:List MapEntry} {es:af},dR kb l es->∀ j x,dN es n=some (j,x)->∃ e,l[j]?=some e/\e.key=.int Za n/\e.val=x
 |[],es,h,j,x,hf=>by simp only[dR]at h;subst h;cases hf
 | e::l,es,h,j,x,hf=>by
   obtain⟨k,r,rfl,hk,hm,h⟩:=h;simp only[dN]at hf;split at hf
   ·rename_i c;subst c;cases hf;exact⟨e,rfl,hk,rfl⟩
   ·simp only[Zy]at hf;obtain⟨⟨j',x'⟩,hf,e2⟩:=hf;cases e2;obtain⟨e',q1,q2⟩:=dR.at h j' x' hf;exact⟨e',by simpa using q1,q2⟩
def dR.none {kb:Bool}{n:Int}:∀ {l:List MapEntry} {es:af},dR kb l es->dN es n=XE->∀ x∈l,x.key≠ .int Za n
 |[],es,h,hf,x,hx=>by cases hx
 | e::l,es,h,hf,x,hx=>by
   obtain⟨k,r,rfl,hk,hm,h⟩:=h;simp only[dN]at hf;split at hf
   ·cases hf
   ·rename_i c;simp only[Option.map_eq_none_iff]at hf;rcases Zj.1 hx with rfl|hx
    ·rw[hk];intro q;cases q;exact c rfl
    ·exact dR.none h hf x hx
def dR.push {kb:Bool}{e:MapEntry}{n:Int}(he:e.key=.int Za n)(hv:FF kb e.val=true):∀ {l:List MapEntry} {es:af},dR kb l es->dR kb (l++[e]) (es++[[.i n,.v e.val]])
 |[],es,h=>by simp only[dR]at h;subst h;exact⟨n,[],rfl,he,hv,rfl⟩
 | e0::l,es,h=>by
   obtain⟨k,r,rfl,hk,hm,h⟩:=h;exact⟨k,_,rfl,hk,hm,dR.push he hv h⟩
def dR.set {kb:Bool}{e:MapEntry}{n:Int}(he:e.key=.int Za n)(hv:FF kb e.val=true):∀ {l:List MapEntry} {es:af} (j:Nat),dR kb l es->dR kb (l.set j e) (es.set j [.i n,.v e.val])
 |[],es,j,h=>by simp only[dR]at h;subst h;simp[dR]
 | e0::l,es,j,h=>by
   obtain⟨k,r,rfl,hk,hm,h⟩:=h;cases j with
   |zero=>exact⟨n,r,rfl,he,hv,h⟩
   |succ j=>exact⟨k,_,rfl,hk,hm,dR.set he hv j h⟩
def dR.kind {kb:Bool}{n:Int}{l:List MapEntry}{es:af}(h:dR kb l es):(match dN es n with|some (_,x)=>x|XE=>qF kb)=(if kb then .bool (mgbI es n)else .int Za (iF es n)):=by
 unfold mgbI iF;cases hf:dN es n with
 |none=>cases kb<;>rfl
 | some p=>
   obtain⟨j,x⟩:=p;obtain⟨e,q1,q2,q3⟩:=h.at j x hf;have hk:=(h.keys e (Zx q1)).2;rw[q3]at hk;cases kb<;>cases x<;>simp_all [FF]
   rename_i k i;cases k<;>simp_all [FF]
def Cs {t:TypeId}{kb:Bool}(ht:yE P t=some kb){b:Nat}{ents:Array MapEntry}{clock:Nat}(hb:w.heap[b]?=some (.map ents clock)){es:af}(hr:dR kb ents.toList es)(n:Int):
 (Wo t (.map (some b)) (.int Za n) false).run P w=.ok (if kb then .bool (mgbI es n)else .int Za (iF es n)) w:=by
 obtain⟨kt,et,hm,hk,hz⟩:=qE (w:=w) ht;have hf:=dR.find (n:=n) 0 hr;rw[<-hr.kind];cases hmf:dN es n with
 | none=>
   rw[hmf]at hf;simp[Wo,run_underlying hm,Xa hb,Xi hk (k:=.int Za n) rfl,Xj hk hf,hz,ZZ]
 | some p=>
   rw[hmf]at hf;simp[Wo,run_underlying hm,Xa hb,Xi hk (k:=.int Za n) rfl,Xj hk hf,ZZ]
def C5 {t:TypeId}{kb:Bool}(ht:yE P t=some kb){b:Nat}{ents:Array MapEntry}{clock:Nat}(hb:w.heap[b]?=some (.map ents clock))(hs:Stamped ents clock){es:af}(hr:dR kb ents.toList es)(n:Int){x:Value}(hx:FF kb x=true):
 ∃ ents' clock',(Wp t (.map (some b)) (.int Za n) x).run P w=.ok () {w with heap:=w.heap.setIfInBounds b (.map ents' clock')}/\Stamped ents' clock'/\dR kb ents'.toList (lO es n (.v x)):=by
 obtain⟨kt,et,hm,hk,_⟩:=qE (w:=w) ht;have hf:=dR.find (n:=n) 0 hr;unfold lO;cases hmf:dN es n with
 | none=>
   rw[hmf]at hf;refine⟨ents.push {key:=.int Za n,val:=x,born:=clock},clock+1,?_,stamped_push hs (hr.none hmf),?_⟩
   ·simp[Wp,run_underlying hm,Xa hb,Xi hk (k:=.int Za n) rfl,Xj hk hf,Xu _ hb,ZZ]
   ·simpa using hr.push (e:={key:=.int Za n,val:=x,born:=clock}) rfl hx
 | some p=>
   obtain⟨j,y⟩:=p;rw[hmf]at hf;obtain⟨e,q1,q2,q3⟩:=hr.at j y hmf;have hj:ents[j]?=some e:=by simpa using q1
   have hlt:j<ents.size:=(Zz.1 hj).1;refine⟨ents.modify j fun e=>{e with key:=.int Za n,val:=x},clock,?_,?_,?_⟩
   ·simp[Wp,run_underlying hm,Xa hb,Xi hk (k:=.int Za n) rfl,Xj hk hf,hj,q2,W6 (d:=.int Za) (k:=.int Za n) rfl,Xu _ hb,ZZ]
   ·exact stamped_modify hs _ _ (fun _ _=>rfl) (fun e' _ he'=>by rw[hj]at he';cases he';exact q2.symm)
   ·have:(ents.modify j fun e=>{e with key:=.int Za n,val:=x}).toList=ents.toList.set j {e with key:=.int Za n,val:=x}:=by
     apply ZQ;intro i;simp only[ZX,YQ,Xz];by_cases c:j=i
     ·subst c;have:=(Zz.1 hj).2;simp[hlt,this]
     ·simp[c]
    rw[this];exact hr.set (e:={e with key:=.int Za n,val:=x}) rfl hx j
def AL (es:af)(n:Int):Bool->Value
 |true=>.bool (mgbI es n)
 |false=>.int Za (iF es n)
def ES {t:TypeId}{kb:Bool}(ht:yE P t=some kb){b:Nat}{ents:Array MapEntry}{clock:Nat}(hb:w.heap[b]?=some (.map ents clock))(hs:Stamped ents clock){es:af}(hr:dR kb ents.toList es)(n:Int):
 ∃ (ents':Array MapEntry) (clock' i:Nat) (e:MapEntry),(Wq t (.map (some b)) (.int Za n)).run P w=.ok (.tuple #[AL es n kb,goInt e.born]) {w with heap:=w.heap.setIfInBounds b (.map ents' clock')}/\Stamped ents' clock'/\dR kb ents'.toList (lO es n (.v (AL es n kb)))/\ents'[i]?=some e/\e.key=.int Za n:=by
 obtain⟨kt,et,hm,hk,hz⟩:=qE (w:=w) ht;have hf:=dR.find (n:=n) 0 hr;have hc:AL es n kb=(match dN es n with|some (_,x)=>x|XE=>qF kb):=by
  rw[hr.kind];cases kb<;>rfl
 unfold lO;cases hmf:dN es n with
 | none=>
   rw[hmf]at hf hc;simp only at hc;have hx:FF kb (qF kb)=true:=by cases kb<;>rfl
   refine⟨ents.push {key:=.int Za n,val:=qF kb,born:=clock},clock+1,ents.size,{key:=.int Za n,val:=qF kb,born:=clock},?_,stamped_push hs (hr.none hmf),?_,by simp,rfl⟩
   ·rw[hc];simp[Wq,run_underlying hm,Xa hb,Xi hk (k:=.int Za n) rfl,Xj hk hf,hz,Xu _ hb,ZZ]
   ·rw[hc]
    simpa using hr.push (e:={key:=.int Za n,val:=qF kb,born:=clock}) rfl hx
 | some p=>
   obtain⟨j,y⟩:=p;rw[hmf]at hf hc;simp only at hc;obtain⟨e,q1,q2,q3⟩:=hr.at j y hmf;have hj:ents[j]?=some e:=by simpa using q1
   have hlt:j<ents.size:=(Zz.1 hj).1;refine⟨ents.modify j fun e=>{e with key:=.int Za n},clock,j,{e with key:=.int Za n},?_,?_,?_,?_,rfl⟩
   ·rw[hc];simp[Wq,run_underlying hm,Xa hb,Xi hk (k:=.int Za n) rfl,Xj hk hf,hj,q2,W6 (d:=.int Za) (k:=.int Za n) rfl,Xu _ hb,ZZ]
   ·exact stamped_modify hs _ _ (fun _ _=>rfl) (fun e' _ he'=>by rw[hj]at he';cases he';exact q2.symm)
   ·have:(ents.modify j fun e=>{e with key:=.int Za n}).toList=ents.toList.set j {e with key:=.int Za n}:=by
     apply ZQ;intro i;simp only[ZX,YQ,Xz];by_cases c:j=i
     ·subst c;have:=(Zz.1 hj).2;simp[hlt,this]
     ·simp[c]
    rw[this,hc];have hv:FF kb e.val=true:=(hr.keys e (Zx q1)).2;subst q3;exact hr.set (e:={e with key:=.int Za n}) (n:=n) rfl hv j
   ·simp[YQ,hj]
def JH {es:af}{n:Int}:∀ {l:List MapEntry} {kb:Bool},dR kb l es->(l.map (·.key)).Nodup->∀ {i:Nat} {e:MapEntry},l[i]?=some e->e.key=.int Za n->dN es n=some (i,e.val):=by
 intro l kb hr hn i e hi hk;cases hmf:dN es n with
 |none=>exact absurd hk (hr.none hmf e (Zx hi))
 | some p=>
   obtain⟨j,y⟩:=p;obtain⟨e2,q1,q2,q3⟩:=hr.at j y hmf;have hj:(l.map (·.key))[j]?=some (.int Za n):=by rw[ZC,q1];simp[q2]
   have hi':(l.map (·.key))[i]?=some (.int Za n):=by rw[ZC,hi];simp[hk]
   have hlt:j<(l.map (·.key)).length:=(ZB.1 hj).1;have e1:j=i:=(W7 hlt hn).1 (hj.trans hi'.symm);subst e1;rw[hi]at q1;cases q1;rw[q3]
def vf {t:TypeId}{kb:Bool}{b:Nat}{ents:Array MapEntry}{clock:Nat}(hb:w.heap[b]?=some (.map ents clock))(hs:Stamped ents clock){es:af}(hr:dR kb ents.toList es){n:Int}{i:Nat}{e:MapEntry}(hi:ents[i]?=some e)(hk:e.key=.int Za n){x:Value}(hx:FF kb x=true):
 ∃ ents':Array MapEntry,(W8 t (.map (some b)) (goInt e.born) x).run P w=.ok () {w with heap:=w.heap.setIfInBounds b (.map ents' clock)}/\Stamped ents' clock/\dR kb ents'.toList (lO es n (.v x)):=by
 have hi':ents.toList[i]?=some e:=by simpa using hi
 have hlt:i<ents.size:=(Zz.1 hi).1;have hmf:=JH hr hs.2.2 hi' hk;have hidx:ents.findIdx? (fun e'=>(e'.born:Int)==(e.born:Int))=some i:=by
  rw[Array.findIdx?_eq_some_iff_getElem];refine⟨hlt,?_,fun j hj=>?_⟩
  ·have:=(Zz.1 hi).2;simp[this]
  ·intro hq;simp only[beq_iff_eq,Int.ofNat_inj]at hq;have hjl:j<ents.size:=by omega
   have h1:(ents.toList.map (·.born))[j]?=some e.born:=by rw[ZC];simp[hjl,hq]
   have h2:(ents.toList.map (·.born))[i]?=some e.born:=by rw[ZC,hi'];rfl
   have:=(W7 (by simpa using hjl) hs.2.1).1 (h1.trans h2.symm);omega
 refine⟨ents.modify i fun e=>{e with val:=x},?_,?_,?_⟩
 ·simp[W8,Xa hb,goInt,asInt,asIntOf,hidx,Xu _ hb,ZZ]
 ·exact stamped_modify hs _ _ (fun _ _=>rfl) (fun e' _ _=>rfl)
 ·have:(ents.modify i fun e=>{e with val:=x}).toList=ents.toList.set i {e with val:=x}:=by
   apply ZQ;intro j;simp only[ZX,YQ,Xz];by_cases c:i=j
   ·subst c;have:=(Zz.1 hi).2;simp[hlt,this]
   ·simp[c]
  rw[this];unfold lO;rw[hmf];exact hr.set (e:={e with val:=x}) hk hx i
end
end Go.V
namespace Go.V
open Go.MapKept
def lN (mp:TypeId->Option Bool)(n:Nat)(d:Option Tmp)(t:TypeId)(res:Option Operand):Rd Out:=
 match res with
 |some _=>.fail
 | none=>match mp t with
   |none=>.fail
   |some kb=>fresh n d fun d=>.ret (.ws [.root d false [⟨0,0,none,.own (.m kb [])⟩],.reg d (.one (.mv d 0 0))])
def oL (mgb:af->Int->Bool)(mgi:af->Int->Int)(mp:TypeId->Option Bool)(n:Nat)(d:Option Tmp)(t:TypeId)(x i:Operand)(ok:Bool):Rd Out:=
 match ok with
 |true=>.fail
 | false=>match mp t with
   |none=>.fail
   | some kb=>fF x fun
     | .mv r j ver=>ke i fun k m=>if k==.i64 then gn r j fun h=>match h.c with
       | .own (.m kb' es)=>if h.ver==ver&&kb'==kb then bF n d (.one (.v (match kb with
          |true=>.bool (mgb es m)
          |false=>.int Za (mgi es m))))else .fail
       |_=>.fail else .fail
     |_=>.fail
def oM (mu:af->Int->L->af)(mp:TypeId->Option Bool)(t:TypeId)(m k v:Operand):Rd Out:=
 match mp t with
 |none=>.fail
 | some kb=>fF m fun
   | .mv r j ver=>ke k fun kd i=>if kd==.i64 then fF v fun
     | .v x=>if FF kb x then gn r j fun h=>match h.c with
       | .own (.m kb' es)=>if h.ver==ver&&kb'==kb then .ret (.ws [.leaf r j ⟨h.ver,h.iv+1,h.org,.own (.m kb (mu es i (.v x)))⟩])else .fail
       |_=>.fail else .fail
     |_=>.fail else .fail
   |_=>.fail
def jN (mgb:af->Int->Bool)(mgi:af->Int->Int)(mu:af->Int->L->af)(mp:TypeId->Option Bool)(n:Nat)(d:Option Tmp)(t:TypeId)(m k:Operand):Rd Out:=
 match mp t,d with
 | some kb,some d=>if d<n then fF m fun
    | .mv r j ver=>ke k fun kd i=>if kd==.i64 then gn r j fun h=>match h.c with
      | .own (.m kb' es)=>if h.ver==ver&&kb'==kb then(match kb with
         |true=>.ret (.ws [.leaf r j ⟨h.ver,h.iv+1,h.org,.own (.m true (mu es i (.v (.bool (mgb es i)))))⟩,.reg d (.tup [.k (mgb es i),.one (.st r j h.ver (h.iv+1) i)])])
         |false=>.ret (.ws [.leaf r j ⟨h.ver,h.iv+1,h.org,.own (.m false (mu es i (.i (mgi es i))))⟩,.reg d (.tup [.j (mgi es i),.one (.st r j h.ver (h.iv+1) i)])]))else .fail
      |_=>.fail else .fail
    |_=>.fail else .fail
 |_,_=>.fail
def gj (mu:af->Int->L->af)(mp:TypeId->Option Bool)(t:TypeId)(m s x:Operand):Rd Out:=
 match mp t with
 |none=>.fail
 | some kb=>fF m fun
   | .mv r j ver=>fF s fun
     | .st r2 j2 ver2 iv2 i=>fF x fun
       | .v y=>if FF kb y then gn r j fun h=>match h.c with
         | .own (.m kb' es)=>if h.ver==ver&&kb'==kb&&r2==r&&j2==j&&gV h ver2 iv2 then .ret (.ws [.leaf r j ⟨h.ver,h.iv+1,h.org,.own (.m kb (mu es i (.v y)))⟩])else .fail
         |_=>.fail else .fail
       |_=>.fail
     |_=>.fail
   |_=>.fail
section
variable {P: Program} {o: Oper} {cx: Cx} {G: Gh} {g: Gm} {a: Act} {w: World} {ls: List Loc} {ws: List W} {K: Act -> World -> Prop} {Q: Exit -> Act -> World -> Prop}
def wq {t:TypeId}{res:Option Operand}(ho:o.op=.makeMap t res)(hS:av cx G g a w)(h:(lN (yE P) cx.n o.dst t res).Runs g ls (.ws ws)) 
 (hk:∀ a' w',d5 cx (bh g ws) a' w'->K a' w'):o.wp P a w K Q:=by
 unfold lN at h;split at h
 ·exact h.elim
 ·split at h
  ·exact h.elim
  ·rename_i kb hmp;obtain⟨d,ls2,hd,hlt,hm,h⟩:=cJ h;simp only[Rd.Runs,Out.ws.injEq]at h;obtain⟨_,rfl⟩:=h;have hnew:=heap_alloc_new w (.map #[] 0);obtain⟨G',k1,k2,_⟩:=hS.newRoot hm false [⟨0,0,none,.own (.m kb [])⟩] (w.alloc (.map #[] 0)) (mA w _) (fun _=>.map (some w.heap.size)) (fun _=>[w.heap.size])
    (by
      intro j hv hj;cases j with
      |succ j=>simp at hj
      | zero=>
        simp at hj;subst hj;simp only[Dm];refine⟨⟨w.heap.size, #[],0,rfl,hnew,stamped_empty 0,rfl,rfl⟩,by simp,fun b hb=>?_⟩;simp only[Zj,Xe,or_false]at hb;subst hb;exact⟨.inr ⟨_,_,hnew⟩,.inl (Zf _)⟩)
    (by
      intro j hv hj;cases j with
      |succ j=>simp at hj
      |zero=>simp at hj;subst hj;exact eJ.none)
    (fun i j hi hj hij=>by simp at hi hj;omega) 0 0 (by simp)
   refine cU (v:=.map (some w.heap.size)) (w':=w.alloc (.map #[] 0)) ?_ (hk _ _ ?_)
   ·unfold execOp;simp[ho,Instr.makeMap,ZZ]
   ·simp only[bh];rw[hd];refine⟨G',k1.put hlt ?_⟩;simp only[cK,gq];exact⟨⟨0,0,none,.own (.m kb [])⟩,by simp[gl,W.app],Zf _,fun _ kb' es' _=>(k2 0).symm⟩
def wW {t:TypeId}{x i:Operand}{ok:Bool}(ho:o.op=.lookup t x i ok)(hS:av cx G g a w)(h:(oL mgbI iF (yE P) cx.n o.dst t x i ok).Runs g ls (.ws ws)) 
 (hk:∀ a' w',d5 cx (bh g ws) a' w'->K a' w'):o.wp P a w K Q:=by
 unfold oL at h;split at h
 ·exact h.elim
 ·split at h
  ·exact h.elim
  ·rename_i kb hmp;obtain⟨x0,ls1,hx,h⟩:=bu hS h;cases x0 with
   | mv r j ver=>
     obtain⟨kd,n,ls2,hi,h⟩:=dY hS h;split at h
     case isFalse=>exact h.elim
     rename_i hkd;simp only[beq_iff_eq]at hkd;subst hkd;obtain⟨hv,ls3,q1,q2,h⟩:=bD h;split at h
     case h_2=>exact h.elim
     rename_i kb' es hc;split at h
     case isFalse=>exact h.elim
     rename_i hb;simp only[Zb,beq_iff_eq]at hb;obtain⟨hb,rfl⟩:=hb;obtain⟨h2,f1,f2,f3⟩:=hx;rw[q1]at f1;cases f1;have e:=f3 hb _ _ hc;have hok:=hS.hok q1;simp only[dO,hc,bO]at hok;obtain⟨⟨b,ents,clock,g1,g2,g3,g4,g5⟩,_⟩:=hok;refine aT hS h (v:=if kb' then .bool (mgbI es n)else .int Za (iF es n)) (by cases kb'<;>simp[cK,gq]) ?_ hk;unfold execOp;simp[ho,e,g1,hi,Cs hmp g2 g4 n]
   |_=>exact h.elim
def wZ {t:TypeId}{m k v:Operand}(ho:o.op=.mapUpdate t m k v)(hdst:o.dst=none)(hS:av cx G g a w)(h:(oM lO (yE P) t m k v).Runs g ls (.ws ws)) 
 (hk:∀ a' w',d5 cx (bh g ws) a' w'->K a' w'):o.wp P a w K Q:=by
 unfold oM at h;split at h
 ·exact h.elim
 ·rename_i kb hmp;obtain⟨x0,ls1,hx,h⟩:=bu hS h;cases x0 with
  | mv r j ver=>
    obtain⟨kd,n,ls2,hi,h⟩:=dY hS h;split at h
    case isFalse=>exact h.elim
    rename_i hkd;simp only[beq_iff_eq]at hkd;subst hkd;obtain⟨y,ls3,hy,h⟩:=bu hS h;cases y with
    | v y=>
      simp only at h;split at h
      case isFalse=>exact h.elim
      rename_i hmk;obtain⟨hv,ls4,q1,q2,h⟩:=bD h;split at h
      case h_2=>exact h.elim
      rename_i kb' es hc;split at h
      case isFalse=>exact h.elim
      rename_i hb;simp only[Zb,beq_iff_eq]at hb;obtain⟨hb,rfl⟩:=hb;simp only[Rd.Runs,Out.ws.injEq]at h;obtain⟨_,rfl⟩:=h;obtain⟨h2,f1,f2,f3⟩:=hx;rw[q1]at f1;cases f1;have e:=f3 hb _ _ hc;have hok:=hS.hok q1;simp only[dO,hc,bO]at hok;obtain⟨⟨b,ents,clock,g1,g2,g3,g4,g5⟩,hnd,htok⟩:=hok;have hy:a.eval v=y:=hy;obtain⟨ents',clock',u1,u2,u3⟩:=C5 hmp g2 g3 g4 n hmk;have hset:=W9 (o':=Va ents' clock') g2;have hbb:b∈G.fp r j:=by rw[g5];simp
      have hob:=(htok b hbb).1;obtain⟨G',k1,_⟩:=hS.upd q2 ⟨hv.ver,hv.iv+1,hv.org,.own (.m kb' (lO es n (.v y)))⟩ (G.val r j) (G.fp r j) {w with heap:=w.heap.setIfInBounds b (.map ents' clock')}
       (.inr ⟨rfl,YH _,rfl,.inr ⟨kb',es,_,hc,rfl⟩⟩) rfl rfl rfl (by simp)
       (fun c _ _ h3=>hset.2 c (fun e=>h3 _ hc (e▸hbb)))
       (fun c off hl=>by
         obtain⟨kk,hk2⟩:=hS.noloc r _ hl;obtain⟨b',off',cur,ty,m1,m2,m3,m4,m5⟩:=hS.boxes r kk hk2;rw[hl]at m1;cases m1;have hne:c≠b:=by intro e;subst e;rw[hob]at m2;cases m2
         refine⟨cur,cur,ty,m3,by rw[hset.2 c hne];exact m3,rfl,fun hlt=>?_,fun _ _=>rfl⟩;obtain⟨_,k3,bx,_,e3,e4,_⟩:=hS.leaf r j _ q2;rw[hk2]at e3;cases e3;exact m5 j e4)
       (fun l _ c hcb=>by
         rw[g5]at hcb;simp only[Zj,Xe,or_false]at hcb;subst hcb;exact .inr ⟨_,_,hset.1⟩)
       (by
         refine⟨⟨b,ents',clock',g1,hset.1,u2,u3,g5⟩,hnd,fun c hcb=>⟨?_,.inr ⟨_,hc,hcb⟩⟩⟩;rw[g5]at hcb;simp only[Zj,Xe,or_false]at hcb;subst hcb;exact .inr ⟨_,_,hset.1⟩)
       (by
         intro i hi' _;exact hS.anc r j hv q1 i hi' ⟨_,.inl hc⟩)
      refine kw hdst (w':={w with heap:=w.heap.setIfInBounds b (.map ents' clock')}) ?_ (hk _ _ ?_)
      ·unfold execOp;simp[ho,e,g1,hi,hy,u1]
      ·simp only[bh];exact⟨G',k1⟩
    |_=>exact h.elim
  |_=>exact h.elim
def D3 (hS:av cx G g a w){r j:Nat}{hv:Hv}(q2:g (.leaf r j)=some (.h hv)){kb:Bool}{es es':af}(hc:hv.c=.own (.m kb es)){b:Nat}{ents':Array MapEntry}{clock':Nat}(g1:G.val r j=.map (some b))(u2:Stamped ents' clock')(u3:dR kb ents'.toList es'):
 ∃ G',av cx G' ((W.leaf r j ⟨hv.ver,hv.iv+1,hv.org,.own (.m kb es')⟩).app g) a {w with heap:=w.heap.setIfInBounds b (.map ents' clock')}/\G'.val r j=.map (some b)/\({w with heap:=w.heap.setIfInBounds b (.map ents' clock')}:World).heap[b]?=some (.map ents' clock'):=by
 have hok:=hS.hok (ap.2 q2);simp only[dO,hc,bO]at hok;obtain⟨⟨b0,ents,clock,g1',g2,g3,g4,g5⟩,hnd,htok⟩:=hok;rw[g1]at g1';cases g1';have hset:=W9 (o':=Va ents' clock') g2;have hbb:b∈G.fp r j:=by rw[g5];simp
 have hob:=(htok b hbb).1;obtain⟨G',k1,_,k3,_⟩:=hS.upd q2 ⟨hv.ver,hv.iv+1,hv.org,.own (.m kb es')⟩ (G.val r j) (G.fp r j) {w with heap:=w.heap.setIfInBounds b (.map ents' clock')}
  (.inr ⟨rfl,YH _,rfl,.inr ⟨kb,es,_,hc,rfl⟩⟩) rfl rfl rfl (by simp)
  (fun c _ _ h3=>hset.2 c (fun e=>h3 _ hc (e▸hbb)))
  (fun c off hl=>by
    obtain⟨kk,hk2⟩:=hS.noloc r _ hl;obtain⟨b',off',cur,ty,m1,m2,m3,m4,m5⟩:=hS.boxes r kk hk2;rw[hl]at m1;cases m1;have hne:c≠b:=by intro e;subst e;rw[hob]at m2;cases m2
    refine⟨cur,cur,ty,m3,by rw[hset.2 c hne];exact m3,rfl,fun hlt=>?_,fun _ _=>rfl⟩;obtain⟨_,k3,bx,_,e3,e4,_⟩:=hS.leaf r j _ q2;rw[hk2]at e3;cases e3;exact m5 j e4)
  (fun l _ c hcb=>by
    rw[g5]at hcb;simp only[Zj,Xe,or_false]at hcb;subst hcb;exact .inr ⟨_,_,hset.1⟩)
  (by
    refine⟨⟨b,ents',clock',g1,hset.1,u2,u3,g5⟩,hnd,fun c hcb=>⟨?_,.inr ⟨_,hc,hcb⟩⟩⟩;rw[g5]at hcb;simp only[Zj,Xe,or_false]at hcb;subst hcb;exact .inr ⟨_,_,hset.1⟩)
  (by
    intro i hi' _;exact hS.anc r j hv (ap.2 q2) i hi' ⟨_,.inl hc⟩)
 exact⟨G',k1,by rw[k3,VJ ⟨rfl,rfl⟩];exact g1,hset.1⟩
def ua {t:TypeId}{m k:Operand}(ho:o.op=.mapEntry t m k)(hS:av cx G g a w)(h:(jN mgbI iF lO (yE P) cx.n o.dst t m k).Runs g ls (.ws ws)) 
 (hk:∀ a' w',d5 cx (bh g ws) a' w'->K a' w'):o.wp P a w K Q:=by
 unfold jN at h;split at h
 case h_2=>exact h.elim
 rename_i kb d hmp hd;split at h
 case isFalse=>exact h.elim
 rename_i hlt;obtain⟨x0,ls1,hx,h⟩:=bu hS h;cases x0 with
 | mv r j ver=>
   obtain⟨kd,n,ls2,hi,h⟩:=dY hS h;split at h
   case isFalse=>exact h.elim
   rename_i hkd;simp only[beq_iff_eq]at hkd;subst hkd;obtain⟨hv,ls4,q1,q2,h⟩:=bD h;split at h
   case h_2=>exact h.elim
   rename_i kb' es hc;split at h
   case isFalse=>exact h.elim
   rename_i hb;simp only[Zb,beq_iff_eq]at hb;obtain⟨hb,rfl⟩:=hb;obtain⟨h2,f1,f2,f3⟩:=hx;rw[q1]at f1;cases f1;have e:=f3 hb _ _ hc;have hok:=hS.hok q1;simp only[dO,hc,bO]at hok;obtain⟨⟨b,ents,clock,g1,g2,g3,g4,g5⟩,hnd,htok⟩:=hok;obtain⟨ents',clock',i,en,u1,u2,u3,u4,u5⟩:=ES hmp g2 g3 g4 n;obtain⟨G',k1,k2,k3⟩:=D3 hS q2 hc g1 u2 u3;have hws:ws=[.leaf r j ⟨hv.ver,hv.iv+1,hv.org,.own (.m kb' (lO es n (.v (AL es n kb'))))⟩,.reg d (.tup [.one (.v (AL es n kb')),.one (.st r j hv.ver (hv.iv+1) n)])]:=by
    cases kb'<;>(simp only[Rd.Runs,Out.ws.injEq]at h;exact h.2)
   subst hws;refine cU (v:=.tuple #[AL es n kb',goInt en.born]) (w':={w with heap:=w.heap.setIfInBounds b (.map ents' clock')}) ?_ (hk _ _ ?_)
   ·unfold execOp;simp[ho,e,g1,hi,u1,ZZ]
   ·simp only[bh];rw[hd];refine⟨G',k1.put hlt ?_⟩;simp only[cK];refine⟨[AL es n kb',goInt en.born],rfl,?_⟩;simp only[hZ,cK];refine⟨_,_,rfl,?_,_,_,rfl,?_,rfl⟩
    ·simp only[gq]
    ·simp only[gq];refine⟨⟨hv.ver,hv.iv+1,hv.org,.own (.m kb' (lO es n (.v (AL es n kb'))))⟩,by simp[gl,W.app],Zf _,Zf _,fun _ kb2 es2 q=>?_⟩;exact⟨b,ents',clock',i,en,k2,k3,u4,u5,rfl⟩
 |_=>exact h.elim
def qR {t:TypeId}{m s x:Operand}(ho:o.op=.entryStore t m s x)(hdst:o.dst=none)(hS:av cx G g a w)(h:(gj lO (yE P) t m s x).Runs g ls (.ws ws)) 
 (hk:∀ a' w',d5 cx (bh g ws) a' w'->K a' w'):o.wp P a w K Q:=by
 unfold gj at h;split at h
 ·exact h.elim
 ·rename_i kb hmp;obtain⟨x0,ls1,hx,h⟩:=bu hS h;cases x0 with
  | mv r j ver=>
    obtain⟨s0,ls2,hs,h⟩:=bu hS h;cases s0 with
    | st r2 j2 ver2 iv2 n=>
      obtain⟨y0,ls3,hy,h⟩:=bu hS h;cases y0 with
      | v y=>
        simp only at h;split at h
        case isFalse=>exact h.elim
        rename_i hmk;obtain⟨hv,ls4,q1,q2,h⟩:=bD h;split at h
        case h_2=>exact h.elim
        rename_i kb' es hc;split at h
        case isFalse=>exact h.elim
        rename_i hb;simp only[Zb,beq_iff_eq]at hb;obtain⟨⟨⟨⟨hb,rfl⟩,rfl⟩,rfl⟩,hgd⟩:=hb;simp only[Rd.Runs,Out.ws.injEq]at h;obtain⟨_,rfl⟩:=h;obtain⟨h2,f1,f2,f3⟩:=hx;rw[q1]at f1;cases f1;have e:=f3 hb _ _ hc;obtain⟨h3,s1,s2,s3,s4⟩:=hs;rw[q1]at s1;cases s1;obtain⟨b,ents,clock,i,en,t1,t2,t3,t4,t5⟩:=s4 hgd _ _ hc;have hok:=hS.hok q1;simp only[dO,hc,bO]at hok;obtain⟨⟨b',ents0,clock0,g1,g2,g3,g4,g5⟩,hnd,htok⟩:=hok;rw[t1]at g1;cases g1;rw[t2]at g2;cases g2;have hy:a.eval x=y:=hy;obtain⟨ents',u1,u2,u3⟩:=vf (P:=P) (t:=t) t2 g3 g4 t3 t4 hmk;obtain⟨G',k1,_⟩:=D3 hS q2 hc t1 u2 u3;refine kw hdst (w':={w with heap:=w.heap.setIfInBounds b (.map ents' clock)}) ?_ (hk _ _ ?_)
        ·unfold execOp;simp[ho,e,t1,t5,hy,u1]
        ·simp only[bh];exact⟨G',k1⟩
      |_=>exact h.elim
    |_=>exact h.elim
  |_=>exact h.elim
end
end Go.V
namespace Go.V
section
variable {P: Program} {o: Oper} {cx: Cx} {G: Gh} {g: Gm} {a: Act} {w: World} {ls: List Loc} {ws: List W} {K: Act -> World -> Prop} {Q: Exit -> Act -> World -> Prop}
def AZ {sz:Nat}{es:af}{p:List (Nat×Nat)}{new:ax}{y:ax×Nat}(h:bP (.s sz es) p=some y):lK (.s sz es) p new=.s sz (rowOf (lK (.s sz es) p new)):=by
 match p with
 |[]=>simp[bP]at h
 |[(i,j)]=>rfl
 |(i,j)::q::p=>rfl
def av.storeAt (hS:av cx G g a w){r j:Nat}{h0:Hv}{l:L}(q3:g (.leaf r j)=some (.h h0))(hc:h0.c=.own l){p:List (Nat×Nat)}{b o0:Nat}(g1:bM w l (G.val r j) p b o0){rec:ax}{jj:Nat}(hg:bP l p=some (rec,jj)) 
 (ls0:ax) (vs:List Value) (S2:List Nat) (hlen:jj+ls0.length<=rec.length) (hvl:ls0.length=vs.length) (hone:∀ u∈vs,u.oneCell'=true) (hrd2:aj w ls0 vs S2) (hnd2:S2.Nodup)
 (hsub:∀ (cur:Array Value) (ty:TypeId) (fz:Nat×Nat) (Sy:List Nat),w.heap[b]?=some (.cells cur ty fz)->aj w ((rec.drop jj).take vs.length) ((cur.toList.drop o0).take vs.length) Sy->∀ c∈S2,c∈Sy):
 ∃ w',(storeCells ⟨b,o0,none⟩ vs 0).run P w=.ok () w'/\d5 cx ((W.leaf r j ⟨h0.ver,h0.iv+1,h0.org,.own (lK l p ls0)⟩).app g) a w':=by
 have hok:=hS.hok (ap.2 q3);simp only[dO,hc]at hok;obtain⟨cur,ty,fz,base,Sa,S1,Sb,m1,m2,m3,m4,m5,m6,m7⟩:=focus p l _ _ b o0 rec jj hok.1 hok.2.1 g1 hg;have hbS:b∈G.fp r j:=by rw[m2];simp[m3]
 obtain⟨how,hunf⟩:=hok.2.2 b hbS;have hfz:=hunf.cells m1;subst hfz
 let cur':=(cur.toList.take o0++vs++cur.toList.drop (o0+vs.length)).toArray
 let w':=w.setRow b cur'
 have hsz:cur'.size=cur.size:=by
  simp only[cur',List.size_toArray,Zh,Zi,Zo,ZF];rw[m4];omega
 have hst:(storeCells ⟨b,o0,none⟩ vs 0).run P w=.ok () w':=by
  have:=run_storeCells_at P b o0 ty vs 0 cur w m1 Uc (hone)
  simpa[w',cur']using this
 have hoth:∀ b',b'≠b->w'.heap[b']?=w.heap[b']?:=fun b' hb'=>setRow_other w b b' _ hb'
 have hnew0:w'.heap[b]?=some (.cells cur' ty (0,0)):=setRow_heap w b cur _ ty _ m1;have hcell:∀ i,cur'[i]?=if o0<=i/\i<o0+vs.length then vs[i-o0]? else cur[i]?:=by
  intro i;simp only[cur',List.getElem?_toArray];have l1:(cur.toList.take o0).length=o0:=by simp only[Zi,ZF];omega
  rcases Z7 i o0 with hi|hi
  ·rw[VK Uc,Zn,ZN Uc,Zw,VJ hi];simp
  ·rcases Z7 i (o0+vs.length)with hi2|hi2
   ·rw[VJ ⟨hi,hi2⟩,Zn,ZM Uc,l1,ZN Uc]
   ·rw[VK Uc,Zn,ZM Uc,l1,ZM Uc,Zv];have:o0+vs.length+(i-o0-vs.length)=i:=by omega
    rw[this];simp
 have hndb:b∉S1/\b∉Sb:=by
  have hn:=hok.2.1;rw[m2]at hn;rw[Zu]at hn;obtain⟨n1,n2,n3⟩:=hn;rw[Zu]at n1;exact⟨fun hb=>n1.2.2 b m3 b hb rfl,fun hb=>n3 b (by simp[m3]) b hb rfl⟩
 have hlen':jj+vs.length<=rec.length:=by omega
 have m6':aj w (rec.take jj++((rec.drop jj).take vs.length++(rec.drop jj).drop vs.length)) ((cur.toList.drop base).take rec.length) S1:=by
  rw[ZK,ZK];exact m6
 obtain⟨Sx,Sr,rfl,x1,x2⟩:=aj.split m6';obtain⟨Sy,Sz,rfl,x3,x4⟩:=aj.split x2;have lj:(rec.take jj).length=jj:=by simp only[Zi];omega
 have ly:((rec.drop jj).take vs.length).length=vs.length:=by simp only[Zi,Zo];omega
 have ey:(((cur.toList.drop base).take rec.length).drop (rec.take jj).length).take ((rec.drop jj).take vs.length).length=(cur.toList.drop o0).take vs.length:=by
  rw[lj,ly,YN,Y5,Z9,m4]
  congr 1;omega
 have hS2:∀ c∈S2,c∈Sy:=hsub cur ty (0,0) Sy m1 (by rw[<-ey];exact x3);have hnb:∀ c∈S2,c≠b:=by
  rintro c hc0 rfl;exact hndb.1 (by simp[hS2 c hc0])
 have rd1:aj w' (rec.take jj) (((cur'.toList.drop base).take rec.length).take jj) Sx:=by
  have:=aj.keep (w':=w') _ _ _ x1 (fun c hc0=>hoth c (by rintro rfl;exact hndb.1 (by simp[hc0])));rw[lj]at this;have e:(((cur'.toList.drop base).take rec.length).take jj)=(((cur.toList.drop base).take rec.length).take jj):=by
   apply ZQ;intro i;simp only[Zw,Zv,ZX];by_cases ci:i<jj
   ·have hci:=hcell (base+i);rw[VK Uc]at hci;rw[hci]
   ·simp[ci]
  rw[e];simpa using this
 have rd2:aj w' ls0 vs S2:=aj.keep _ _ _ hrd2 (fun c hc0=>hoth c (hnb c hc0));have rd3:aj w' ((rec.drop jj).drop vs.length) (((cur'.toList.drop base).take rec.length).drop (jj+vs.length)) Sz:=by
  have:=aj.keep (w':=w') _ _ _ x4 (fun c hc0=>hoth c (by rintro rfl;exact hndb.1 (by simp[hc0])));rw[lj,ly]at this;have e:(((cur'.toList.drop base).take rec.length).drop (jj+vs.length))=(((cur.toList.drop base).take rec.length).drop (jj+vs.length)):=by
   apply ZQ;intro i;simp only[Zw,Zv,ZX];by_cases ci:jj+vs.length+i<rec.length
   ·have hci:=hcell (base+(jj+vs.length+i));rw[VK Uc]at hci;rw[hci]
   ·simp[ci]
  rw[e, <-Z9];exact this
 have hmid:(cur'.toList.drop base).take rec.length=((cur'.toList.drop base).take rec.length).take jj++(vs++((cur'.toList.drop base).take rec.length).drop (jj+vs.length)):=by
  have e3:((cur'.toList.drop base).take rec.length).drop jj=vs++((cur'.toList.drop base).take rec.length).drop (jj+vs.length):=by
   rw[<-Z9]
   conv=>lhs;rw[<-ZK vs.length (((cur'.toList.drop base).take rec.length).drop jj)]
   congr 1
   apply ZQ;intro i;simp only[Zw,Zv,ZX];by_cases ci:i<vs.length
   ·have hci:=hcell (base+(jj+i));rw[VJ Uc]at hci;rw[VJ ci,VJ Uc,hci]
    congr 1;omega
   ·rw[VK ci,Z8 Uc]
  rw[<-e3,ZK]
 have rdall:aj w' (rec.take jj++ls0++rec.drop (jj+ls0.length)) ((cur'.toList.drop base).take rec.length) (Sx++(S2++Sz)):=by
  rw[hmid,Zn,hvl, <-Z9];exact rd1.append (rd2.append rd3)
 have hrd:=m7 w' cur' _ _ hnew0 hsz (by
  intro i hi;rw[hcell,VK Uc]) (by
  simp only[Zh,Zi,Zo,hvl];omega) rdall
  (fun c hc0 hcb=>hoth c hcb)
 rw[<-oH p l rec jj _ hg]at hrd;have hS':(Sa++(Sx++(S2++Sz))++Sb).Nodup:=by
  have hn:=hok.2.1;rw[m2]at hn;have e4:Sa++(Sx++(S2++Sz))++Sb=(Sa++Sx)++S2++(Sz++Sb):=by simp
  have e5:Sa++(Sx++(Sy++Sz))++Sb=(Sa++Sx)++Sy++(Sz++Sb):=by simp
  rw[e4];rw[e5]at hn;refine vH hn hnd2 (fun c hc0 hcA=>?_) (fun c hc0 hcB=>?_)
  ·exact(mj hn).2 c (hS2 c hc0)|>.1 hcA
  ·exact(mj hn).2 c (hS2 c hc0)|>.2 hcB
 have hlsz:∃ sz es,l=.s sz es:=by
  cases l with
  |s sz es=>exact⟨sz,es,rfl⟩
  |v y=>cases p<;>simp[bP]at hg
  |g=>cases p<;>simp[bP]at hg
  |m _ _=>cases p<;>simp[bP]at hg
 obtain⟨sz,es,hls⟩:=hlsz;obtain⟨es',hes1,hes2⟩:=AS l p (rec.take jj++ls0++rec.drop (jj+ls0.length)) sz es hls;rw[<-oH p l rec jj _ hg]at hes1;obtain⟨G',s1,_⟩:=hS.upd q3 ⟨h0.ver,h0.iv+1,h0.org,.own (lK l p ls0)⟩ (G.val r j) (Sa++(Sx++(S2++Sz))++Sb) w'
  (.inr ⟨rfl,YH _,rfl,.inl ⟨sz,es,es',by rw[hc,hls],by simp only[hes1],hes2⟩⟩) rfl rfl rfl (by simp[w'])
  (fun b' _ _ h2=>hoth b' (by rintro rfl;exact h2 l hc hbS))
  (by
    intro b1 off1 hl1;obtain⟨mm,hm⟩:=hS.noloc r _ hl1;obtain⟨b2,off2,c2,t2,u1,u2,u3,u4,u5⟩:=hS.boxes r mm hm;rw[hl1]at u1;cases u1;have hne:b1≠b:=by rintro rfl;rw[how]at u2;cases u2
    obtain⟨_,mm',bx,_,p2,p3,_⟩:=hS.leaf r j _ q3;rw[hm]at p2;cases p2;exact⟨c2,c2,t2,u3,by rw[hoth b1 hne];exact u3,rfl,fun _=>u5 j p3,fun _ _=>rfl⟩)
  (by
    intro l' hc' b1 hb1;by_cases hb:b1=b
    ·subst hb;exact .inl ⟨cur',ty,hnew0⟩
    ·exact(hok.2.2 b1 hb1).2.keep (hoth b1 hb))
  (by
    simp only;refine⟨hrd,hS',fun b1 hb1=>?_⟩;have q:b1∈G.fp r j:=by
     rw[m2];simp only[Zg]at hb1 ⊢;rcases hb1 with(q|q|q|q)|q;exact .inl (.inl q);exact .inl (.inr (.inl q));exact .inl (.inr (.inr (.inl (hS2 b1 q))));exact .inl (.inr (.inr (.inr q)));exact .inr q
    refine⟨?_,.inr ⟨l,hc,q⟩⟩;by_cases hb:b1=b
    ·subst hb;exact .inl ⟨cur',ty,hnew0⟩
    ·exact(hok.2.2 b1 q).2.keep (hoth b1 hb))
  (fun i e1 _=>hS.anc r j h0 (ap.2 q3) i e1 ⟨l,.inl hc⟩)
 exact⟨w',hst,G',s1⟩
def dA.part {hv:Value}{sz lo0 m:Nat}{base':Option Addr}{cap':Nat}(hw:dA hv sz lo0 m (.slice base' m cap')){es:af}{S:List Nat}(hr:bO w (.s sz es) hv S)(hlm:lo0+m<=es.length){l hh:Int}(h0:0<=l)(h1:l<=hh)(h2:hh<=m):
 dA hv sz (lo0+l.toNat) (hh.toNat-l.toNat) (.slice (if cap'=l.toNat then base' else base'.map (·.add (l.toNat*sz))) (hh.toNat-l.toNat) (cap'-l.toNat)):=by
 obtain⟨base,len,cap,base'',cap'',g1,g2,g3,g4,g5,g6⟩:=hw;cases g2;have hcm:(cap'-l.toNat)*sz+l.toNat*sz=cap'*sz:=by rw[<-Zl];congr 1;omega
 refine⟨base,len,cap,_,_,g1,rfl,Uc,Uc,?_,?_⟩
 ·intro e1 e2;have e3:l.toNat=0:=by omega
  have e4:lo0=0:=by omega
  have e5:m=len:=by
   simp only[bO]at hr;obtain⟨b0,n0,c0,r1,r2,_⟩:=hr;rw[g1]at r1;cases r1;omega
  have:=g5 e4 e5;rw[<-this];have e6:hh.toNat=m:=by omega
  rw[e3,e6];have:(if cap'=0 then base' else base'.map (·.add (0*sz)))=base':=by
   split;rfl
   ·cases base'<;>simp[Addr.add]
  simp only[this,Nat.sub_zero]
 ·rcases g6 with⟨r1,r3⟩|⟨b,off,off',r1,r2,r3,r4⟩;exact .inl ⟨r1,Uc⟩
  ·subst r1 r2;by_cases c:cap'=l.toNat
   ·rw[VJ c];exact .inr ⟨b,off,off',rfl,rfl,by rw[c];simp;rw[c]at r3;omega,fun hp=>by omega⟩
   ·rw[VK c];refine .inr ⟨b,off,off'+l.toNat*sz,rfl,by simp[add_lit],Uc,fun hp=>?_⟩;have:=r4 Uc;rw[this,Zl];omega
def dA.rd {v:Value}{sz lo m:Nat}{es:af}{hv:Value}{S:List Nat}(hr:bO w (.s sz es) hv S)(hlo:lo+m<=es.length)(hw:dA hv sz lo m v):∃ S1,bO w (.s sz ((es.drop lo).take m)) v S1/\∀ b∈S1,b∈S:=by
 obtain⟨base,len,cap,base',cap',g1,g2,g3,g4,g5,g6⟩:=hw;have hr0:=hr;simp only[bO]at hr;obtain⟨base0,len0,cap0,q1,q2,q3,q4,q5⟩:=hr;rw[g1]at q1;cases q1;have hlen:((es.drop lo).take m).length=m:=by simp only[Zi,Zo];omega
 rcases q5 with⟨e1,e3⟩|⟨b,off,cur,ty,fz,S',f1,f2,f3,f4,f5⟩
 ·refine⟨[],?_,fun b hb=>by cases hb⟩;simp only[bO];exact⟨base',m,cap',g2,hlen.symm,g3,Uc,.inl ⟨Uc,trivial⟩⟩
 ·rcases g6 with⟨r1,r3⟩|⟨b1,off1,off',r1,r2,r3,r4⟩
  ·refine⟨[],?_,fun b hb=>by cases hb⟩;simp only[bO];exact⟨base',m,cap',g2,hlen.symm,g3,Uc,.inl ⟨r3,trivial⟩⟩
  rw[r1]at f1;cases f1;obtain⟨S1,k1,k2⟩:=f4.sub lo m;by_cases hm:0<m
  ·have ho:=r4 hm;refine⟨b::S1,?_,fun c hc=>by rw[f5];rcases Zj.1 hc with rfl|hc;exact .head _;exact .tail _ (k2 c hc)⟩;simp only[bO];refine⟨base',m,cap',g2,hlen.symm,g3,Uc,.inr ⟨b,off',cur,ty,fz,S1,r2,f2,Uc,?_,rfl⟩⟩;have hl2:m*sz+lo*sz<=len*sz:=by rw[<-Zl];exact Nat.mul_le_mul_right _ Uc
   have:(cur.toList.drop off').take (m*sz)=(((cur.toList.drop off).take (len*sz)).drop (lo*sz)).take (((es.drop lo).take m).length*sz):=by
    apply ZQ;intro k;rw[hlen,ho];simp only[Zw,Zv];by_cases ck:k<m*sz
    ·simp only[ck,if_true];rw[VJ Uc];congr 1;omega
    ·simp[ck]
   rw[this];exact k1
  ·have hm0:m=0:=by omega
   subst hm0;refine⟨[b],?_,fun c hc=>by rw[f5];rcases Zj.1 hc with rfl|hc;exact .head _;cases hc⟩;simp only[bO,List.take_zero];exact⟨base',0,cap',g2,rfl,g3,Uc,.inr ⟨b,off',cur,ty,fz,[],r2,f2,Uc,by simp[bE],rfl⟩⟩
def bM.det:∀ (p:List (Nat×Nat)) (l:L) (hv:Value) (b o b' o':Nat),bM w l hv p b o->bM w l hv p b' o'->b'=b/\o'=o
 |[],l,hv,b,o,b',o',h,_=>by cases l<;>simp[bM]at h
 | (i,j)::p,l,hv,b,o,b',o',h,h'=>by
  cases l with
  | s sz es=>
    simp only[bM]at h h';obtain⟨b1,off,len,cap,y1,y2,y3⟩:=h;obtain⟨b2,off2,len2,cap2,z1,z2,z3⟩:=h';rw[y1]at z1;cases z1;cases p with
    |nil=>obtain⟨rfl,rfl⟩:=y3;exact z3
    | cons q p=>
      obtain⟨l1,v1,u1,u2,u3⟩:=y3;obtain⟨l2,v2,w1,w2,w3⟩:=z3;rw[u1]at w1;cases w1;rw[u2]at w2;cases w2;exact bM.det (q::p) _ _ _ _ _ _ u3 w3
  |_=>simp[bM]at h
def A0 {k:Nat}{es:af}{b off len cap:Nat}{S:List Nat}(h:bO w (.s k es) (.slice (some ⟨b,off,none⟩) len cap) S)(hs:bN es)(hc:cap≠0):S=[b]:=by
 simp only[bO]at h;obtain⟨base,len',cap',e,_,_,_,h⟩:=h;cases e;rcases h with⟨q,_⟩|⟨b',off',cur,ty,fz,S',e,_,_,q,rfl⟩;exact absurd q hc
 ·cases e;rw[gZ hs q]
def dA.own {v hv:Value}{k lo m:Nat}{es:af}{S:List Nat}(hw:dA hv k lo m v)(hr:bO w (.s k es) hv S)(hlo:lo+m<=es.length)(hsc:bN es)(hst:bN ((es.drop lo).take m)):
 ∃ S2,bO w (.s k ((es.drop lo).take m)) v S2/\S2.Nodup/\∀ S3,bO w (.s k es) hv S3->∀ c∈S2,c∈S3:=by
 obtain⟨S1,k1,_⟩:=dA.rd hr hlo hw;obtain⟨base,len,cap,base',cap',g1,g2,g3,g4,g5,g6⟩:=id hw;subst g1 g2;by_cases hc:cap'=0
 ·subst hc;refine⟨[],?_,ZO,fun S3 _ c hc=>by cases hc⟩;simp only[bO]at k1 ⊢;obtain⟨base0,len0,cap0,q1,q2,q3,q4,_⟩:=k1;cases q1;exact⟨_,_,_,rfl,q2,q3,q4,.inl ⟨rfl,trivial⟩⟩
 ·rcases g6 with⟨_,q⟩|⟨b,off,off',r1,r2,r3,r4⟩;exact absurd q hc
  ·subst r1 r2;have e:=A0 k1 hst hc;subst e;refine⟨[b],k1,by simp,fun S3 h3 c hc3=>?_⟩;rw[A0 h3 hsc Uc];exact hc3
def xH:∀ {es:af} {m:Nat},bN es->bN (es.take m)
 |[],m,_=>by simp[bN]
 |e::es,0,_=>by simp[bN]
 |e::es,m+1,h=>⟨h.1,xH h.2⟩
def nested (hS:av cx G g a w){r j ver iv lo m:Nat}{p:List (Nat×Nat)}{v:Value}(hx:gq (gl g) G w (.vn r j ver iv p lo m) v){h:Hv}(q1:gl g r j=some h)(hgd:gV h ver iv=true){l:L}(hc:h.c=.own l){k:Nat}{es:af}(hs:gT l p=some (k,es)):
 ∃ rec o bb oo hv S,bP l p=some (rec,o)/\rec[o]?=some (.s k es)/\bM w l (G.val r j) p bb oo/\w.cell? ⟨bb,oo,none⟩=some hv/\lo+m<=es.length/\dA hv k lo m v/\bO w (.s k es) hv S/\S.Nodup:=by
 obtain⟨h2,f1,f2,f2',fne,f3⟩:=hx;rw[q1]at f1;cases f1;unfold gT at hs;cases hg:bP l p with
 |none=>simp[hg]at hs
 | some pr=>
   obtain⟨rec,j0⟩:=pr;simp only[hg]at hs;split at hs
   case h_2=>cases hs
   rename_i sz es' hrec;cases hs;obtain⟨bb,oo,hvv,f4,f5,f6,f7⟩:=f3 hgd l rec j0 k es hc hg hrec;have hok:=hS.hok q1;simp only[dO,hc]at hok;obtain⟨cur,ty,fz,base,Sa,S1,Sb,m1,m2,m3,m4,m5,m6,_⟩:=focus p l _ _ bb oo rec j0 hok.1 hok.2.1 f4 hg;obtain⟨Sp,Sx,Sq,v',k1,k2,k3⟩:=m6.at j0 _ hrec;have hvv':v'=hvv:=by
    have:=dp m1 k2;rw[<-m4,f5]at this;exact(YB this).symm
   subst hvv';have hn:=hok.2.1;rw[m2]at hn;have hn1:=(mj hn).1;rw[k1]at hn1;exact⟨rec,j0,bb,oo,v',Sx,rfl,hrec,f4,f5,f6,f7,k3,(mj hn1).1⟩
end
def qS (pr:(Unit->Prop)->Prop)(ad:Nat->Int->Nat)(df:Int->Int->Nat)(zi:Nat->Int)(el:TypeId->Option (TypeId×TI×Nat))(n:Nat)(d:Option Tmp)(t:TypeId)(x:Operand)(low high max:Option Operand):Rd Out:=
 match el t,max with
 | some (_,ti,_),none=>fF x fun
   | .vn r j ver iv p lo m=>gn r j fun h=>match h.c with
     | .own l=>if gV h ver iv then eQ low 0 fun a=>eQ high (zi m) fun b=>
        .req (pr fun _=>0<=a/\a<=b/\b<=m/\∃ es,gT l p=some (ti.zero.length,es)) (bF n d (.one (.vn r j ver iv p (ad lo a) (df b a))))else .fail
     |_=>.fail
   |_=>.fail
 |_,_=>.fail
def qU (pr:(Unit->Prop)->Prop)(ps:Qp)(sub:af->Nat->Nat->af)(up:UpF)(ty:TypeId->Option TI)(t:TypeId)(x y:Operand):Rd Out:=
 match ty t with
 |none=>.fail
 | some ti=>match ti.slots with
   | [some k]=>fF x fun
     | .pn r j ver iv p=>fF y fun
       | .vn r2 j2 ver2 iv2 p2 lo m=>if Z5 r r2&&Z5 j j2 then gn r j fun h=>if vm h ver iv p&&gV h ver2 iv2 then match h.c with
         | .own (.s sz es)=>.req (pr fun _=>p=p2/\lo=0/\gT (.s sz es) p=some (k,ps (.s sz es) p)/\bN (ps (.s sz es) p))
            (.ret (.ws [.leaf r j ⟨h.ver,h.iv+1,h.org,.own (.s sz (up (.s sz es) p [.s k (sub (ps (.s sz es) p) 0 m)]))⟩]))
         |_=>.fail else .fail else .fail
       |_=>.fail
     |_=>.fail
   |_=>.fail
section
variable {P: Program} {o: Oper} {cx: Cx} {G: Gh} {g: Gm} {a: Act} {w: World} {ls: List Loc} {ws: List W} {K: Act -> World -> Prop} {Q: Exit -> Act -> World -> Prop}
def w5 {t:TypeId}{x:Operand}{lo hi mx:Option Operand}(ho:o.op=.slice t x lo hi mx)(hS:av cx G g a w)(h:(qS kY (fun lo i=>lo+i.toNat) (fun h l=>h.toNat-l.toNat) (fun n=>n) (wQ P) cx.n o.dst t x lo hi mx).Runs g ls (.ws ws)) 
 (hk:∀ a' w',d5 cx (bh g ws) a' w'->K a' w'):o.wp P a w K Q:=by
 unfold qS at h;split at h
 ·rename_i e ti bytes hel;obtain⟨x0,ls',hx,h⟩:=bu hS h;cases x0 with
  | vn r j ver iv p lo0 m=>
    simp only at h;obtain⟨hv,ls3,q1,_,h⟩:=bD h;split at h
    ·rename_i l hc;split at h
     ·rename_i hgd;obtain⟨la,ls2,h,hl⟩:=eE hS h;obtain⟨hh,ls3,h,hhi⟩:=eE hS h;obtain⟨⟨h0,h1,h2,es,hes⟩,h⟩:=h;obtain⟨rec,o0,bb,oo,hvv,S,n1,n2,n3,n4,n5,n6,n7,n8⟩:=nested hS hx q1 hgd hc hes;obtain⟨_,f1,f2,f3,fne,_⟩:=hx;rw[q1]at f1;cases f1;obtain⟨base,len,cap,base',cap',g1,g2,g3,g4,g5,g6⟩:=id n6;rw[g2]at n6;have hw:=n6.part n7 n5 h0 h1 h2;refine aT hS h ?_ (sj hel base' m cap' g2 la hh hl hhi h0 h1 Uc ho) hk;simp only[cK];refine⟨hv,q1,f2,f3,fne,fun _ l' rec' o' sz' es' hc' hr' hr2=>?_⟩;rw[hc]at hc';cases hc';rw[n1]at hr';cases hr';rw[n2]at hr2;cases hr2;exact⟨bb,oo,hvv,n3,n4,Uc,hw⟩
     ·exact h.elim
    ·exact h.elim
  |_=>exact h.elim
 ·exact h.elim
def w9 {t:TypeId}{x y:Operand}(ho:o.op=.store t x y)(hdst:o.dst=none)(hS:av cx G g a w)(h:(qU kY mT (fun es lo m=>(es.drop lo).take m) oJ (kz P) t x y).Runs g ls (.ws ws)) 
 (hk:∀ a' w',d5 cx (bh g ws) a' w'->K a' w'):o.wp P a w K Q:=by
 unfold qU at h;split at h
 ·exact h.elim
 ·rename_i ti hti;split at h
  case h_2=>exact h.elim
  rename_i k hsl;obtain⟨x0,ls1,hx,h⟩:=bu hS h;cases x0 with
  | pn r j ver iv p=>
    obtain⟨y0,ls2,hy,h⟩:=bu hS h;cases y0 with
    | vn r2 j2 ver2 iv2 p2 lo m=>
      simp only at h;split at h
      case isFalse=>exact h.elim
      rename_i hrj;simp only[Zb]at hrj;have e1:=Ys hrj.1;have e2:=Ys hrj.2;subst e1 e2;obtain⟨h0,ls3,q1,q2,hq⟩:=bD h;split at hq
      case isFalse=>exact hq.elim
      rename_i hgd;simp only[Zb]at hgd;split at hq
      case h_2=>exact hq.elim
      rename_i sz es hc;obtain⟨⟨rfl,rfl,hes,hsc⟩,hq⟩:=hq;simp only[Rd.Runs,Out.ws.injEq]at hq;obtain⟨_,rfl⟩:=hq;obtain⟨rec,o0,bb,oo,hvv,S,n1,n2,n3,n4,n5,n6,n7,n8⟩:=nested hS hy q1 hgd.2 hc hes;obtain⟨h1,f1,f2,f3,f4,f5⟩:=hx;rw[q1]at f1;cases f1;obtain⟨b,o1,g1,g2⟩:=f5 hgd.1 _ hc;obtain⟨e3,e4⟩:=bM.det _ _ _ _ _ _ _ g1 n3;subst e3 e4;obtain⟨S2,k1,knd,k2⟩:=n6.own n7 n5 hsc (by rw[List.drop_zero];exact xH hsc);have hlt:o0<rec.length:=(ZB.1 n2).1;obtain⟨w',s1,s2⟩:=hS.storeAt (P:=P) q2 hc g1 n1 [.s k (((mT (.s sz es) p).drop 0).take m)] [a.eval y] S2 (by simp;omega) rfl (by simpa using bO.one k1) (by simp only[aj];exact⟨_,[],S2,[],rfl,k1,⟨rfl,rfl⟩,by simp⟩)
       knd (by
        intro cur ty fz Sy m1 m2 c hc2;have er:(rec.drop o0).take [a.eval y].length=[.s k (mT (.s sz es) p)]:=by
         simp only[Zr,Zs,ZP];rw[List.take_one,List.head?_drop,n2];rfl
        rw[er]at m2;simp only[aj]at m2;obtain⟨v0,vs0,S3,S4,x1,x2,⟨x3,x4⟩,x5⟩:=m2;have e0:v0=hvv:=by
         have hx1:((cur.toList.drop oo).take 1)[0]?=some v0:=by rw[show(cur.toList.drop oo).take 1=_ from x1];rfl
         rw[Zw,VJ Uc,Zv,Yi,ZX]at hx1;have:=n4;simp only[World.cell?,m1]at this;rw[hx1]at this;exact YB this
        subst e0;rw[x5,x4,Z4];exact k2 S3 x2 c hc2)
      obtain⟨iti,z,ei1,ei2,ei3,ei4,ei5⟩:=eB hti;have hzl:=(eG ei4).2.2;refine kw hdst (mz hti ho g2 (lp (vs:=[a.eval y]) (.inr rfl) (by simpa using bO.one k1)) (by rw[<-hzl,hsl];rfl) s1) (hk _ _ ?_);simp only[bh];have eu:(L.s sz (oJ (.s sz es) p [.s k (((mT (.s sz es) p).drop 0).take m)]))=lK (.s sz es) p [.s k (((mT (.s sz es) p).drop 0).take m)]:=(AZ n1).symm;rw[eu];exact s2
    |_=>exact h.elim
  |_=>exact h.elim
end
end Go.V
namespace Go.V
def BF (P:Program)(f:FuncId)(ds res:List DV):Prop:=
 ∀ (w:World) (vs:List Value) (S:List Nat),bW w ds vs S->S.Nodup->(∀ b∈S,ed w b)->
  Calls P f vs.toArray w fun e w'=>∃ v Sr,e=.returned v/\gd w' res v Sr/\Sr.Nodup/\(∀ b∈Sr,ed w' b/\(w.heap.size<=b\/b∈S))/\Same (fun b=>b∉S) w w'
abbrev MO :=List DV->Option ((Unit->Prop)×List DV)
section
variable (tk: ∀ {β : Type}, List (Option Nat) -> List A -> (List (L × Option Nat) -> List (Nat × Nat) -> Rd β) -> Rd β) (ty: TypeId -> Option TI)
def Fo {α:Type}(t:TypeId)(x:Operand)(k:DV->List (Nat×Nat)->Rd α):Rd α:=
 match ty t with
 |none=>.fail
 | some ti=>ev x fun val=>match val with
   | .one a=>if ti.agg then .fail else tk ti.slots [a] fun lts srcs=>match lts with
     |[(l,_)]=>k (.one l) srcs
     |_=>.fail
   | .agg as=>if ti.agg then tk ti.slots as fun lts srcs=>k (.agg (lts.map (·.1))) srcs else .fail
   | .tup _=>.fail
def v8 {α:Type}:List TypeId->List Operand->(List DV->List (Nat×Nat)->Rd α)->Rd α
 |[],[],k=>k [] []
 |t::ts,x::xs,k=>Fo tk ty t x fun d src=>v8 ts xs fun ds srcs=>k (d::ds) (src++srcs)
 |_,_,_=>.fail
def sE (pr:(Unit->Prop)->Prop)(n:Nat)(d:Option Tmp)(body:Bool)(ts:Array TypeId)(args:Array Operand)(mk:MO)(rw:Nat->List DV->List W):Rd Out:=
 if body then v8 tk ty ts.toList args.toList fun ds srcs=>match mk ds with
  |some (pre,res)=>.req (pr pre) (if bz srcs then gU srcs fun w1=>fresh n d fun d=>.ret (.ws (w1++rw d res))else .fail)
  |none=>.fail
 else .fail
end
section
variable {P: Program} {o: Oper} {cx: Cx} {G: Gh} {g: Gm} {a: Act} {w: World} {ls: List Loc} {ws: List W} {K: Act -> World -> Prop} {Q: Exit -> Act -> World -> Prop}
def Ih (hS:av cx G g a w){d:Nat}(hlt:d<cx.n)(hm:g (.meta_ d)=none){res:List DV}{v:Value}{S:List Nat}{w':World}(hres:gd w' res v S)(hnd:S.Nodup)(hfr:∀ b∈S,ed w' b/\pd g G w b)(hos:w'.os=w.os)(htape:w'.tape=w.tape)(hout:w'.output=w.output)(hsize:w.heap.size<=w'.heap.size) 
 (hsame:∀ b,b<w.heap.size->(∀ r j,G.ow b=some (.leaf r j)->∃ h l,gl g r j=some h/\h.c=.own l)->w'.heap[b]?=w.heap[b]?):
 d5 cx (bh g (dt d res)) (a.put (some d) v) w':=by
 obtain⟨vs,lv,hlv,hv⟩:∃ vs lv,xU w' res vs lv S/\((∃ dv,res=[dv]/\vs=[v])\/v=.tuple vs.toArray/\∀ dv,res≠[dv]):=by
  cases res with
  |nil=>obtain⟨vs,e,h2⟩:=hres;obtain⟨lv,k⟩:=bW.lv h2;exact⟨vs,lv,k,.inr ⟨e,fun dv e=>by cases e⟩⟩
  | cons d1 rest=>
    cases rest with
    | nil=>
      have h2:bW w' [d1] [v] S:=by simp only[bW];exact⟨v,[],S,[],rfl,hres,⟨rfl,rfl⟩,by simp⟩
      obtain⟨lv,k⟩:=bW.lv h2;exact⟨[v],lv,k,.inl ⟨d1,rfl,rfl⟩⟩
    |cons d2 rest=>obtain⟨vs,e,h2⟩:=hres;obtain⟨lv,k⟩:=bW.lv h2;exact⟨vs,lv,k,.inr ⟨e,fun dv e=>by cases e⟩⟩
 have hrec:=hlv.rec_;obtain⟨Ss,s1,s2,s3⟩:=hrec.items;rw[<-s1]at hnd;obtain⟨G',k1,k2,_,_⟩:=hS.newRoot' hm false ((res.flatMap bJ).map fun l=>⟨0,0,none,.own l⟩) w' hos htape hout hsize hsame (fun j=>lv.getD j undef) (fun j=>Ss.getD j [])
  (by
    intro j h hj;simp only[ZC,Zy]at hj;obtain⟨l,e1,rfl⟩:=hj;obtain⟨u,q1,q2⟩:=s3 j l e1;simp only[Dm];refine⟨by simpa[ZE,q1]using q2,iG hnd j,fun b hb=>?_⟩;exact hfr b (by rw[<-s1];exact fu hb))
  (by
    intro j h hj;simp only[ZC,Zy]at hj;obtain⟨l,e1,rfl⟩:=hj;exact eJ.none)
  (fun i j _ _ hij=>ft hnd i j hij) 0 0 (by simp)
 simp only[dt,bh];refine⟨G',k1.put hlt ?_⟩;have hgl:∀ i l,(res.flatMap bJ)[i]?=some l->gl ((W.root d false ((res.flatMap bJ).map fun l=>⟨0,0,none,.own l⟩)).app g) d (0+i)=some ⟨0,0,none,.own l⟩:=by
  intro i l e;simp[gl,W.app,e]
 have hval:∀ i u,lv[i]?=some u->G'.val d (0+i)=u:=by
  intro i u e;rw[k2,ZP];simp[ZE,e]
 have hall:=nU (G:=G') res 0 vs lv S hlv (fun i l e=>⟨none,hgl i l e⟩) hval;rcases hv with⟨dv,rfl,rfl⟩|⟨rfl,hne⟩
 ·simp only[gY];simp only[kn,hZ]at hall;obtain⟨v',vs',e,h1,_⟩:=hall;cases e;exact h1
 ·have:gY d res=.tup (kn d 0 res):=by
   unfold gY;split;exact absurd rfl (hne _);rfl
  rw[this];simp only[cK];exact⟨vs,rfl,hall⟩
def Bu.tok2 (hS:av cx G g a w){ls:List (L×Option Nat)}{srcs:List (Nat×Nat)}{vs:List Value}{Ss:List (List Nat)}(h:Bu g G w ls srcs vs Ss):
 ∀ b∈Ss.flatten,ed w b/\∃ r j,(r,j)∈srcs/\G.ow b=some (.leaf r j):=by
 induction h with
 |nil=>intro b hb;simp at hb
 | cons h hs ih=>
   have f:=h.facts hS;intro b hb;rw[List.flatten_cons,Zg]at hb;rcases hb with hb|hb
   ·obtain⟨u,r,j,m1,m2⟩:=f.2.2 b hb;exact⟨u,r,j,by simp[m1],m2⟩
   ·obtain⟨u,r,j,m1,m2⟩:=ih b hb;exact⟨u,r,j,by simp[m1],m2⟩
def TkD (g:Gm)(G:Gh)(w:World)(ds:List DV)(srcs:List (Nat×Nat))(vs:List Value)(S:List Nat):Prop:=
 bW w ds vs S/\(bz srcs=true->S.Nodup)/\∀ b∈S,ed w b/\∃ r j,(r,j)∈srcs/\G.ow b=some (.leaf r j)
def CY (hS:av cx G g a w){t:TypeId}{x:Operand}{α:Type}{k:DV->List (Nat×Nat)->Rd α}{ls:List Loc}{out:α}(h:(Fo cR (kz P) t x k).Runs g ls out):
 ∃ d src S ls',hH w d (a.eval x) S/\(bz src=true->S.Nodup)/\(∀ b∈S,ed w b/\∃ r j,(r,j)∈src/\G.ow b=some (.leaf r j))/\(k d src).Runs g ls' out:=by
 unfold Fo at h;cases hti:kz P t with
 |none=>simp only[hti]at h;exact h.elim
 | some ti=>
   simp only[hti]at h;obtain⟨r,ls1,hr,h⟩:=dh hS h;cases r with
   | one x0=>
     simp only[cK]at hr;simp only at h;split at h
     ·exact h.elim
     ·obtain⟨lts,srcs,Ss,ls2,ht,hl,h⟩:=eF hS _ [x0] [a.eval x] (by simp[bQ,hr]) _ _ _ h;split at h
      ·rename_i l og;have hrec:=ht.rec_ hS;simp only[ZU,List.map_nil,aj]at hrec;obtain⟨v,vs',S1,S2,e1,k2,⟨e2,e3⟩,e4⟩:=hrec;cases e1;rw[e3,Z4]at e4;refine⟨.one l,srcs,S1,ls2,k2,fun hd=>?_,fun b hb=>?_,h⟩
       ·have:=(ht.facts hS hd).1;rwa [e4]at this
       ·have:=ht.tok2 hS b (by rw[e4];exact hb);exact this
      ·exact h.elim
   | agg as=>
     simp only[cK]at hr;obtain⟨vs,e,hr⟩:=hr;simp only at h;split at h
     ·obtain⟨lts,srcs,Ss,ls2,ht,hl,h⟩:=eF hS _ as vs hr _ _ _ h;have hrd:hH w (.agg (lts.map (·.1))) (a.eval x) Ss.flatten:=⟨vs,e,ht.rec_ hS⟩;exact⟨_,srcs,Ss.flatten,ls2,hrd,fun hd=>(ht.facts hS hd).1,ht.tok2 hS,h⟩
     ·exact h.elim
   |tup rs=>exact h.elim
def tu (hS:av cx G g a w){α:Type}:∀ (ts:List TypeId) (xs:List Operand) (k:List DV->List (Nat×Nat)->Rd α) (ls:List Loc) (out:α),(v8 cR (kz P) ts xs k).Runs g ls out->
 ∃ ds srcs S ls',TkD g G w ds srcs (xs.map a.eval) S/\(k ds srcs).Runs g ls' out
 |[],[],k,ls,out,h=>⟨[],[],[],ls,⟨⟨rfl,rfl⟩,fun _=>ZO,by simp⟩,h⟩
 |[],_::_,k,ls,out,h=>h.elim
 |_::_,[],k,ls,out,h=>h.elim
 | t::ts,x::xs,k,ls,out,h=>by
   simp only[v8]at h;obtain⟨d,src,S,ls2,k1,k2,k3,h⟩:=CY hS h;obtain⟨ds,srcs,S',ls3,⟨m1,m2,m3⟩,h⟩:=tu hS ts xs _ _ _ h;refine⟨_,_,S++S',ls3,⟨?_,fun hd=>?_,fun b hb=>?_⟩,h⟩
   ·simp only[ZU,bW];exact⟨_,_,S,S',rfl,k1,m1,rfl⟩
   ·obtain⟨d1,d2,d3⟩:=cW hd;rw[Zu];refine⟨k2 d1,m2 d2,fun b hb b' hb' e=>?_⟩;subst e;obtain⟨_,r,j,q1,q2⟩:=k3 b hb;obtain⟨_,r',j',q3,q4⟩:=m3 b hb';rw[q2]at q4;cases q4;exact d3 _ q1 q3
   ·rcases Zg.1 hb with hb|hb
    ·obtain⟨u,r,j,q1,q2⟩:=k3 b hb;exact⟨u,r,j,by simp[q1],q2⟩
    ·obtain⟨u,r,j,q1,q2⟩:=m3 b hb;exact⟨u,r,j,by simp[q1],q2⟩
def zz {f:FuncId}{ts:Array TypeId}{args:Array Operand}(ho:o.op=.call {callee:=.value (.func f),args:=args,argTypes:=ts})(hS:av cx G g a w){mk:MO} 
 (hmk:∀ ds pre res,mk ds=some (pre,res)->pre ()->BF P f ds res) (h:(sE cR (kz P) kY cx.n o.dst (da P f) ts args mk dt).Runs g ls (.ws ws))
 (hk:∀ a' w',d5 cx (bh g ws) a' w'->K a' w'):o.wp P a w K Q:=by
 unfold sE at h;split at h
 case isFalse=>exact h.elim
 rename_i hbody;obtain⟨ds,srcs,S,ls1,⟨t1,t2,t3⟩,h⟩:=tu hS _ _ _ _ _ h;split at h
 case h_2=>exact h.elim
 rename_i pre res he;obtain⟨hpre,h⟩:=h;split at h
 case isFalse=>exact h.elim
 rename_i hdist;obtain⟨w1,ls2,hS1,h,hg1,hg2⟩:=dZ srcs g hS (fun _ _ _=>rfl) hdist _ _ _ h;obtain⟨d,ls3,hd,hlt,hm,h⟩:=cJ h;simp only[Rd.Runs,Out.ws.injEq]at h;obtain⟨_,rfl⟩:=h;have hm1:bh g w1 (.meta_ d)=none:=by rw[hg2 _ (by intro r j e;cases e)];exact hm
 have hex:(execOp a.eval o).run P w=.ok (.enter f (args.map a.eval)) w:=by
  unfold execOp;simp only[ho,resolve,Z1,Y7,ZL,Ye,ZY,invoke,Y8,Xt];exact d6 hbody _
 unfold YE;rw[hex];simp only[Y4];have hcall:=hmk ds pre res he hpre w (args.toList.map a.eval) S t1 (t2 hdist) (fun b hb=>(t3 b hb).1);have harr:(args.toList.map a.eval).toArray=args.map a.eval:=by rw[<-Yq,Yr]
 rw[harr]at hcall;refine hcall.mono ?_;rintro e w' ⟨v,Sr,rfl,hres,hnd,hfr,hsame⟩;rw[hd];have gone:∀ b∈S,∃ r j,G.ow b=some (.leaf r j)/\∀ h l,gl (bh g w1) r j=some h->h.c=.own l->False:=by
  intro b hb;obtain⟨_,r,j,m1,m2⟩:=t3 b hb;refine⟨r,j,m2,fun h l e1 e2=>?_⟩;obtain⟨h',q1,q2⟩:=hg1 r j m1;rw[ap,q1]at e1;cases e1;rw[q2]at e2;cases e2
 rw[show bh g (w1++dt d res)=bh (bh g w1) (dt d res)from cE g w1 _]at hk;refine hk _ _ (Ih hS1 hlt hm1 hres hnd (fun b hb=>⟨(hfr b hb).1,?_⟩) hsame.os hsame.tape hsame.output hsame.size (fun b hb hl=>?_))
 ·rcases(hfr b hb).2 with q|q;exact .inl q
  ·obtain⟨r,j,m1,m2⟩:=gone b q;exact .inr ⟨r,j,m1,m2⟩
 ·refine hsame.block b hb (fun q=>?_);obtain⟨r,j,m1,m2⟩:=gone b q;obtain⟨h,l,e1,e2⟩:=hl r j m1;exact m2 h l e1 e2
end
end Go.V
namespace Go.V
open Go.MapKept
open Go.ChangeMaps (setBlock)
def kOf:Value->Int
 | .int _ n=>n
 |_=>0
def mg (es:af):List Int:=es.map fun e=>kOf (match e with
 | .v x::_=>x
 |_=>.bool false)
def yy {kb:Bool}:∀ {l:List MapEntry} {es:af},dR kb l es->(∀ e∈l,∃ k∈mg es,e.key=.int Za k)/\(∀ k∈mg es,∃ e∈l,e.key=.int Za k)/\l.length=es.length
 | [],es,h=>by
   have h:es=[]:=h;subst h;exact⟨(fun e he=>by cases he),(fun k hk=>by cases hk),rfl⟩
 | e::l,es,h=>by
   obtain⟨k,r,e1,e2,e3,e4⟩:=h;subst e1;obtain⟨h1,h2,h3⟩:=yy e4;refine⟨fun x hx=>?_,fun k' hk=>?_,by simp[h3]⟩
   ·rcases Zj.1 hx with rfl|hx;exact⟨k,by simp[mg,kOf],e2⟩
    ·obtain⟨k',q1,q2⟩:=h1 x hx;exact⟨k',by simp only[mg,ZU,Zj];exact .inr q1,q2⟩
   ·simp only[mg,ZU,Zj,kOf]at hk;rcases hk with rfl|hk;exact⟨e,by simp,e2⟩
    ·obtain⟨e',q1,q2⟩:=h2 k' hk;exact⟨e',by simp[q1],q2⟩
def sJ (mp:TypeId->Option Bool)(n:Nat)(d:Option Tmp)(t:TypeId)(x:Operand):Rd Out:=
 match mp t,d with
 | some kb,some d=>if d<n then fF x fun
    | .mv r j ver=>gn r j fun h=>match h.c with
      | .own (.m kb' es)=>if h.ver==ver&&kb'==kb then .ret (.ws [.leaf r j ⟨h.ver+1,h.iv,none,.gone⟩,.reg d (.one (.it es []))])else .fail
      |_=>.fail
    |_=>.fail else .fail
 |_,_=>.fail
def wm (n:Nat)(d:Option Tmp)(x:Operand):Rd Out:=
 fF x fun
  | .it _ (k::_)=>bF n d (.tup [.j k,.one .un])
  |_=>.fail
def sG (cm:TypeId->Option (List Bool))(n:Nat)(d:Option Tmp)(t:TypeId)(x:Operand)(f:Nat):Rd Out:=
 match cm t with
 |none=>.fail
 | some ks=>ev x fun
   | .agg as=>match as[f]?,ks[f]? with
     |some y,some _=>bF n d (.one y)
     |_,_=>.fail
   |_=>.fail
def Gi {P:Program}:∀ {fs:List Field} {j:Nat} {ks:List Bool} {f:Nat} {k:Bool},Js P j fs=some ks->ks[f]?=some k->∃ fd,fs[f]?=some fd/\fd.offset=j+f/\(P.underlying fd.type=some .bool\/∃ ik,P.underlying fd.type=some (.int ik))
 |[],j,ks,f,k,h,hk=>by simp only[Js,Yd]at h;subst h;simp at hk
 | fd::fs,j,ks,f,k,h,hk=>by
   simp only[Js]at h;split at h
   ·rename_i hc;simp only[Zb,beq_iff_eq]at hc;split at h
    ·rename_i k0 ks0 e1 e2;cases h;cases f with
     | zero=>
       refine⟨fd,rfl,hc.2,?_⟩;unfold cmL at e1;split at e1
       ·rename_i ik e;exact .inr ⟨ik,e⟩
       ·rename_i e;exact .inl e
       ·cases e1
     | succ f=>
       simp at hk;obtain⟨fd',g1,g2,g3⟩:=Gi e2 hk;exact⟨fd',by simpa using g1,Uc,g3⟩
    ·cases h
   ·cases h
def bQ.at {γ:Nat->Nat->Option Hv}{G:Gh}{w:World}:∀ {as:List A} {vs:List Value} {f:Nat} {y:A},bQ γ G w as vs->as[f]?=some y->∃ v,vs[f]?=some v/\gq γ G w y v
 |[],_,f,y,_,h=>by simp at h
 | a::as,_,f,y,hx,h=>by
   obtain⟨v,vs',e,h1,h2⟩:=hx;subst e;cases f with
   |zero=>simp at h;subst h;exact⟨v,rfl,h1⟩
   |succ f=>simp at h;obtain⟨v',g1,g2⟩:=bQ.at h2 h;exact⟨v',by simpa using g1,g2⟩
section
variable {P: Program} {o: Oper} {cx: Cx} {G: Gh} {g: Gm} {a: Act} {w: World} {ls: List Loc} {ws: List W} {K: Act -> World -> Prop} {Q: Exit -> Act -> World -> Prop}
def av.iter (hS:av cx G g a w){bm r j:Nat}{h:Hv}(hh:g (.leaf r j)=some (.h h))(hc:h.c=.gone)(ho:G.ow bm=some (.leaf r j))(ob:Obj):
 av cx {G with ow:=fun b=>if b=bm\/b=w.heap.size then some .fz else G.ow b} g a (w.alloc ob):=by
 let G2:Gh:={G with ow:=fun b=>if b=bm\/b=w.heap.size then some .fz else G.ow b}
 have keep:∀ b t,G.ow b=some t->t≠ .leaf r j->G2.ow b=some t:=by
  intro b t ht hn;have h1:¬ (b=bm\/b=w.heap.size):=by
   rintro(rfl|rfl)
   ·rw[ho]at ht;cases ht;exact hn rfl
   ·exact absurd (hS.lt _ _ ht) (X4 _)
  show(if b=bm\/b=w.heap.size then some Tok.fz else G.ow b)=some t;rw[VK h1];exact ht
 have old:∀ b t,G.ow b=some t->(w.alloc ob).heap[b]?=w.heap[b]?:=fun b t ht=>heap_alloc_old w ob (hS.lt b t ht)
 have lf:∀ r' j' h' l,gl g r' j'=some h'->h'.c=.own l->Tok.leaf r' j'≠ .leaf r j:=by
  intro r' j' h' l e hl q;cases q;rw[ap,hh]at e;cases e;rw[hc]at hl;cases hl
 have st:Step g G w g G2 (w.alloc ob):=by
  refine⟨fun r1 j1 h1 e=>⟨h1,e,.inl ⟨rfl,rfl,fun l hl b hb=>?_⟩⟩,fun b hb=>⟨keep b _ hb (by simp),old b _ hb⟩,fun b hb=>⟨?_,old b _ hb⟩,fun _ _ h=>h⟩
  ·have:=hS.hok e;simp only[dO,hl]at this;exact old b _ (this.2.2 b hb).1
  ·exact keep b _ hb (by simp)
 have fro:∀ b,(b=bm\/b=w.heap.size)->b<cx.w0.heap.size->cx.fr b->False:=by
  rintro b (rfl|rfl) h1 h2
  ·rcases hS.frow _ h1 h2 with q|q<;>(rw[ho]at q;cases q)
  ·exact absurd (Ym h1 hS.frame.size) (X4 _)
 have hsz:w.heap.size<=(w.alloc ob).heap.size:=by show w.heap.size<=(w.heap.push ob).size;rw[Vb];omega
 refine⟨hS.defers,hS.tm,?_,?_,?_,hS.metas,hS.noloc,?_,?_,?_,hS.anc,hS.aloc,?_,hS.sep,hS.newb,?_⟩
 ·intro d x hx;obtain⟨h1,r1,e,h2⟩:=hS.reg d x hx;exact⟨h1,r1,e,cK.step hS st r1 _ h2⟩
 ·intro r1 k hk;obtain⟨b,off,cur,ty,f1,f2,f3,f4⟩:=hS.boxes r1 k hk;exact⟨b,off,cur,ty,f1,keep b _ f2 (by simp),by rw[old b _ f2];exact f3,f4⟩
 ·intro r1 j1 x hx;obtain⟨h1,k,box,e1,e2,e3,e4⟩:=hS.leaf r1 j1 x hx;refine⟨h1,k,box,e1,e2,e3,?_⟩;unfold dO at e4 ⊢;split at e4
  ·rename_i l hl;subst e1;have hne:=lf r1 j1 h1 l (ap.2 hx) hl;exact⟨bO.keep _ _ _ e4.1 (fun b hb=>old b _ (e4.2.2 b hb).1),e4.2.1,fun b hb=>⟨keep b _ (e4.2.2 b hb).1 hne,(e4.2.2 b hb).2.keep (old b _ (e4.2.2 b hb).1)⟩⟩
  ·obtain⟨S,q1,q2⟩:=e4;exact⟨S,bO.keep _ _ _ q1 (fun b hb=>old b _ (q2 b hb)),fun b hb=>keep b _ (q2 b hb) (by simp)⟩
  ·trivial
 ·intro b t ht;have ht:(if b=bm\/b=w.heap.size then some Tok.fz else G.ow b)=some t:=ht;have hs:(w.alloc ob).heap.size=w.heap.size+1:=by show(w.heap.push ob).size=_;rw[Vb]
  split at ht
  ·rename_i c;rcases c with rfl|rfl
   ·have:=hS.lt _ _ ho;omega
   ·omega
  ·have:=hS.lt b t ht;omega
 ·exact⟨hS.frame.os,hS.frame.tape,hS.frame.output,Nat.le_trans hS.frame.size hsz,fun b h1 h2=>by rw[heap_alloc_old w ob (Ym h1 hS.frame.size)];exact hS.frame.block b h1 h2⟩
 ·intro b h1 h2;show(if b=bm\/b=w.heap.size then some Tok.fz else G.ow b)=none\/(if b=bm\/b=w.heap.size then some Tok.fz else G.ow b)=some .ro;rw[VK (fun c=>fro b c h1 h2)];exact hS.frow b h1 h2
 ·intro r1 b off e;have q:=hS.afr r1 b off e;obtain⟨c0,c,ty,h1,h2,h3⟩:=id q;exact q.keep (heap_alloc_old w ob (Zz.1 h2).1)
 ·intro b hb;have hb:(if b=bm\/b=w.heap.size then some Tok.fz else G.ow b)=some .ro:=hb;split at hb
  ·cases hb
  ·exact hS.roX b hb
def zF {t:TypeId}{x:Operand}(ho:o.op=.range t x)(hS:av cx G g a w)(h:(sJ (yE P) cx.n o.dst t x).Runs g ls (.ws ws)) 
 (hk:∀ a' w',d5 cx (bh g ws) a' w'->K a' w'):o.wp P a w K Q:=by
 unfold sJ at h;split at h
 case h_2=>exact h.elim
 rename_i kb d hmp hd;split at h
 case isFalse=>exact h.elim
 rename_i hlt;obtain⟨x0,ls1,hx,h3⟩:=bu hS h;cases x0 with
 | mv r j ver=>
   obtain⟨hv,ls4,q1,q2,h4⟩:=bD h3;split at h4
   case h_2=>exact h4.elim
   rename_i kb' es hc;split at h4
   case isFalse=>exact h4.elim
   rename_i hb;simp only[Zb,beq_iff_eq]at hb;obtain⟨hb,rfl⟩:=hb;simp only[Rd.Runs,Out.ws.injEq]at h4;obtain⟨_,rfl⟩:=h4;obtain⟨h2,f1,f2,f3⟩:=hx;rw[q1]at f1;cases f1;have e:=f3 hb _ _ hc;have hok:=hS.hok q1;simp only[dO,hc,bO]at hok;obtain⟨⟨b,ents,clock,g1,g2,g3,g4,g5⟩,hnd,htok⟩:=hok;have hob:=(htok b (by rw[g5];simp)).1;have S1:=hS.gone q2 none;have hl1:(W.leaf r j ⟨hv.ver+1,hv.iv,none,.gone⟩).app g (.leaf r j)=some (.h ⟨hv.ver+1,hv.iv,none,.gone⟩):=by simp[W.app]
   have S2:=S1.iter hl1 rfl hob (.mapIter (some b) clock #[] clock);obtain⟨k',e',ht,_⟩:=qE (w:=w) hmp;refine cU (v:=.pointer (some ⟨w.heap.size,0,none⟩)) (w':=w.alloc (.mapIter (some b) clock #[] clock)) ?_ (hk _ _ ?_)
   ·unfold execOp;simp only[ho,e,g1];simp only[ZL,run_range_map w t k' e' b ents clock ht g2,ZZ];rfl
   ·simp only[bh];rw[hd];refine⟨_,S2.put hlt ?_⟩;simp only[cK,gq];have hbl:b<w.heap.size:=(Zz.1 g2).1;obtain⟨s1,s2,s3⟩:=(stamped_iff ents clock).1 g3;refine⟨w.heap.size,b,kb',rfl,by simp,by simp,clock,clock,clock, #[],ents,heap_alloc_new w _,by rw[heap_alloc_old w _ hbl];exact g2,g3,g4,s1,Zf _,Zf _,(fun x _ hx=>by simp at hx),?_,(fun k vs' h=>by cases h)⟩;have hlen:=(yy g4).2.2;unfold leftOf;have hf:=Array.size_filter_le (p:=fun e:MapEntry=> !(#[]:Array Nat).contains e.born) (xs:=ents);rw[ZF]at hlen;simp only[Zs,Yi];omega
 |_=>exact h3.elim
def zC {t:TypeId}{x:Operand}{f:Nat}(ho:o.op=.field t x f)(hS:av cx G g a w)(h:(sG (Lj P) cx.n o.dst t x f).Runs g ls (.ws ws)) 
 (hk:∀ a' w',d5 cx (bh g ws) a' w'->K a' w'):o.wp P a w K Q:=by
 unfold sG at h;split at h
 ·exact h.elim
 ·rename_i ks hcm;obtain⟨r,ls1,hx,h3⟩:=dh hS h;cases r with
  | agg as=>
    simp only at h3;split at h3
    ·rename_i y k e1 e2;simp only[cK]at hx;obtain⟨vs,ev,hx⟩:=hx;obtain⟨v,g1,g2⟩:=hx.at e1;unfold Lj at hcm;split at hcm
     ·rename_i fs hu;split at hcm
      ·obtain⟨fd,q1,q2,q3⟩:=Gi hcm e2;rw[ZX]at q1;refine aT hS h3 (v:=v) (by simp only[cK];exact g2) ?_ hk;have hag:(isAgg fd.type).run P w=.ok false w:=by
        rcases q3 with q3|⟨ik,q3⟩<;>simp[isAgg,run_underlying q3]
       unfold execOp;simp only[ho,ev,Instr.field,ZL,run_underlying hu,ZZ,q1];simp[asAgg,part,hag,q2,g1]
      ·cases hcm
     ·cases hcm
    ·exact h3.elim
  |one y=>exact h3.elim
  |tup rs=>exact h3.elim
def zB {x:Operand}(ho:o.op=.entry x)(hS:av cx G g a w)(h:(wm cx.n o.dst x).Runs g ls (.ws ws)) 
 (hk:∀ a' w',d5 cx (bh g ws) a' w'->K a' w'):o.wp P a w K Q:=by
 unfold wm at h;obtain⟨x0,ls1,hx,h⟩:=bu hS h;split at h
 case h_2=>exact h.elim
 rename_i es k vs;obtain⟨r,bm,kb,e1,e2,e3,since,c0,clock,seen,ents,i1,i2,i3,i4,i5,i6,i7,i8,i9,i10⟩:=hx;obtain⟨e,m1,seen',rfl,m2,rfl⟩:=i10 k vs rfl;have hrun:=run_entry_at (P:=P) w r bm since seen' ents c0 e i1 i2 m1 ((stamped_iff ents c0).1 i3).2.1;refine aT hS h (v:=.tuple #[e.key,e.val]) ?_ ?_ hk
 ·simp only[cK];refine⟨[e.key,e.val],rfl,?_⟩;simp only[hZ,cK];exact⟨_,_,rfl,m2,_,_,rfl,trivial,rfl⟩
 ·unfold execOp;simp only[ho,e1];simp only[ZL,hrun,ZZ];rfl
end
end Go.V
namespace Go.V
open Go.MapKept
open Go.ChangeMaps (setBlock)
def Ea:A->Bool
 | .it _ _=>false
 |_=>true
mutual
def s9:R->Bool
 | .one a=>Ea a
 | .agg as=>as.all Ea
 | .tup rs=>yF rs
def yF:List R->Bool
 |[]=>true
 |r::rs=>s9 r&&yF rs
end
def sn (it:Nat):VS->Bool
 |[]=>true
 | .reg d x::σ=>(Z5 d it||s9 x)&&sn it σ
 |_::σ=>sn it σ
def mB {it:Nat}:∀ {σ:VS},sn it σ=true->∀ d x,get σ (.reg d)=some (.r x)->d≠it->s9 x=true
 |[],_,d,x,h,_=>by simp[get]at h
 | .reg d' y::σ,hs,d,x,h,hd=>by
   simp only[sn,Zb,Yc]at hs;simp only[get,W.app]at h;split at h
   ·rename_i e;cases e;cases h;rcases hs.1 with q|q;exact absurd (Ys q) hd;exact q
   ·exact mB hs.2 d x h hd
 | .leaf _ _ _::σ,hs,d,x,h,hd=>by
   simp only[get,W.app]at h;rw[VK (by simp)]at h;exact mB (σ:=σ) hs d x h hd
 | .root _ _ _::σ,hs,d,x,h,hd=>by
   simp only[get,W.app]at h;exact mB (σ:=σ) hs d x h hd
section
variable {P: Program} {cx: Cx} {G: Gh} {g: Gm} {a: Act} {w: World}
def Eb {γ:Nat->Nat->Option Hv}{G1:Gh}(hl:G1.loc=G.loc)(hv:G1.val=G.val)(hr:∀ b,G.ow b=some .ro->G1.ow b=some .ro):∀ (y:A) (v:Value),Ea y=true->gq γ G w y v->gq γ G1 w y v:=by
 intro y v hn h;cases y with
 |it es vs=>cases hn
 |ro sz es=>obtain⟨S,h1,h2⟩:=h;exact⟨S,h1,fun b hb=>hr b (h2 b hb)⟩
 |rp rec j=>obtain⟨b,off,cur,ty,fz,S,e1,e2,e3,e4,e5,e6⟩:=h;exact⟨b,off,cur,ty,fz,S,e1,e2,hr b e3,e4,e5,fun c hc=>hr c (e6 c hc)⟩
 |pt r j=>obtain⟨b,off,e1,e2⟩:=h;exact⟨b,off,by rw[hl];exact e1,e2⟩
 | fn f caps=>
   obtain⟨ps,e,h⟩:=h;have key:∀ (caps:List BA) (ps:List Value),dH G w caps ps->dH G1 w caps ps:=by
    intro caps
    induction caps with
    |nil=>intro ps h;exact h
    | cons c cs ih=>
      intro ps h;obtain⟨v,vs',e,h1,h2⟩:=h;refine⟨v,vs',e,?_,ih vs' h2⟩;cases c with
      |pt r j=>obtain⟨b,off,e1,e2⟩:=h1;exact⟨b,off,by rw[hl];exact e1,e2⟩
      |rp rec j=>obtain⟨b,off,cur,ty,fz,S,e1,e2,e3,e4,e5,e6⟩:=h1;exact⟨b,off,cur,ty,fz,S,e1,e2,hr b e3,e4,e5,fun c hc=>hr c (e6 c hc)⟩
   exact⟨ps,e,key caps ps h⟩
 |v x=>exact h
 |nl=>exact h
 |un=>exact h
 |pn r j ver iv p=>unfold gq at h ⊢;rw[hv];exact h
 |vw r j ver lo n=>unfold gq at h ⊢;rw[hv];exact h
 |vn r j ver iv p lo n=>unfold gq at h ⊢;rw[hv];exact h
 |mv r j ver=>unfold gq at h ⊢;rw[hv];exact h
 |st r j ver iv k=>unfold gq at h ⊢;rw[hv];exact h
def AP {γ:Nat->Nat->Option Hv}{G1:Gh}(hl:G1.loc=G.loc)(hv:G1.val=G.val)(hr:∀ b,G.ow b=some .ro->G1.ow b=some .ro):∀ (ys:List A) (vs:List Value),ys.all Ea=true->bQ γ G w ys vs->bQ γ G1 w ys vs
 |[],vs,_,h=>h
 | y::ys,vs,hn,h=>by
   simp only[List.all_cons,Zb]at hn;obtain⟨v,vs',e,h1,h2⟩:=h;exact⟨v,vs',e,Eb hl hv hr y v hn.1 h1,AP hl hv hr ys vs' hn.2 h2⟩
mutual
def Hq {γ:Nat->Nat->Option Hv}{G1:Gh}(hl:G1.loc=G.loc)(hv:G1.val=G.val)(hr:∀ b,G.ow b=some .ro->G1.ow b=some .ro):∀ (y:R) (v:Value),s9 y=true->cK γ G w y v->cK γ G1 w y v
 | .one y,v,hn,h=>by simp only[cK,s9]at*;exact Eb hl hv hr y v hn h
 | .agg ys,v,hn,h=>by simp only[cK,s9]at*;obtain⟨vs,e,h⟩:=h;exact⟨vs,e,AP hl hv hr ys vs hn h⟩
 | .tup rs,v,hn,h=>by simp only[cK,s9]at*;obtain⟨vs,e,h⟩:=h;exact⟨vs,e,Ec hl hv hr rs vs hn h⟩
def Ec {γ:Nat->Nat->Option Hv}{G1:Gh}(hl:G1.loc=G.loc)(hv:G1.val=G.val)(hr:∀ b,G.ow b=some .ro->G1.ow b=some .ro):∀ (ys:List R) (vs:List Value),yF ys=true->hZ γ G w ys vs->hZ γ G1 w ys vs
 |[],vs,_,h=>by simpa only[hZ]using h
 | y::ys,vs,hn,h=>by
   simp only[hZ,yF,Zb]at*;obtain⟨v,vs',e,h1,h2⟩:=h;exact⟨v,vs',e,Hq hl hv hr y v hn.1 h1,Ec hl hv hr ys vs' hn.2 h2⟩
end
def av.drop (hS:av cx G g a w){g1:Gm}{it r:Nat}(hg:∀ l,g1 l=if l=.reg it then none else g l)(hn:∀ d x,g (.reg d)=some (.r x)->d≠it->s9 x=true)(hr:G.ow r=some .fz):
 av cx {G with ow:=fun b=>if b=r then none else G.ow b} g1 a w:=by
 have keep:∀ b t,G.ow b=some t->t≠ .fz->(if b=r then none else G.ow b)=some t:=by
  intro b t ht hne;rw[VK (by rintro rfl;rw[hr]at ht;cases ht;exact hne rfl)];exact ht
 have keep':∀ b t,(if b=r then none else G.ow b)=some t->G.ow b=some t:=by
  intro b t ht;split at ht
  ·cases ht
  ·exact ht
 have hm:∀ r,g1 (.meta_ r)=g (.meta_ r):=fun r=>by rw[hg,VK (by simp)]
 have hl:∀ r j,g1 (.leaf r j)=g (.leaf r j):=fun r j=>by rw[hg,VK (by simp)]
 have hgl:gl g1=gl g:=by funext r j;simp[gl,hl]
 refine⟨hS.defers,hS.tm,?_,?_,?_,?_,?_,?_,hS.frame,?_,?_,?_,hS.afr,?_,hS.newb,?_⟩
 ·intro d x hx;rw[hg]at hx;split at hx
  ·cases hx
  ·rename_i hne;obtain⟨h1,r1,e,h2⟩:=hS.reg d x hx;subst e;rw[hgl];exact⟨h1,r1,rfl,Hq (G:=G) (G1:={G with ow:=fun b=>if b=r then none else G.ow b}) rfl rfl (fun b hb=>keep b _ hb (by simp)) r1 _ (hn d r1 hx (by rintro rfl;exact hne rfl)) h2⟩
 ·intro r1 k hk;rw[hm]at hk;obtain⟨b,off,cur,ty,f1,f2,f3,f4⟩:=hS.boxes r1 k hk;exact⟨b,off,cur,ty,f1,keep b _ f2 (by simp),f3,f4⟩
 ·intro r1 j1 x hx;rw[hl]at hx;obtain⟨h1,k,box,e1,e2,e3,e4⟩:=hS.leaf r1 j1 x hx;refine⟨h1,k,box,e1,by rw[hm];exact e2,e3,?_⟩;unfold dO at e4 ⊢;split at e4
  ·exact⟨e4.1,e4.2.1,fun b hb=>⟨keep b _ (e4.2.2 b hb).1 (by simp),(e4.2.2 b hb).2⟩⟩
  ·obtain⟨S,q1,q2⟩:=e4;exact⟨S,q1,fun b hb=>keep b _ (q2 b hb) (by simp)⟩
  ·trivial
 ·intro r1 x hx;rw[hm]at hx;exact hS.metas r1 x hx
 ·intro r1 b hb;obtain⟨k,hk⟩:=hS.noloc r1 b hb;exact⟨k,by rw[hm];exact hk⟩
 ·intro b t ht;exact hS.lt b t (keep' b t ht)
 ·intro b h1 h2;show(if b=r then none else G.ow b)=none\/(if b=r then none else G.ow b)=some .ro;by_cases c:b=r
  ·rw[VJ c];exact .inl rfl
  ·rw[VK c];exact hS.frow b h1 h2
 ·intro r1 j1 h e;rw[hgl]at e;exact hS.anc r1 j1 h e
 ·intro r1 x e;rw[hm];exact hS.aloc r1 x e
 ·intro r1 r2 k1 k2 b o1 o2 hne h1 h2 q1 q2;rw[hm]at h1 h2;exact hS.sep r1 r2 k1 k2 b o1 o2 hne h1 h2 q1 q2
 ·intro b hb;exact hS.roX b (keep' b _ hb)
def av.other (hS:av cx G g a w){r:Nat}(hr:G.ow r=none)(hfr:¬ (r<cx.w0.heap.size/\cx.fr r))(hnc:∀ cur ty fz,w.heap[r]?≠some (.cells cur ty fz)){w':World} 
 (hos:w'.os=w.os) (htape:w'.tape=w.tape) (hout:w'.output=w.output) (hsz:w'.heap.size=w.heap.size) (hh:∀ b,b≠r->w'.heap[b]?=w.heap[b]?):av cx G g a w':=by
 have ne:∀ b t,G.ow b=some t->b≠r:=by rintro b t ht rfl;rw[hr]at ht;cases ht
 have old:∀ b t,G.ow b=some t->w'.heap[b]?=w.heap[b]?:=fun b t ht=>hh b (ne b t ht)
 have st:Step g G w g G w':=by
  refine⟨fun r1 j1 h1 e=>⟨h1,e,.inl ⟨rfl,rfl,fun l hl b hb=>?_⟩⟩,fun b hb=>⟨hb,old b _ hb⟩,fun b hb=>⟨hb,old b _ hb⟩,fun _ _ h=>h⟩;have:=hS.hok e;simp only[dO,hl]at this;exact old b _ (this.2.2 b hb).1
 refine⟨hS.defers,hS.tm,?_,?_,?_,hS.metas,hS.noloc,?_,?_,hS.frow,hS.anc,hS.aloc,?_,hS.sep,hS.newb,hS.roX⟩
 ·intro d x hx;obtain⟨h1,r1,e,h2⟩:=hS.reg d x hx;exact⟨h1,r1,e,cK.step hS st r1 _ h2⟩
 ·intro r1 k hk;obtain⟨b,off,cur,ty,f1,f2,f3,f4⟩:=hS.boxes r1 k hk;exact⟨b,off,cur,ty,f1,f2,by rw[old b _ f2];exact f3,f4⟩
 ·intro r1 j1 x hx;obtain⟨h1,k,box,e1,e2,e3,e4⟩:=hS.leaf r1 j1 x hx;refine⟨h1,k,box,e1,e2,e3,?_⟩;unfold dO at e4 ⊢;split at e4
  ·exact⟨bO.keep _ _ _ e4.1 (fun b hb=>old b _ (e4.2.2 b hb).1),e4.2.1,fun b hb=>⟨(e4.2.2 b hb).1,(e4.2.2 b hb).2.keep (old b _ (e4.2.2 b hb).1)⟩⟩
  ·obtain⟨S,q1,q2⟩:=e4;exact⟨S,bO.keep _ _ _ q1 (fun b hb=>old b _ (q2 b hb)),q2⟩
  ·trivial
 ·intro b t ht;rw[hsz];exact hS.lt b t ht
 ·exact⟨hos.trans hS.frame.os,htape.trans hS.frame.tape,hout.trans hS.frame.output,by rw[hsz];exact hS.frame.size,fun b h1 h2=>by rw[hh b (by rintro rfl;exact hfr ⟨h1,h2⟩)];exact hS.frame.block b h1 h2⟩
 ·intro r1 b off e;have q:=hS.afr r1 b off e;obtain⟨c0,c,ty,h1,h2,h3⟩:=id q;exact q.keep (hh b (by rintro rfl;exact hnc _ _ _ h2))
def av.hold (hS:av cx G g a w){r:Nat}(hr:G.ow r=none)(hlt:r<w.heap.size)(hfr:¬ (r<cx.w0.heap.size/\cx.fr r)):
 av cx {G with ow:=fun b=>if b=r then some .fz else G.ow b} g a w:=by
 have keep:∀ b t,G.ow b=some t->(if b=r then some Tok.fz else G.ow b)=some t:=by
  intro b t ht;rw[VK (by rintro rfl;rw[hr]at ht;cases ht)];exact ht
 have st:Step g G w g {G with ow:=fun b=>if b=r then some .fz else G.ow b} w:=
  ⟨fun r1 j1 h1 e=>⟨h1,e,.inl ⟨rfl,rfl,fun _ _ _ _=>rfl⟩⟩,fun b hb=>⟨keep b _ hb,rfl⟩,fun b hb=>⟨keep b _ hb,rfl⟩,fun _ _ h=>h⟩
 refine⟨hS.defers,hS.tm,?_,?_,?_,hS.metas,hS.noloc,?_,hS.frame,?_,hS.anc,hS.aloc,hS.afr,hS.sep,hS.newb,?_⟩
 ·intro d x hx;obtain⟨h1,r1,e,h2⟩:=hS.reg d x hx;exact⟨h1,r1,e,cK.step hS st r1 _ h2⟩
 ·intro r1 k hk;obtain⟨b,off,cur,ty,f1,f2,f3,f4⟩:=hS.boxes r1 k hk;exact⟨b,off,cur,ty,f1,keep b _ f2,f3,f4⟩
 ·intro r1 j1 x hx;obtain⟨h1,k,box,e1,e2,e3,e4⟩:=hS.leaf r1 j1 x hx;refine⟨h1,k,box,e1,e2,e3,?_⟩;unfold dO at e4 ⊢;split at e4
  ·exact⟨e4.1,e4.2.1,fun b hb=>⟨keep b _ (e4.2.2 b hb).1,(e4.2.2 b hb).2⟩⟩
  ·obtain⟨S,q1,q2⟩:=e4;exact⟨S,q1,fun b hb=>keep b _ (q2 b hb)⟩
  ·trivial
 ·intro b t ht;have ht:(if b=r then some Tok.fz else G.ow b)=some t:=ht;split at ht
  ·rename_i c;rw[c];exact hlt
  ·exact hS.lt b t ht
 ·intro b h1 h2;show(if b=r then some Tok.fz else G.ow b)=none\/(if b=r then some Tok.fz else G.ow b)=some .ro;rw[VK (by rintro rfl;exact hfr ⟨h1,h2⟩)];exact hS.frow b h1 h2
 ·intro b hb;have hb:(if b=r then some Tok.fz else G.ow b)=some .ro:=hb;split at hb
  ·cases hb
  ·exact hS.roX b hb
def av.know (hS:av cx G g a w){d:Nat}{x:R}(hd:d<cx.n)(hx:cK (gl g) G w x (a.tmps.getD d undef)):av cx G ((W.reg d x).app g) a w:=by
 have h:=hS.put hd hx;have e:a.put (some d) (a.tmps.getD d undef)=a:=by
  have ht:=hS.tm;cases a with
  | mk tmps defers=>
    unfold ZT;simp only at ht ⊢
    congr 1
    refine Array.ext (by simp) (fun i h1 h2=>?_);rw[Array.getElem_setIfInBounds];split
    ·rename_i c;subst c;rw[Array.getD_eq_getD_getElem?,Array.getElem?_eq_getElem h2];rfl
    ·rfl
 rw[e]at h;exact h
def Cz {σ:VS}{it d1 d2:Nat}{es:af}{vs:List Int}{o1 o2:Oper}{ops:Array Oper}{Q:Exit->Act->World->Prop}(hS:d5 cx (get σ) a w) 
 (hit:get σ (.reg it)=some (.r (.one (.it es vs)))) (hs:sn it σ=true) (h1:d1<cx.n) (h2:d2<cx.n) (n1:d1≠it) (n2:d2≠it)
 (p1:o1.op=.next (.tmp it) false) (p2:o1.dst=some d1) (p3:o1.guard=none) (p4:o2.op=.extract (.tmp d1) 0) (p5:o2.dst=some d2) (p6:o2.guard=none)
 (hT:∀ k,k∈mg es->vs.length<es.length->∀ a' w',d5 cx (get (.reg d2 (.k true):: .reg d1 (.one .un):: .reg it (.one (.it es (k::vs)))::σ)) a' w'->Q .normal a' w')
 (hF:(∀ k∈mg es,k∈vs)->∀ a' w',d5 cx (get (.reg d2 (.k false):: .reg d1 (.one .un)::σ)) a' w'->Q .normal a' w'):
 wpList P ops Q [o1,o2] a w:=by
 obtain⟨G,hS⟩:=hS;obtain⟨hn,y,e0,hx⟩:=hS.reg it _ hit;cases e0;simp only[cK]at hx;obtain⟨r,bm,kb,e1,e2,e3,since,c0,clock,seen,ents,i1,i2,i3,i4,i5,i6,i7,i8,i9,i10⟩:=hx;have hev:a.eval (.tmp it)=.pointer (some ⟨r,0,none⟩):=e1;have w1':YI o1 (yielded ops a.tmps)=true:=by simp[YI,p3]
 have w2':∀ a':Act,YI o2 (yielded ops a'.tmps)=true:=fun a'=>by simp[YI,p6]
 have hrb:r≠bm:=by rintro rfl;rw[i1]at i2;cases i2
 have hrl:r<w.heap.size:=(Zz.1 i1).1;have hfr:¬ (r<cx.w0.heap.size/\cx.fr r):=by
  rintro⟨q1,q2⟩;rcases hS.frow r q1 q2 with q|q<;>(rw[e2]at q;cases q)
 have step2:∀ (b:Bool) (vv:Array Value) (G':Gh) (g':Gm) (w':World) (a1:Act),av cx G' g' a1 w'->(∀ a' w'',d5 cx ((W.reg d2 (.k b)).app ((W.reg d1 (.one .un)).app g')) a' w''->Q .normal a' w'')->vv[0]?=some (.bool b)->
  wpList P ops Q [o2] (a1.put (some d1) (.tuple vv)) w':=by
  intro b vv G' g' w' a1 hS' hQ hv;simp only[wpList];rw[VJ (w2' _)];refine .inl ?_;have S1:=hS'.put (x:=.one .un) (v:=.tuple vv) h1 (by simp only[cK,gq]);have ht:(a1.put (some d1) (.tuple vv)).eval (.tmp d1)=.tuple vv:=by
   show(a1.put (some d1) (.tuple vv)).tmps.getD d1 undef=_;rw[Au (by rw[hS'.tm];exact h1),VJ rfl]
  refine cU (v:=.bool b) (w':=w') ?_ ?_
  ·unfold execOp;simp only[p4,ht,Instr.extract,hv];rfl
  ·rw[p5];exact hQ _ _ ⟨G',S1.put h2 (by simp only[cK,gq])⟩
 simp only[wpList];rw[VJ w1'];refine .inl ?_;rcases run_next_at (P:=P) w o1.type r bm since c0 seen ents clock i1 i2 i5 i6 with⟨q1,q2⟩|⟨e,m1,w1,m2,q2⟩
 ·refine cU (v:=.tuple #[.bool false]) (w':=w) ?_ ?_
  ·unfold execOp;simp only[p1,hev];simp only[ZL,q2,ZZ];rfl
  ·rw[p2];refine step2 false _ G (get σ) w a hS (fun a' w'' hs'=>hF (fun k hk=>?_) a' w'' hs') rfl;obtain⟨e,f1,f2⟩:=(yy i4).2.1 k hk;obtain⟨k',f3,f4⟩:=i8 e f1 (all_seen ents seen q1 e f1);rw[f2]at f4;cases f4;exact f3
 ·obtain⟨me,mc⟩:=mem_left m1;obtain⟨k,k1,k2⟩:=(yy i4).1 e me;have hlt:vs.length<es.length:=by
   have:0<(leftOf ents seen).size:=by
    rw[<-ZF];exact List.length_pos_of_mem m1
   omega
  have hw1:w1.os=w.os/\w1.tape=w.tape/\w1.output=w.output/\w1.heap=w.heap:=by
   rcases m2 with rfl|rfl;exact⟨rfl,rfl,rfl,rfl⟩;exact⟨rfl,rfl,rfl,rfl⟩
  refine cU (v:=.tuple #[.bool true,e.key,e.val]) (w':=setBlock w1 r (.mapIter (some bm) since (seen.push e.born) clock)) ?_ ?_
  ·unfold execOp;simp only[p1,hev];simp only[ZL,q2,ZZ];rfl
  ·rw[p2];have hset:=heap_set (w:=w) (o':=.mapIter (some bm) since (seen.push e.born) clock) i1;have hheap:(setBlock w1 r (.mapIter (some bm) since (seen.push e.born) clock)).heap=w.heap.setIfInBounds r (.mapIter (some bm) since (seen.push e.born) clock):=by
    show w1.heap.setIfInBounds _ _=_;rw[hw1.2.2.2]
   have S1:=hS.drop (g1:=fun l=>if l=.reg it then none else get σ l) (it:=it) (fun l=>rfl) (fun d x h hd=>mB hs d x h hd) e2;have S2:=S1.other (r:=r) (w':=setBlock w1 r (.mapIter (some bm) since (seen.push e.born) clock)) (by simp) hfr (fun cur ty fz c=>by rw[i1]at c;cases c) hw1.1 hw1.2.1 hw1.2.2.1 (by rw[hheap];simp) (fun b hb=>by rw[hheap];exact hset.2 b hb);have S3:=S2.hold (r:=r) (by simp) (by rw[hheap];simpa using hrl) hfr;have S4:=S3.know (d:=it) (x:=.one (.it es (k::vs))) hn (by
    simp only[cK];rw[e1];refine⟨r,bm,kb,rfl,by simp,?_,since,clock,clock,seen.push e.born,ents,by rw[hheap];exact hset.1,by rw[hheap,hset.2 bm (Ne.symm hrb)];exact i2,i3,i4,i5,i7,i7,?_,?_,?_⟩
    ·simp only[VK (Ne.symm hrb)];exact e3
    ·intro x hx hc;rw[contains_push,Yc]at hc;rcases hc with hc|hc
     ·obtain⟨k',f1,f2⟩:=i8 x hx hc;exact⟨k',X6 _ f1,f2⟩
     ·have hb:x.born=e.born:=by simpa using hc
      have:x=e:=by
       have nd:=((stamped_iff ents clock).1 i3).2.1;have f1:=find_born e ents.toList nd me;have f2:=find_born x ents.toList nd hx;rw[hb,f1]at f2;cases f2;rfl
      subst this;exact⟨k,by simp,k2⟩
    ·have sh:=left_shrinks ents seen e m1;simp only[Zr];omega
    ·intro k' vs' hkv;cases hkv;exact⟨e,me,seen,rfl,k2,rfl⟩)
   have hg:(W.reg it (.one (.it es (k::vs)))).app (fun l=>if l=.reg it then none else get σ l)=get (.reg it (.one (.it es (k::vs)))::σ):=by
    funext l
    simp only[get,W.app];split;rfl;rfl
   rw[hg]at S4;exact step2 true _ _ _ _ a S4 (fun a' w'' hs'=>hT k k1 hlt a' w'' hs') rfl
end
end Go.V
namespace Go.V
def EV (l:L)(p:List (Nat×Nat)):Value:=
 match bP l p with
 | some (rec,o)=>match rec[o]? with
   |some (.v x)=>x
   |_=>.bool false
 |none=>.bool false
def intOf:Value->Int
 | .int _ n=>n
 |_=>0
def MY:Value->Bool
 | .bool b=>b
 |_=>false
def strOf:Value->ByteArray
 | .string s=>s
 |_=>.empty
def Ke:L->Int
 | .v (.int _ n)=>n
 |_=>0
def lfB:L->Bool
 | .v (.bool b)=>b
 |_=>false
def lfT:L->ByteArray
 | .v (.string b)=>b
 |_=>.empty
def LP:L->af
 | .s _ es=>es
 |_=>[]
structure EJ where
 pr:(Unit->Prop)->Prop
 ar:BinOp->IntKind->Int->Int->Int
 sh:BinOp->IntKind->Int->Int->Int
 cmp:BinOp->Int->Int->Bool
 wr:IntKind->Int->Int
 bq:BinOp->Bool->Bool->Bool
 bn:Bool->Bool
 sel:Bool->Bool->Bool->Bool
 mm:Bool->Int->Int->Int
 ln:af->Nat
 zi:Nat->Int
 nn:Int->Nat
 ad:Nat->Int->Nat
 df:Int->Int->Nat
 cat:af->af->af
 sub:af->Nat->Nat->af
 rep:Int->ax->af
 gi:af->Int->Nat->Int
 gb:af->Int->Nat->Bool
 gt:af->Int->Nat->ByteArray
 gs:af->Int->Nat->af
 pi:L->List (Nat×Nat)->Int
 pb:L->List (Nat×Nat)->Bool
 pt:L->List (Nat×Nat)->ByteArray
 ps:L->List (Nat×Nat)->af
 up:L->List (Nat×Nat)->ax->af
 mgb:af->Int->Bool
 mgi:af->Int->Int
 mu:af->Int->L->af
def bK (op:BinOp)(k:IntKind)(a b:Int):Int:=
 match op with
 | .add=>k.wrap (a+b)
 | .sub=>k.wrap (a-b)
 | .mul=>k.wrap (a*b)
 | .quo=>k.wrap (a.tdiv b)
 | .rem=>a.tmod b
 | .and=>k.wrap (ZR k.bits a&&&ZR k.bits b).toNat
 | .or=>k.wrap (ZR k.bits a|||ZR k.bits b).toNat
 | .xor=>k.wrap (ZR k.bits a^^^ZR k.bits b).toNat
 | .andNot=>k.wrap (ZR k.bits a&&& ~~~ ZR k.bits b).toNat
 |_=>0
def IW (op:BinOp)(k:IntKind)(a b:Int):Int:=
 match op with
 | .shl=>k.wrap (a*2^(min b.toNat k.bits))
 |_=>a.fdiv (2^(min b.toNat k.bits))
def prI (f:Unit->Prop):Prop:=f ()
def Mu (k:IntKind)(a:Int):Int:=k.wrap a
def mmI (isMax:Bool)(a b:Int):Int:=if isMax then(if b>a then b else a)else(if b<a then b else a)
def lnI (es:af):Nat:=es.length
def ziI (n:Nat):Int:=n
def nnI (i:Int):Nat:=i.toNat
def adI (lo:Nat)(i:Int):Nat:=lo+i.toNat
def FD (h l:Int):Nat:=h.toNat-l.toNat
def Q2 (a b:af):af:=a++b
def oU (es:af)(lo m:Nat):af:=(es.drop lo).take m
def CO (n:Int)(r:ax):af:=Zk n.toNat r
def ag (es:af)(i:Int)(j:Nat):Int:=Ke ((es.getD i.toNat []).getD j .g)
def pA (es:af)(i:Int)(j:Nat):Bool:=lfB ((es.getD i.toNat []).getD j .g)
def LF (es:af)(i:Int)(j:Nat):ByteArray:=lfT ((es.getD i.toNat []).getD j .g)
def aO (es:af)(i:Int)(j:Nat):af:=LP ((es.getD i.toNat []).getD j .g)
def yM (l:L)(p:List (Nat×Nat)):Int:=intOf (EV l p)
def QC (l:L)(p:List (Nat×Nat)):Bool:=MY (EV l p)
def QD (l:L)(p:List (Nat×Nat)):ByteArray:=strOf (EV l p)
def am:EJ:=⟨prI,bK,IW,cT,Mu,zM,FY,yY,mmI,lnI,ziI,nnI,adI,FD,Q2,oU,CO,ag,pA,LF,aO,yM,QC,QD,mT,oJ,mgbI,iF,lO⟩
structure wE where
 tyL:List (Nat×TI)
 elL:List (Nat×(TypeId×TI×Nat))
 fdL:List (Nat×List (Option Nat))
 bdL:List (Nat×List (Nat×Nat))
 itL:List (Nat×IntKind)
 boL:List (Nat×Unit)
 slL:List (Nat×Unit)
 fnL:List (Nat×Unit)
 ptL:List (Nat×TI)
 pnL:List (Nat×Unit)
 mpL:List (Nat×Bool)
 cmL:List (Nat×List Bool)
 alL:List (Nat×Unit):=[]
def lk {α:Type}:List (Nat×α)->Nat->Option α
 |[],_=>none
 | (k,x)::r,t=>match Z5 k t with
  |true=>some x
  |false=>lk r t
def lkF:Option (List (Option Nat))->Nat->Option Nat
 |none,_=>none
 |some l,f=>l.getD f none
def bG (P:Program)(T:wE):Prop:=
 (T.tyL.map fun p=>kz P p.1)=(T.tyL.map fun p=>some p.2)/\
 (T.elL.map fun p=>wQ P p.1)=(T.elL.map fun p=>some p.2)/\
 (T.fdL.map fun p=>(Ze p.2.length).map (Nu P p.1))=(T.fdL.map fun p=>p.2)/\
 (T.bdL.map fun p=>bdI P p.1)=(T.bdL.map fun p=>some p.2)/\
 (T.itL.map fun p=>GZ P p.1)=(T.itL.map fun p=>some p.2)/\
 (T.boL.map fun p=>uh P p.1)=(T.boL.map fun _=>true)/\
 (T.slL.map fun p=>nI P p.1)=(T.slL.map fun _=>true)/\
 (T.fnL.map fun p=>da P p.1)=(T.fnL.map fun _=>true)/\
 (T.ptL.map fun p=>Eg P p.1)=(T.ptL.map fun p=>some p.2)/\
 (T.pnL.map fun p=>(kz P p.1).isNone)=(T.pnL.map fun _=>true)/\
 (T.mpL.map fun p=>yE P p.1)=(T.mpL.map fun p=>some p.2)/\
 (T.cmL.map fun p=>Lj P p.1)=(T.cmL.map fun p=>some p.2)
def iD {α:Type}:∀ {l:List (Nat×α)} {t:Nat} {x:α},lk l t=some x->(t,x)∈l
 |[],_,_,h=>by cases h
 | (k,y)::r,t,x,h=>by
  simp only[lk]at h;split at h
  ·rename_i e;cases h;cases Ys e;simp
  ·exact X6 _ (iD h)
def fw {α β:Type}{f g:α->β}:∀ {l:List α},l.map f=l.map g->∀ x∈l,f x=g x
 |[],_,x,hx=>by cases hx
 | y::l,h,x,hx=>by
   simp only[ZU,Vd]at h;rcases Zj.1 hx with rfl|hx;exact h.1;exact fw h.2 x hx
section
variable {P: Program} {T: wE}
def bG.ty (h:bG P T)(t:Nat):lk T.tyL t=none\/∃ x,lk T.tyL t=some x/\kz P t=some x:=by
 cases e:lk T.tyL t with
 |none=>exact .inl rfl
 |some x=>exact .inr ⟨x,rfl,fw h.1 _ (iD e)⟩
def bG.el (h:bG P T)(t:Nat):lk T.elL t=none\/∃ x,lk T.elL t=some x/\wQ P t=some x:=by
 cases e:lk T.elL t with
 |none=>exact .inl rfl
 |some x=>exact .inr ⟨x,rfl,fw h.2.1 _ (iD e)⟩
def bG.fd (h:bG P T)(s f:Nat):lkF (lk T.fdL s) f=none\/∃ x,lkF (lk T.fdL s) f=some x/\Nu P s f=some x:=by
 cases e:lk T.fdL s with
 |none=>exact .inl rfl
 | some l=>
   have h1:=fw h.2.2.1 _ (iD e);simp only at h1;cases e2:l.getD f none with
   |none=>exact .inl e2
   | some x=>
     refine .inr ⟨x,e2,?_⟩;have hlt:f<l.length:=by
      rcases Z7 f l.length with c|c;exact c
      ·rw[Zp,Z8 c]at e2;cases e2
     have h2:((Ze l.length).map (Nu P s))[f]?=l[f]?:=by rw[h1]
     rw[ZC,List.getElem?_range hlt,Zt hlt]at h2;rw[Zp,Zt hlt]at e2;simp at h2 e2;rw[h2,e2]
def bG.bd (h:bG P T)(t:Nat):lk T.bdL t=none\/∃ x,lk T.bdL t=some x/\bdI P t=some x:=by
 cases e:lk T.bdL t with
 |none=>exact .inl rfl
 |some x=>exact .inr ⟨x,rfl,fw h.2.2.2.1 _ (iD e)⟩
def bG.it (h:bG P T)(t:Nat):lk T.itL t=none\/∃ x,lk T.itL t=some x/\GZ P t=some x:=by
 cases e:lk T.itL t with
 |none=>exact .inl rfl
 |some x=>exact .inr ⟨x,rfl,fw h.2.2.2.2.1 _ (iD e)⟩
def bG.bo (h:bG P T)(t:Nat):lk T.boL t=none\/∃ x,lk T.boL t=some x/\uh P t=true:=by
 cases e:lk T.boL t with
 |none=>exact .inl rfl
 |some x=>exact .inr ⟨x,rfl,fw h.2.2.2.2.2.1 _ (iD e)⟩
def bG.sl (h:bG P T)(t:Nat):lk T.slL t=none\/∃ x,lk T.slL t=some x/\nI P t=true:=by
 cases e:lk T.slL t with
 |none=>exact .inl rfl
 |some x=>exact .inr ⟨x,rfl,fw h.2.2.2.2.2.2.1 _ (iD e)⟩
def bG.fn (h:bG P T)(t:Nat):lk T.fnL t=none\/∃ x,lk T.fnL t=some x/\da P t=true:=by
 cases e:lk T.fnL t with
 |none=>exact .inl rfl
 |some x=>exact .inr ⟨x,rfl,fw h.2.2.2.2.2.2.2.1 _ (iD e)⟩
def bG.pt (h:bG P T)(t:Nat):lk T.ptL t=none\/∃ x,lk T.ptL t=some x/\Eg P t=some x:=by
 cases e:lk T.ptL t with
 |none=>exact .inl rfl
 |some x=>exact .inr ⟨x,rfl,fw h.2.2.2.2.2.2.2.2.1 _ (iD e)⟩
def bG.pn (h:bG P T)(t:Nat):lk T.pnL t=none\/∃ x,lk T.pnL t=some x/\kz P t=none:=by
 cases e:lk T.pnL t with
 |none=>exact .inl rfl
 |some x=>exact .inr ⟨x,rfl,Option.isNone_iff_eq_none.1 (fw h.2.2.2.2.2.2.2.2.2.1 _ (iD e))⟩
def bG.mp (h:bG P T)(t:Nat):lk T.mpL t=none\/∃ x,lk T.mpL t=some x/\yE P t=some x:=by
 cases e:lk T.mpL t with
 |none=>exact .inl rfl
 |some x=>exact .inr ⟨x,rfl,fw h.2.2.2.2.2.2.2.2.2.2.1 _ (iD e)⟩
def bG.cm (h:bG P T)(t:Nat):lk T.cmL t=none\/∃ x,lk T.cmL t=some x/\Lj P t=some x:=by
 cases e:lk T.cmL t with
 |none=>exact .inl rfl
 |some x=>exact .inr ⟨x,rfl,fw h.2.2.2.2.2.2.2.2.2.2.2 _ (iD e)⟩
end
abbrev CT :=FuncId->List DV->Option ((Unit->Prop)×List DV)
abbrev MT :=FuncId->Option MK
structure Dk where
 rd:CT
 mu:MT
 pt:FuncId->Option PK
 nw:FuncId->Option NK
 tk:FuncId->Option MO
section
variable (T: wE) (O: EJ) (ct: Dk) (n: Nat)
def ky (O:EJ)(es:af)(i:Int):Nat->ax->ax
 |_,[]=>[]
 |j,.v (.int k _)::zs=>.v (.int k (O.gi es i j))::ky O es i (j+1) zs
 |j,.v (.bool _)::zs=>.v (.bool (O.gb es i j))::ky O es i (j+1) zs
 |j,.v (.string _)::zs=>.v (.string (O.gt es i j))::ky O es i (j+1) zs
 |j,.s sz _::zs=>.s sz (O.gs es i j)::ky O es i (j+1) zs
 |j,_::zs=>.g::ky O es i (j+1) zs
def ka (O:EJ)(l:L)(p:List (Nat×Nat)):Nat->ax->ax
 |_,[]=>[]
 |j,.v (.int k _)::zs=>.v (.int k (O.pi l (uc p j)))::ka O l p (j+1) zs
 |j,.v (.bool _)::zs=>.v (.bool (O.pb l (uc p j)))::ka O l p (j+1) zs
 |j,.v (.string _)::zs=>.v (.string (O.pt l (uc p j)))::ka O l p (j+1) zs
 |j,.s sz _::zs=>.s sz (O.ps l (uc p j))::ka O l p (j+1) zs
 |j,_::zs=>.g::ka O l p (j+1) zs
def Hd (r j:Nat)(h:Hv):A:=
 match h.c with
 | .own (.v x)=>.v x
 | .own (.s _ es)=>.vw r j h.ver 0 (O.ln es)
 | .own .g=>.un
 | .own (.m _ _)=>.mv r j h.ver
 | .ro (.v x)=>.v x
 | .ro (.s sz es)=>.ro sz es
 | .ro .g=>.un
 | .ro (.m _ _)=>.un
 | .gone=>.un
def iV {α:Type}(r:Nat):Nat->Nat->(List A->Rd α)->Rd α
 |_,0,k=>k []
 |j,m+1,k=>gn r j fun h=>iV r (j+1) m fun as=>k (Hd O r j h::as)
def kX (r j ver iv:Nat)(p:List (Nat×Nat)):Nat->ax->List A
 |_,[]=>[]
 |o,.v x::ls=>.v x::kX r j ver iv p (o+1) ls
 |o,.s _ es::ls=>.vn r j ver iv (uc p o) 0 (O.ln es)::kX r j ver iv p (o+1) ls
 |o,.g::ls=>.un::kX r j ver iv p (o+1) ls
 |o,.m _ _::ls=>.un::kX r j ver iv p (o+1) ls
def Df (d:Option Tmp)(t:TypeId)(x:Operand):Rd Out:=
 match lk T.tyL t with
 |none=>.fail
 | some ti=>fF x fun
   | .pt r j=>iV O r j ti.zero.length fun as=>LV ti as (bF n d)
   | .pn r j ver iv p=>gn r j fun h=>
     if vm h ver iv p then match h.c with
      | .own l=>.req (O.pr fun _=>∃ rec o,bP l p=some (rec,o)/\o+ti.zero.length<=rec.length/\(rec.drop o).take ti.zero.length=ka O l p 0 ti.zero)
         (LV ti (kX O r j ver h.iv p 0 (ka O l p 0 ti.zero)) (bF n d))
      |_=>.fail
     else .fail
   | .rp rec o=>if o+ti.zero.length<=rec.length then LV ti (((rec.drop o).take ti.zero.length).map roA) (bF n d)else .fail
   |_=>.fail
def wa {α:Type}(slot:Option Nat)(a:A)(k:L->Option Nat->List (Nat×Nat)->Rd α):Rd α:=
 match a,slot with
 | .v x,none=>if scal x then k (.v x) none []else .fail
 | .nl,some sz=>k (.s sz []) none []
 | .vw r j ver lo m,some sz=>gn r j fun h=>
   match h.c with
   | .own (.s sz' es)=>if h.ver==ver&&sz'==sz then .req (O.pr fun _=>lo=0/\m=es.length) (k (.s sz' es) h.org [(r,j)])else .fail
   |_=>.fail
 | .mv r j ver,some _=>gn r j fun h=>
   match h.c with
   | .own (.m kb es)=>if h.ver==ver then k (.m kb es) h.org [(r,j)]else .fail
   |_=>.fail
 |_,_=>.fail
def iX {α:Type}:List (Option Nat)->List A->(List (L×Option Nat)->List (Nat×Nat)->Rd α)->Rd α
 |[],[],k=>k [] []
 |sl::sls,a::as,k=>wa O sl a fun l og src=>iX sls as fun ls srcs=>k ((l,og)::ls) (src++srcs)
 |_,_,_=>.fail
def L5 {α:Type}(slot:Option Nat)(a:A)(k:H->Option Nat->List (Nat×Nat)->Rd α):Rd α:=
 match a,slot with
 | .ro sz' es,some sz=>if sz'==sz then k (.ro (.s sz' es)) none []else .fail
 |a,slot=>wa O slot a fun l og src=>k (.own l) og src
def qK {α:Type}:List (Option Nat)->List A->(List (H×Option Nat)->List (Nat×Nat)->Rd α)->Rd α
 |[],[],k=>k [] []
 |sl::sls,a::as,k=>L5 O sl a fun h og src=>qK sls as fun hs srcs=>k ((h,og)::hs) (src++srcs)
 |_,_,_=>.fail
def zI (t:TypeId)(x y:Operand):Rd Out:=
 match lk T.tyL t with
 |none=>.fail
 | some ti=>fF x fun p=>ev y fun val=>
   match dr val with
   |none=>.fail
   | some as=>
     match p with
     | .pt r j=>qK O ti.slots as fun hs srcs=>
       if bz srcs&&srcs.all (fun s=> !yv r j hs.length s)then
        gU srcs fun w1=>gh r j hs fun w2=>.ret (.ws (w1++w2))
       else .fail
     | .pn r j ver iv p=>iX O ti.slots as fun ls srcs=>
       if bz srcs&&srcs.all (fun s=>s !=(r,j))then
        gU srcs fun w1=>gn r j fun h=>
         if vm h ver iv p then match h.c with
          | .own (.s sz es)=>.req (O.pr fun _=>∃ rec o,bP (.s sz es) p=some (rec,o)/\o+ls.length<=rec.length)
             (.ret (.ws (w1++[.leaf r j ⟨h.ver,h.iv+1,h.org,.own (.s sz (O.up (.s sz es) p (ls.map (·.1))))⟩])))
          |_=>.fail
         else .fail
       else .fail
     |_=>.fail
def Ix (d:Option Tmp)(t:TypeId)(x:Operand):Rd Out:=
 match lk T.tyL t with
 |none=>.fail
 | some ti=>ev x fun val=>
   match dr val with
   |none=>.fail
   | some as=>fresh n d fun d=>qK O ti.slots as fun hs srcs=>
     if bz srcs then gU srcs fun w1=>.ret (.ws (w1++[.root d true (tY hs),.reg d (.one (.pt d 0))]))else .fail
def oD (d sz:Nat)(es:af):List W:=[.root d false [⟨0,0,none,.own (.s sz es)⟩],.reg d (.one (.vw d 0 0 0 (O.ln es)))]
def Dg (d:Option Tmp)(t:TypeId)(len cap:Operand):Rd Out:=
 match lk T.elL t with
 |none=>.fail
 | some (_,ti,bytes)=>ke len fun kl l=>ke cap fun kc c=>
   if kl==.i64&&kc==.i64 then
    .req (O.pr fun _=>0<=l/\l<=c/\c*(bytes:Int)<=70368744177664/\c<=70368744177664) (fresh n d fun d=>.ret (.ws (oD O d ti.zero.length (O.rep l ti.zero))))
   else .fail
def qJ {α:Type}(ti:TI)(len:Nat):List (Nat×Operand)->(List (Nat×ax)->List (Nat×Nat)->Rd α)->Rd α
 |[],k=>k [] []
 | (i,x)::ps,k=>if i<len then ev x fun val=>match dr val with
     |none=>.fail
     |some as=>iX O ti.slots as fun ls src=>qJ ti len ps fun rest srcs=>k ((i,ls.map (·.1))::rest) (src++srcs)
  else .fail
def mE (d:Option Tmp)(t:TypeId)(len:Nat)(parts:Array (Nat×Operand)):Rd Out:=
 match lk T.elL t with
 |none=>.fail
 | some (_,ti,_)=>if len*ti.zero.length<=16777216 then
    qJ O ti len parts.toList fun ps srcs=>if bz srcs then gU srcs fun w1=>fresh n d fun d=>.ret (.ws (w1++oD O d ti.zero.length (eY (Zk len ti.zero) ps)))else .fail
   else .fail
def oj (d:Option Tmp)(t:TypeId)(x i:Operand):Rd Out:=
 match lk T.elL t with
 |none=>.fail
 | some (_,ti,_)=>fF x fun a=>ke i fun _ i=>
   match a with
   | .ro sz es=>if sz==ti.zero.length then .req (O.pr fun _=>0<=i/\i<es.length/\es.getD i.toNat []=ky O es i 0 ti.zero) (bF n d (.one (.rp (ky O es i 0 ti.zero) 0)))else .fail
   | .vw r j ver lo m=>gn r j fun h=>match h.c with
     | .own (.s sz _)=>if h.ver==ver&&sz==ti.zero.length then .req (O.pr fun _=>0<=i/\i<m) (bF n d (.one (.pn r j ver h.iv [(O.ad lo i,0)])))else .fail
     |_=>.fail
   | .vn r j ver iv p lo m=>gn r j fun h=>match h.c with
     | .own l=>if gV h ver iv then .req (O.pr fun _=>0<=i/\i<m/\∃ es,gT l p=some (ti.zero.length,es)) (bF n d (.one (.pn r j ver iv (p++[(O.ad lo i,0)]))))else .fail
     |_=>.fail
   |_=>.fail
def zG (d:Option Tmp)(t:TypeId)(x:Operand)(low high max:Option Operand):Rd Out:=
 match lk T.elL t,max with
 | some (_,ti,_),none=>fF x fun
   | .ro sz es=>if sz==ti.zero.length then eQ low 0 fun l=>eQ high (O.zi (O.ln es)) fun h=>
      .req (O.pr fun _=>0<=l/\l<=h/\h<=es.length) (bF n d (.one (.ro sz (O.sub es (O.nn l) (O.df h l)))))else .fail
   | .vw r j ver lo m=>gn r j fun hv=>match hv.c with
     | .own (.s sz _)=>if hv.ver==ver&&sz==ti.zero.length then eQ low 0 fun l=>eQ high (O.zi m) fun h=>
        .req (O.pr fun _=>0<=l/\l<=h/\h<=m) (bF n d (.one (.vw r j ver (O.ad lo l) (O.df h l))))else .fail
     |_=>.fail
   |_=>.fail
 |_,_=>.fail
def G4:BinOp->Bool
 | .shl=>true
 | .shr=>true
 |_=>false
def JX:BinOp->Bool
 | .add=>true
 | .sub=>true
 | .mul=>true
 | .quo=>true
 | .rem=>true
 | .and=>true
 | .or=>true
 | .xor=>true
 | .andNot=>true
 |_=>false
def DN:BinOp->Bool
 | .quo=>true
 | .rem=>true
 |_=>false
def DL:BinOp->Bool
 | .eql=>true
 | .neq=>true
 | .lss=>true
 | .leq=>true
 | .gtr=>true
 | .geq=>true
 |_=>false
def N9:BinOp->Bool
 | .eql=>true
 | .neq=>true
 |_=>false
def Iv (d:Option Tmp)(op:BinOp)(t:TypeId)(x y:Operand):Rd Out:=
 fF x fun a=>fF y fun b=>
  match a,b with
  | .v (.int k a),.v (.int k' b)=>
    if G4 op then .req (O.pr fun _=>0<=b) (bF n d (.one (.v (.int k (O.sh op k a b)))))
    else if k==k' then
     (if DN op then .req (O.pr fun _=>b≠0) (bF n d (.one (.v (.int k (O.ar op k a b)))))
      else if JX op then bF n d (.one (.v (.int k (O.ar op k a b))))
      else if DL op then bF n d (.k (O.cmp op a b))
      else .fail)
    else .fail
  | .v (.bool a),.v (.bool b)=>if(lk T.boL t).isSome&&N9 op then bF n d (.k (O.bq op a b))else .fail
  |_,_=>.fail
def zk (d:Option Tmp)(op:BinOp)(t:TypeId)(x y:Operand):Rd Out:=
 ev x fun rx=>match rx with
  | .agg _=>Iz (lk T.cmL) O.cmp O.bq O.sel O.bn n d op t x y
  |_=>Iv T O n d op t x y
def P1 (d:Option Tmp)(op:UnOp)(x:Operand):Rd Out:=
 fF x fun a=>match op,a with
  | .not,.v (.bool b)=>bF n d (.k (O.bn b))
  | .neg,.v (.int k a)=>bF n d (.one (.v (.int k (O.ar .sub k 0 a))))
  |_,_=>.fail
def LO {α:Type}(a:A)(k:Nat->Rd α):Rd α:=
 match a with
 | .nl=>k 0
 | .ro _ es=>k (O.ln es)
 | .vw r j ver _ m=>gn r j fun h=>match h.c with
   | .own (.s _ _)=>if h.ver==ver then k m else .fail
   |_=>.fail
 | .vn r j ver iv p _ m=>gn r j fun h=>match h.c with
   | .own l=>if gV h ver iv then .req (O.pr fun _=>(gT l p).isSome=true) (k m)else .fail
   |_=>.fail
 |_=>.fail
def xJ {α:Type}(ti:TI)(a:A)(k:af->List (Nat×Nat)->Rd α):Rd α:=
 match a with
 | .nl=>k [] []
 | .ro sz es=>if sz==ti.zero.length&&gv ti.slots then .req (O.pr fun _=>bN es) (k es [])else .fail
 | .vw r j ver lo m=>gn r j fun h=>match h.c with
   | .own (.s sz es)=>if h.ver==ver&&sz==ti.zero.length then
      (if gv ti.slots then .req (O.pr fun _=>bN es) (k (O.sub es lo m) [])
       else .req (O.pr fun _=>lo=0/\m=es.length) (k es [(r,j)]))
     else .fail
   |_=>.fail
 | .vn r j ver iv p lo m=>gn r j fun h=>match h.c with
   | .own l=>if gV h ver iv&&gv ti.slots then .req (O.pr fun _=>gT l p=some (ti.zero.length,O.ps l p)/\bN (O.ps l p)) (k (O.sub (O.ps l p) lo m) [])else .fail
   |_=>.fail
 |_=>.fail
def oc (d:Option Tmp)(t t':TypeId)(s x:Operand):Rd Out:=
 match lk T.elL t with
 |none=>.fail
 | some (_,ti,bytes)=>if t==t' then fF s fun a=>fF x fun b=>
    wa O (some ti.zero.length) a fun l _ src=>match l with
     | .s sz es=>if sz==ti.zero.length then xJ O ti b fun es2 src2=>if bz (src++src2)then
        .req (O.pr fun _=>(es.length+es2.length)*bytes<=70368744177664/\es.length+es2.length<=70368744177664) (gU (src++src2) fun w1=>fresh n d fun d=>.ret (.ws (w1++oD O d ti.zero.length (O.cat es es2))))
       else .fail else .fail
     |_=>.fail
   else .fail
def abW (es:af)(lo m:Nat)(gr:ax):af:=O.cat (O.sub es 0 lo) (O.cat (O.rep (O.zi m) gr) (O.sub es (O.ad lo (O.zi m)) (O.ln es)))
def sv (d:Option Tmp)(t t':TypeId)(s x:Operand):Rd Out:=
 match lk T.elL t with
 |none=>.fail
 | some (_,ti,bytes)=>if t==t' then fF s fun a=>fF x fun b=>
    wa O (some ti.zero.length) a fun l _ src=>match l with
     | .s sz es=>if sz==ti.zero.length then match b with
       | .vw r j ver lo m=>gn r j fun h=>match h.c with
         | .own (.s sz2 es2)=>if h.ver==ver&&sz2==ti.zero.length&&bz src&&src.all (fun p=>p !=(r,j))then
           .req (O.pr fun _=>(es.length+m)*bytes<=70368744177664/\es.length+m<=70368744177664) (gU src fun w1=>fresh n d fun d=>.ret (.ws (w1++(.leaf r j ⟨h.ver,h.iv+1,h.org,.own (.s sz2 (abW O es2 lo m (vk ti.zero)))⟩::oD O d ti.zero.length (O.cat es (O.sub es2 lo m))))))
         else .fail
         |_=>.fail
       |_=>.fail
       else .fail
     |_=>.fail
   else .fail
def sx (d:Option Tmp)(t t':TypeId)(s x:Operand):Rd Out:=
 fF x fun b=>match b with
  | .vw r _ _ _ _=>.get (.meta_ r) fun
    | some (.m _ true)=>match lk T.elL t with
      |some (_,ti,_)=>if gv ti.slots then oc T O n d t t' s x else sv T O n d t t' s x
      |none=>.fail
    |_=>oc T O n d t t' s x
  |_=>oc T O n d t t' s x
def Dp {α:Type}(slot:Option Nat)(a:A)(k:L->Rd α):Rd α:=
 match a,slot with
 | .v x,none=>if scal x then k (.v x)else .fail
 | .nl,some sz=>k (.s sz [])
 | .ro sz' es,some sz=>if sz'==sz then k (.s sz' es)else .fail
 | .vw r j ver lo m,some sz=>gn r j fun h=>match h.c with
   | .own (.s sz' es)=>if h.ver==ver&&sz'==sz then k (.s sz' (O.sub es lo m))else .fail
   |_=>.fail
 | .vn r j ver iv p lo m,some sz=>gn r j fun h=>match h.c with
   | .own l=>if gV h ver iv then .req (O.pr fun _=>gT l p=some (sz,O.ps l p)) (k (.s sz (O.sub (O.ps l p) lo m)))else .fail
   |_=>.fail
 |_,_=>.fail
def jO {α:Type}:List (Option Nat)->List A->(ax->Rd α)->Rd α
 |[],[],k=>k []
 |sl::sls,a::as,k=>Dp O sl a fun l=>jO sls as fun ls=>k (l::ls)
 |_,_,_=>.fail
def FP {α:Type}(t:TypeId)(x:Operand)(k:DV->Rd α):Rd α:=
 match lk T.tyL t with
 |none=>if(lk T.pnL t).isSome then FT (lk T.ptL t) x k else .fail
 | some ti=>ev x fun val=>match val with
   | .one a=>if ti.agg then .fail else jO O ti.slots [a] fun ls=>match ls with
     |[l]=>k (.one l)
     |_=>.fail
   | .agg as=>if ti.agg then jO O ti.slots as fun ls=>k (.agg ls)else .fail
   | .tup _=>.fail
def xY {α:Type}:List TypeId->List Operand->(List DV->Rd α)->Rd α
 |[],[],k=>k []
 |t::ts,x::xs,k=>FP T O t x fun d=>xY ts xs fun ds=>k (d::ds)
 |_,_,_=>.fail
def eZ (d:Nat):Nat->ax->List A
 |_,[]=>[]
 |j,.v x::ls=>.v x::eZ d (j+1) ls
 |j,.s _ es::ls=>.vw d j 0 0 (O.ln es)::eZ d (j+1) ls
 |j,.g::ls=>.un::eZ d (j+1) ls
 |j,.m _ _::ls=>.un::eZ d (j+1) ls
def Em (d j:Nat):DV->R
 | .one l=>match eZ O d j [l]with
   |[a]=>.one a
   |_=>.agg []
 | .agg ls=>.agg (eZ O d j ls)
 |_=>.agg []
def yR (d:Nat):Nat->List DV->List R
 |_,[]=>[]
 |j,r::rs=>Em O d j r::yR d (j+(bJ r).length) rs
def El (d:Nat)(res:List DV):R:=match res with
 |[r]=>Em O d 0 r
 |rs=>.tup (yR O d 0 rs)
def fa (d:Nat)(res:List DV):List W:=
 [.root d false ((res.flatMap bJ).map fun l=>⟨0,0,none,.own l⟩),.reg d (El O d res)]
def Db (d:Option Tmp)(f:FuncId)(ts:Array TypeId)(args:Array Operand):Rd Out:=
 if(lk T.fnL f).isSome then xY T O ts.toList args.toList fun ds=>match ct.rd f ds with
  |some (pre,res)=>.req (O.pr pre) (fresh n d fun d=>.ret (.ws (fa O d res)))
  |none=>.fail
 else .fail
def zt (d:Option Tmp)(t:Tmp)(ts:Array TypeId)(args:Array Operand):Rd Out:=
 fF (.tmp t) fun
  | .fn f caps=>xY T O ts.toList args.toList fun ds=>ff caps fun recs=>match ct.rd f (ds++recs.map .ptr)with
    |some (pre,res)=>.req (O.pr pre) (.req (O.pr fun _=>(lk T.fnL f).isSome=true) (fresh n d fun d=>.ret (.ws (fa O d res))))
    |none=>.fail
  |_=>.fail
def wv (d:Option Tmp)(t:TypeId)(x:Operand)(low high max:Option Operand):Rd Out:=
 fF x fun
  | .vn _ _ _ _ _ _ _=>qS O.pr O.ad O.df O.zi (lk T.elL) n d t x low high max
  |_=>zG T O n d t x low high max
def ww (t:TypeId)(x y:Operand):Rd Out:=
 ev y fun
  | .one (.vn _ _ _ _ _ _ _)=>qU O.pr O.ps O.sub O.up (lk T.tyL) t x y
  |_=>zI T O t x y
def zA (d:Option Tmp)(t:Tmp)(ts:Array TypeId)(args:Array Operand):Rd Out:=
 fF (.tmp t) fun
  | .fn f _=>match ct.pt f with
    |some _=>oK O.pr (fun {β}=>jO O (α:=β)) (lk T.tyL) (lk T.ptL) (fun t=>(lk T.pnL t).isSome) n d (fun f=>(lk T.fnL f).isSome) t ts args ct.pt (fa O)
    |none=>zt T O ct n d t ts args
  |_=>.fail
def ze (d:Option Tmp)(t:TypeId):Rd Out:=
 match lk T.tyL t with
 |none=>.fail
 |some ti=>fresh n d fun d=>.ret (.ws [.root d true (ti.zero.map fun l=>⟨0,0,none,.own l⟩),.reg d (.one (.pt d 0))])
def zn (d:Option Tmp)(t:TypeId)(parts:Array (Nat×Operand)):Rd Out:=
 match lk T.tyL t with
 |none=>.fail
 | some ti=>match lk T.bdL t with
   |none=>.fail
   |some bd=>ia bd parts.toList (ti.zero.map IH) fun as=>bF n d (.agg as)
def oi (d:Option Tmp)(s:TypeId)(x:Operand)(f:Nat):Rd Out:=
 match lkF (lk T.fdL s) f with
 |none=>.fail
 | some o=>fF x fun
   | .pt r j=>bF n d (.one (.pt r (j+o)))
   | .rp rec j=>bF n d (.one (.rp rec (j+o)))
   | .pn r j ver iv p=>gn r j fun h=>match h.c with
     | .own _=>if vm h ver iv p then bF n d (.one (.pn r j ver iv (uc p o)))else .fail
     |_=>.fail
   |_=>.fail
def mmO (isMax:Bool):List Value->Option Value
 |[.int k a,.int k' b]=>if k==k' then some (.int k (O.mm isMax a b))else none
 |_=>none
def Bn (d:Option Tmp)(b nb:Bool)(x:Operand):Rd Out:=
 fF x fun
  | .nl=>bF n d (.k b)
  | .v (.slice none 0 0)=>bF n d (.k b)
  | .vw r j ver _ m=>gn r j fun h=>match h.c with
    | .own (.s _ _)=>if h.ver==ver then .req (O.pr fun _=>0<m) (bF n d (.k nb))else .fail
    |_=>.fail
  |_=>.fail
def zm (d:Option Tmp)(op:BinOp)(t:TypeId)(x y:Operand):Rd Out:=
 match y,lk T.elL t with
 | .const (.slice none 0 0),some _=>(match op with
   | .eql=>Bn O n d true false x
   | .neq=>Bn O n d false true x
   |_=>.fail)
 |_,_=>zk T O n d op t x y
def oV (o:Oper):Rd Out:=
 match o.op with
 | .move x=>ev x fun r=>bF n o.dst r
 | .assign x=>ev x fun r=>
   match x,r,o.dst with
   | .tmp t,.one (.vw r0 j ver lo m),some d=>
     if r0=t/\r0≠d/\d<n then .get (.meta_ r0) fun
      | some (.m 1 false)=>gn r0 j fun h=>match h.c,h.org with
        | .own (.s sz es),none=>if h.ver==ver then .req (O.pr fun _=>lo=0/\m=es.length) (.get (.meta_ d) fun
          |none=>.ret (.ws ([.leaf r0 j ⟨h.ver+1,h.iv,none,.gone⟩]++oD O d sz es))
          |some (.m 1 false)=>gn d 0 fun h2=>.ret (.ws [.leaf r0 j ⟨h.ver+1,h.iv,none,.gone⟩,.leaf d 0 ⟨h2.ver+1,h2.iv+1,none,.own (.s sz es)⟩,.reg d (.one (.vw d 0 (h2.ver+1) 0 (O.ln es)))])
          |_=>.fail)else .fail
        |_,_=>.fail
      |_=>.fail
     else bF n o.dst r
   |_,_,_=>bF n o.dst r
 | .pick c a b=>ym c fun c=>fF a fun a=>fF b fun b=>match a,b with
   | .v x,.v y=>match x,y with
     | .bool x,.bool y=>bF n o.dst (.k (O.sel c x y))
     | .tuple _,.bool y=>.br c .fail (bF n o.dst (.k y))
     | .bool x,.tuple _=>.br c (bF n o.dst (.k x)) .fail
     |_,_=>.fail
   |_,_=>.fail
 | .alloc t=>ze T n o.dst t
 | .box t x=>Ix T O n o.dst t x
 | .build t parts=>zn T n o.dst t parts
 | .buildSlice t len parts=>mE T O n o.dst t len parts
 | .load t x=>Df T O n o.dst t x
 | .store t x y=>match o.dst with
   |none=>ww T O t x y
   |some _=>.fail
 | .fieldAddr s x f=>oi T n o.dst s x f
 | .indexAddr t x i=>oj T O n o.dst t x i
 | .nilCheck x=>fF x fun a=>match a with
   | .pt _ _=>bF n o.dst (.one a)
   | .rp _ _=>bF n o.dst (.one a)
   |_=>.fail
 | .binOp op t x y _=>zm T O n o.dst op t x y
 | .unOp op _ x=>P1 O n o.dst op x
 | .convert src dst x=>ke x fun _ a=>match lk T.itL src,lk T.itL dst with
   |some _,some k=>bF n o.dst (.one (.v (.int k (O.wr k a))))
   |_,_=>.fail
 | .makeSlice t l c=>Dg T O n o.dst t l c
 | .slice t x lo hi mx=>wv T O n o.dst t x lo hi mx
 | .makeFunc fn first captured=>match fn,first.toList with
   | .func f,[]=>Ah captured.toList fun cs=>bF n o.dst (.one (.fn f cs))
   |_,_=>.fail
 | .extract x i=>ev x fun r=>match r with
   | .tup rs=>match rs[i]? with
     |some r=>bF n o.dst r
     |none=>.fail
   |_=>.fail
 | .makeMap t r=>lN (lk T.mpL) n o.dst t r
 | .field t x f=>sG (lk T.cmL) n o.dst t x f
 | .range t x=>sJ (lk T.mpL) n o.dst t x
 | .entry x=>wm n o.dst x
 | .lookup t x i ok=>oL O.mgb O.mgi (lk T.mpL) n o.dst t x i ok
 | .mapEntry t m k=>jN O.mgb O.mgi O.mu (lk T.mpL) n o.dst t m k
 | .entryStore t m s x=>match o.dst with
   |none=>gj O.mu (lk T.mpL) t m s x
   |some _=>.fail
 | .mapUpdate t m k v=>match o.dst with
   |none=>oM O.mu (lk T.mpL) t m k v
   |some _=>.fail
 | .call c=>match c.callee with
   | .builtin .len=>match c.args.toList,c.argTypes.toList with
     |[x],[t]=>if(lk T.slL t).isSome then fF x fun a=>LO O a fun m=>bF n o.dst (.j (O.zi m))else .fail
     |_,_=>.fail
   | .builtin .append=>match c.args.toList,c.argTypes.toList with
     |[s,x],[t,t']=>sx T O n o.dst t t' s x
     |_,_=>.fail
   | .builtin .min=>nE c.args.toList fun vs=>match mmO O false vs with
     |some v=>bF n o.dst (.one (.v v))
     |none=>.fail
   | .builtin .max=>nE c.args.toList fun vs=>match mmO O true vs with
     |some v=>bF n o.dst (.one (.v v))
     |none=>.fail
   | .value (.func f)=>match ct.nw f with
    |some mk=>sC O.pr n o.dst (lk T.fnL f).isSome c.args mk
    |none=>match ct.tk f with
    |some mk=>sE (fun {β}=>iX O (α:=β)) (lk T.tyL) O.pr n o.dst (lk T.fnL f).isSome c.argTypes c.args mk (fa O)
    | none=>match ct.pt f with
     |some mk=>sD O.pr (fun {β}=>jO O (α:=β)) (lk T.tyL) (lk T.ptL) (fun t=>(lk T.pnL t).isSome) n o.dst (lk T.fnL f).isSome c.argTypes c.args mk (fa O)
     | none=>match ct.mu f with
       |some mk=>sB O.pr O.ps O.up (lk T.tyL) n o.dst (lk T.fnL f).isSome c.argTypes c.args mk (fa O)
       |none=>Db T O ct n o.dst f c.argTypes c.args
   | .value (.tmp t)=>zA T O ct n o.dst t c.argTypes c.args
   |_=>.fail
 |_=>.fail
end
end Go.V
namespace Go.V
def E8:Hd am=AJ:=rfl
def ki {α:Type}(r:Nat):∀ (m j:Nat) (k:List A->Rd α),iV am r j m k=dT r j m k
 |0,j,k=>rfl
 | m+1,j,k=>by
   simp only[iV,dT,E8]
   congr 1;funext h
   exact ki r m (j+1) _
def lE (r j ver iv:Nat)(p:List (Nat×Nat)):∀ (ls:ax) (o:Nat),kX am r j ver iv p o ls=jF r j ver iv p o ls
 |[],o=>rfl
 | .v x::ls,o=>by simp only[kX,jF,lE r j ver iv p ls]
 | .s sz es::ls,o=>by simp only[kX,jF,lE r j ver iv p ls];rfl
 | .g::ls,o=>by simp only[kX,jF,lE r j ver iv p ls]
 | .m _ _::ls,o=>by simp only[kX,jF,lE r j ver iv p ls]
def so: @wa am= @take1:=rfl
def iY {α:Type}:∀ (sl:List (Option Nat)) (as:List A) (k:List (L×Option Nat)->List (Nat×Nat)->Rd α),iX am sl as k=cR sl as k
 |[],[],k=>rfl
 |[],_::_,k=>rfl
 |_::_,[],k=>rfl
 | s::sl,a::as,k=>by
   simp only[iX,cR,so]
   congr 1;funext l og src
   exact iY sl as _
def HL: @L5 am= @Ky:=rfl
def pG {α:Type}:∀ (sl:List (Option Nat)) (as:List A) (k:List (H×Option Nat)->List (Nat×Nat)->Rd α),qK am sl as k=kZ sl as k
 |[],[],k=>rfl
 |[],_::_,k=>rfl
 |_::_,[],k=>rfl
 | s::sl,a::as,k=>by
   simp only[qK,kZ,HL]
   congr 1;funext l og src
   exact pG sl as _
def vN:oD am=ownRow:=rfl
def tg {α:Type}(ti:TI)(len:Nat):∀ (ps:List (Nat×Operand)) (k:List (Nat×ax)->List (Nat×Nat)->Rd α),qJ am ti len ps k=partsOf ti len ps k
 |[],k=>rfl
 | (i,x)::ps,k=>by
  simp only[qJ,partsOf,iY,tg ti len ps];rfl
def iW (d:Nat):∀ (ls:ax) (j:Nat),eZ am d j ls=dE d j ls
 |[],j=>rfl
 | .v x::ls,j=>by simp only[eZ,dE,iW d ls]
 | .s sz es::ls,j=>by simp only[eZ,dE,iW d ls];rfl
 | .g::ls,j=>by simp only[eZ,dE,iW d ls]
 | .m _ _::ls,j=>by simp only[eZ,dE,iW d ls]
def AV (d j:Nat)(r:DV):Em am d j r=CQ d j r:=by
 cases r<;>simp only[Em,CQ,iW]<;>rfl
def xG (d:Nat):∀ (rs:List DV) (j:Nat),yR am d j rs=kn d j rs
 |[],j=>rfl
 |r::rs,j=>by simp only[yR,kn,AV,xG d rs]
def jM (d:Nat)(res:List DV):fa am d res=dt d res:=by
 unfold fa dt El gY;split<;>simp only[AV,xG]
section
variable {P: Program} {T: wE} {n: Nat} {g: Gm}
def Iy (hT:bG P T){d:Option Tmp}{t:TypeId}{x:Operand}{ls:List Loc}{out:Out}(h:(Ix T am n d t x).Runs g ls out):(Iw P n d t x).Runs g ls out:=by
 revert h;unfold Ix Iw
 rcases hT.ty t with e|⟨ti,e,e2⟩
 ·simp only[e];exact fun h=>h.elim
 ·simp only[e,e2,pG];exact fun h=>h
def Fx (hT:bG P T){d:Option Tmp}{t:TypeId}{x y:Operand}{ls:List Loc}{out:Out}(h:(Dg T am n d t x y).Runs g ls out):(Bl P n d t x y).Runs g ls out:=by
 revert h;unfold Dg Bl
 rcases hT.el t with e|⟨ti,e,e2⟩
 ·simp only[e];exact fun h=>h.elim
 ·simp only[e,e2,vN];exact fun h=>h
def t9 (hT:bG P T){d:Option Tmp}{t:TypeId}{len:Nat}{parts:Array (Nat×Operand)}{ls:List Loc}{out:Out}(h:(mE T am n d t len parts).Runs g ls out):(jc P n d t len parts).Runs g ls out:=by
 revert h;unfold mE jc
 rcases hT.el t with e|⟨ti,e,e2⟩
 ·simp only[e];exact fun h=>h.elim
 ·simp only[e,e2,vN,tg];exact fun h=>h
def C6 (hT:bG P T){d:Option Tmp}{t:TypeId}{ls:List Loc}{out:Out}(h:(ze T n d t).Runs g ls out):(wg P n d t).Runs g ls out:=by
 revert h;unfold ze wg
 rcases hT.ty t with e|⟨ti,e,e2⟩
 ·simp only[e];exact fun h=>h.elim
 ·simp only[e,e2];exact fun h=>h
def C9 (hT:bG P T){d:Option Tmp}{t:TypeId}{parts:Array (Nat×Operand)}{ls:List Loc}{out:Out}(h:(zn T n d t parts).Runs g ls out):(wj P n d t parts).Runs g ls out:=by
 revert h;unfold zn wj
 rcases hT.ty t with e|⟨ti,e,e2⟩
 ·simp only[e];exact fun h=>h.elim
 ·rcases hT.bd t with f|⟨bd,f,f2⟩
  ·simp only[e,f];exact fun h=>h.elim
  ·simp only[e,e2,f,f2];exact fun h=>h
def wn (hT:bG P T){d:Option Tmp}{s:TypeId}{x:Operand}{f:Nat}{ls:List Loc}{out:Out}(h:(oi T n d s x f).Runs g ls out):(ku P n d s x f).Runs g ls out:=by
 revert h;unfold oi ku
 rcases hT.fd s f with e|⟨ti,e,e2⟩
 ·simp only[e];exact fun h=>h.elim
 ·simp only[e,e2];exact fun h=>h
def Ej {α:Type}{l:Loc}{k' k:Val->Rd α}{x:α}{ls:List Loc}(hk:∀ v ls,(k' v).Runs g ls x->(k v).Runs g ls x)(h:(rd l k').Runs g ls x):(rd l k).Runs g ls x:=by
 unfold rd at*;simp only[Rd.Runs]at*;obtain⟨ls',e,h⟩:=h;refine⟨ls',e,?_⟩;cases hg:g l with
 |none=>simp[hg,Rd.Runs]at h
 |some v=>simp only[hg]at h ⊢;exact hk v _ h
def vQ {α:Type}{d:Nat}{k' k:R->Rd α}{x:α}{ls:List Loc}(hk:∀ v ls,(k' v).Runs g ls x->(k v).Runs g ls x)(h:(Bw d k').Runs g ls x):(Bw d k).Runs g ls x:=by
 refine Ej ?_ h;intro v ls h;cases v with
 |r y=>exact hk _ _ h
 |h y=>exact h
 |m a b=>exact h
def dD {α:Type}{r j:Nat}{k' k:Hv->Rd α}{x:α}{ls:List Loc}(hk:∀ v ls,(k' v).Runs g ls x->(k v).Runs g ls x)(h:(gn r j k').Runs g ls x):(gn r j k).Runs g ls x:=by
 refine Ej ?_ h;intro v ls h;cases v with
 |h y=>exact hk _ _ h
 |r y=>exact h
 |m a b=>exact h
def oy {α:Type}{y:Operand}{k' k:R->Rd α}{x:α}{ls:List Loc}(hk:∀ v ls,(k' v).Runs g ls x->(k v).Runs g ls x)(h:(ev y k').Runs g ls x):(ev y k).Runs g ls x:=by
 cases y with
 |tmp t=>exact vQ hk h
 |const c=>exact hk _ _ h
 |_=>exact h
def de {α:Type}{y:Operand}{k' k:A->Rd α}{x:α}{ls:List Loc}(hk:∀ v ls,(k' v).Runs g ls x->(k v).Runs g ls x)(h:(fF y k').Runs g ls x):(fF y k).Runs g ls x:=by
 refine oy ?_ h;intro v ls h;cases v with
 |one a=>exact hk _ _ h
 |agg as=>exact h
 |tup rs=>exact h
def pv {α:Type}{y:Operand}{k' k:IntKind->Int->Rd α}{x:α}{ls:List Loc}(hk:∀ v w ls,(k' v w).Runs g ls x->(k v w).Runs g ls x)(h:(ke y k').Runs g ls x):(ke y k).Runs g ls x:=by
 refine de ?_ h;intro v ls h;cases v with
 | v y=>cases y with
   |int kd m=>exact hk _ _ _ h
   |_=>exact h
 |_=>exact h
def qm {α:Type}{y:Option Operand}{dflt:Int}{k' k:Int->Rd α}{x:α}{ls:List Loc}(hk:∀ v ls,(k' v).Runs g ls x->(k v).Runs g ls x)(h:(eQ y dflt k').Runs g ls x):(eQ y dflt k).Runs g ls x:=by
 cases y with
 |none=>exact hk _ _ h
 |some y=>exact pv (fun _ _ ls h=>hk _ ls h) h
def kj {α:Type}{c' c:Prop}{k' k:Rd α}{x:α}{ls:List Loc}(hc:c'->c)(hk:∀ ls,k'.Runs g ls x->k.Runs g ls x)(h:(Rd.req c' k').Runs g ls x):(Rd.req c k).Runs g ls x:=⟨hc h.1,hk _ h.2⟩
def cP {α:Type}{b:Prop}[Decidable b]{k' k:Rd α}{x:α}{ls:List Loc}(hk:∀ ls,k'.Runs g ls x->k.Runs g ls x)(h:(if b then k' else Rd.fail).Runs g ls x):(if b then k else Rd.fail).Runs g ls x:=by
 split at h
 ·rename_i hb;rw[VJ hb];exact hk _ h
 ·exact h.elim
def Dh (hT:bG P T){d:Option Tmp}{t:TypeId}{x:Operand}{lo hi mx:Option Operand}{ls:List Loc}{out:Out}(h:(zG T am n d t x lo hi mx).Runs g ls out):(sK P n d t x lo hi mx).Runs g ls out:=by
 revert h
 unfold zG sK;rcases hT.el t with e|⟨q,e,e2⟩
 ·simp only[e];exact fun h=>h.elim
 simp only[e,e2];intro h;cases mx with
 |some _=>exact h.elim
 | none=>
   ·
     obtain⟨e,ti,b⟩:=q;refine de ?_ h;intro a ls h;cases a with
     | ro sz es=>
       refine cP (fun ls h=>?_) h;refine qm (fun l ls h=>?_) h;refine qm (fun u ls h=>?_) h;refine kj id (fun ls h=>?_) h;rw[show(es.take u.toNat).drop l.toNat=(es.drop l.toNat).take (u.toNat-l.toNat)from YN ..];exact h
     | vw r j ver lo m=>
       refine dD ?_ h;intro hv ls h
       revert h
       generalize hv.c=c;intro h;cases c with
       | own l=>cases l with
         |s sz es=>exact h
         |v x=>exact h
         |g=>exact h
         |m _ _=>exact h
       |ro l=>exact h
       |gone=>exact h
     |_=>exact h
def pI {α:Type}{slot:Option Nat}{a:A}{k' k:L->Option Nat->List (Nat×Nat)->Rd α}{x:α}{ls:List Loc}(hk:∀ l og src ls,(k' l og src).Runs g ls x->(k l og src).Runs g ls x)(h:(take1 slot a k').Runs g ls x):(take1 slot a k).Runs g ls x:=by
 cases slot with
 | none=>
   cases a with
   |v y=>exact cP (fun ls h=>hk _ _ _ _ h) h
   |_=>exact h
 | some sz=>
   cases a with
   |nl=>exact hk _ _ _ _ h
   | vw r j ver lo m=>
     refine dD ?_ h;intro hv ls h
     revert h
     generalize hv.c=c;intro h;cases c with
     | own l=>cases l with
       |s sz' es=>exact cP (fun ls h=>kj id (fun ls h=>hk _ _ _ _ h) h) h
       |v x=>exact h
       |g=>exact h
       |m _ _=>exact h
     |ro l=>exact h
     |gone=>exact h
   | mv r j ver=>
     refine dD ?_ h;intro hv ls h
     revert h
     generalize hv.c=c;intro h;cases c with
     | own l=>cases l with
       |m kb es=>exact cP (fun ls h=>hk _ _ _ _ h) h
       |v x=>exact h
       |g=>exact h
       |s _ _=>exact h
     |ro l=>exact h
     |gone=>exact h
   |_=>exact h
def hD {α:Type}:∀ {sl:List (Option Nat)} {as:List A} {k' k:List (L×Option Nat)->List (Nat×Nat)->Rd α} {x:α} {ls:List Loc},(∀ l src ls,(k' l src).Runs g ls x->(k l src).Runs g ls x)->(cR sl as k').Runs g ls x->(cR sl as k).Runs g ls x
 |[],[],k',k,x,ls,hk,h=>hk _ _ _ h
 |[],_::_,k',k,x,ls,hk,h=>h
 |_::_,[],k',k,x,ls,hk,h=>h
 |s::sl,a::as,k',k,x,ls,hk,h=>pI (fun l og src ls h=>hD (fun _ _ ls h=>hk _ _ ls h) h) h
def vl {α:Type}:∀ {xs:List (Nat×Nat)} {k' k:List W->Rd α} {x:α} {ls:List Loc},(∀ l ls,(k' l).Runs g ls x->(k l).Runs g ls x)->(gU xs k').Runs g ls x->(gU xs k).Runs g ls x
 |[],k',k,x,ls,hk,h=>hk _ _ h
 |(r,j)::xs,k',k,x,ls,hk,h=>dD (fun v ls h=>vl (fun _ ls h=>hk _ ls h) h) h
def oA {l:L}{p:List (Nat×Nat)}{sz:Nat}{es:af}(h:gT l p=some (sz,es)):∃ rec o,bP l p=some (rec,o)/\rec[o]?=some (.s sz es):=by
 unfold gT at h;split at h
 ·rename_i rec o e;split at h
  ·rename_i sz' es' e';cases h;exact⟨rec,o,e,e'⟩
  ·cases h
 ·cases h
def Fw (hT:bG P T){d:Option Tmp}{t:TypeId}{x:Operand}{ls:List Loc}{out:Out}(h:(Df T am n d t x).Runs g ls out):(Bi P n d t x).Runs g ls out:=by
 revert h
 unfold Df Bi;rcases hT.ty t with e|⟨ti,e,e2⟩
 ·simp only[e];exact fun h=>h.elim
 simp only[e,e2];intro h
 ·
   refine de ?_ h;intro a ls h;cases a with
   |pt r j=>simp only[ki]at h;exact h
   | pn r j ver iv p=>
     refine dD ?_ h;intro hv ls h;refine cP (fun ls h=>?_) h
     revert h
     generalize hv.c=c;intro h;cases c with
     | own l=>
       obtain⟨⟨rec,o,e1,e2,e3⟩,h⟩:=h;simp only[e1,Rd.Runs];refine⟨e2,?_⟩;rw[e3];rw[lE]at h;exact h
     |ro l=>exact h
     |gone=>exact h
   | rp rec j=>
     simp only at h ⊢;split at h
     ·rename_i hle;exact⟨hle,h⟩
     ·exact h.elim
   |_=>exact h
def wy (hT:bG P T){t:TypeId}{x y:Operand}{ls:List Loc}{out:Out}(h:(zI T am t x y).Runs g ls out):(sL P t x y).Runs g ls out:=by
 revert h
 unfold zI sL;rcases hT.ty t with e|⟨ti,e,e2⟩
 ·simp only[e];exact fun h=>h.elim
 simp only[e,e2];intro h
 ·
   refine de ?_ h;intro a ls h;refine oy ?_ h;intro v ls h;generalize dr v=lv at h ⊢;cases lv with
   |none=>exact h.elim
   | some as=>
     cases a with
     |pt r j=>simp only[pG]at h;exact h
     | pn r j ver iv p=>
       simp only[iY]at h ⊢;refine hD ?_ h;intro lts srcs ls h;refine cP (fun ls h=>?_) h;refine vl ?_ h;intro w1 ls h;refine dD ?_ h;intro hv ls h;refine cP (fun ls h=>?_) h
       revert h
       generalize hv.c=c;intro h;cases c with
       | own l=>
         cases l with
         | s sz es=>
           obtain⟨⟨rec,o,e1,e2⟩,h⟩:=h;simp only[e1,Rd.Runs];refine⟨e2,?_⟩;simp only[Rd.Runs]at h;rw[h.1,h.2];refine⟨rfl,?_⟩;rw[AZ e1];rfl
         |v x=>exact h.elim
         |g=>exact h.elim
         |m _ _=>exact h.elim
       |ro l=>exact h.elim
       |gone=>exact h.elim
     |_=>exact h
def wo (hT:bG P T){d:Option Tmp}{t:TypeId}{x y:Operand}{ls:List Loc}{out:Out}(h:(oj T am n d t x y).Runs g ls out):(kv P n d t x y).Runs g ls out:=by
 revert h
 unfold oj kv;rcases hT.el t with e|⟨q,e,e2⟩
 ·simp only[e];exact fun h=>h.elim
 simp only[e,e2];intro h
 ·
   obtain⟨e,ti,b⟩:=q;refine de ?_ h;intro a ls h;refine pv ?_ h;intro kd i ls h;cases a with
   | ro sz es=>
     refine cP (fun ls h=>?_) h;obtain⟨⟨e1,e2,e3⟩,h⟩:=h;refine⟨⟨e1,e2⟩,?_⟩;rw[e3];exact h
   | vw r j ver lo m=>
     refine dD ?_ h;intro hv ls h
     revert h
     generalize hv.c=c;intro h;cases c with
     |own l=>cases l<;>exact h
     |ro l=>exact h
     |gone=>exact h
   | vn r j ver iv p lo m=>
     refine dD ?_ h;intro hv ls h
     revert h
     generalize hv.c=c;intro h;cases c with
     | own l=>
       refine cP (fun ls h=>?_) h;obtain⟨⟨e1,e2,es,e3⟩,h⟩:=h;obtain⟨rec,o,f1,f2⟩:=oA e3;simp only[f1,f2,beq_self_eq_true,if_true];exact⟨⟨e1,e2⟩,h⟩
     |ro l=>exact h
     |gone=>exact h
   |_=>exact h
end
end Go.V