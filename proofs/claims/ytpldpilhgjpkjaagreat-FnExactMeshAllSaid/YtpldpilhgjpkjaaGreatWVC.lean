/-
  A condition generator for functions on trees of data, part 3 of 5: values in memory, contracts, soundness.
-/
import Derived.Test.YtpldpilhgjpkjaaGreatWVB
set_option linter.all false
open Go
open Act renaming put->YK,eval->XL
open BitVec renaming ofInt->ZW
open Bool renaming and_eq_true->Zc,or_eq_true->ZU,eq_false_iff->WX
open Classical renaming byContradiction->Vy
open Deferred renaming ofValue->Xb
open Function renaming comp_apply->Vz
open Instr renaming findNow->WY,lookup->Wo,mapUpdate->Wp,mapEntry->Wq,entryStore->W1
open IntKind renaming i64->Za
open List renaming all_eq_true->Yo,mem_of_getElem?->Zw,mem_cons->Zk,mem_map->ZO,getElem?_eq_getElem->Zr,getElem?_eq_some_iff->ZF,getElem?_map->ZD,mem_append->Zg,length_map->Y2,getElem?_of_mem->YG,getD->Zv,append_assoc->Zj,drop_take->YL,take_take->YV,drop_drop->Ye,length_drop->Zz,append_nil->Yb,ext_getElem?->ZN,getElem?_set->XB,getElem?_inj->W0,not_mem_nil->Yv,length_append->Zh,length_take->Zm,getElem?_append_left->Yd,getElem?_take->ZC,getElem?_append_right->ZX,getElem?_drop->Zy,nodup_append->Zu,take_append_drop->ZR,getElem?_eq_none->ZV,nodup_nil->ZL,map_cons->ZT,length_nil->Zt,mem_cons_of_mem->W7,length_cons->Zp,replicate->ZM,range->Zl,getD_eq_getElem?_getD->Zn
open List.cons renaming injEq->Yg
open MapKept renaming run_getObj_map->YY,run_checkKey->Xd,run_findKey->Xe,run_setObj_map->Xu,run_keyThatStays->WZ,heap_set->W2
open Nat renaming eq_of_beq_eq_true->Z5,beq_refl->WV,le_of_ble_eq_true->YH,ble_eq_true_of_le->WW,lt_or_ge->ZY,le_refl->Zf,lt_succ_self->YE,zero_add->Zx,add_mul->Zs,lt_irrefl->X4,lt_of_lt_of_le->Ym,beq->ZK
open Obj renaming map->W5
open Oper renaming wp->YR,upon->Y9
open Option renaming getD_some->Z0,map_eq_some_iff->ZB,none->Xo
open Option.some renaming injEq->Ya,inj->YA
open Region renaming wanted->YW
open Result renaming andThen_ok->Z2,andThen->Z6
open Sem renaming run_bind->ZQ,run_pure->Yi
open _root_.Array renaming toList_map->Yx,toArray_toList->Yy,empty_append->Xc,append_empty->XM,getElem?_eq_some_iff->ZE,getElem?_toList->Z1,getElem?_modify->YM,length_toList->ZS,size_push->W6
namespace Go.V
def BI:∀ {pts:List mX},qL pts=true->∀ (i i':Nat) (p p':mX),i<i'->pts[i]?=some p->pts[i']?=some p'->Kj p p'=true
 |[],_,i,i',p,p',_,h,_=>by simp at h
 | q::ps,h,i,i',p,p',hi,h1,h2=>by
   simp only[qL,Zc,Yo]at h;cases i with
   | zero=>
     simp at h1;subst h1;cases i' with
     |zero=>omega
     |succ i'=>simp at h2;exact h.1 p' (Zw h2)
   | succ i=>
     cases i' with
     |zero=>omega
     |succ i'=>simp at h1 h2;exact BI h.2 i i' p p' Uc h1 h2
def DO {p q:mX}:Kj p q=true↔p.1≠q.1\/p.2.1+p.2.2.length<=q.2.1\/q.2.1+q.2.2.length<=p.2.1:=by
 have hb:∀ a b:Nat,a.beq b=true↔a=b:=fun a b=>⟨Z5,fun e=>by subst e;exact WV a⟩
 have hl:∀ a b:Nat,a.ble b=true↔a<=b:=fun a b=>⟨YH,WW⟩
 unfold Kj;simp only[ZU,Bool.not_eq_true',hl];rw[WX,Ne,hb];simp[or_assoc]
def MR {s:Nat×Nat}{p:mX}:GH s p=true↔s.1=p.1/\p.2.1<=s.2/\s.2<p.2.1+p.2.2.length:=by
 have hb:∀ a b:Nat,a.beq b=true↔a=b:=fun a b=>⟨Z5,fun e=>by subst e;exact WV a⟩
 have hl:∀ a b:Nat,a.ble b=true↔a<=b:=fun a b=>⟨YH,WW⟩
 unfold GH;simp only[Zc,hb,hl]
 constructor
 ·rintro⟨h1,h2,h3⟩;exact⟨h1,h2,Uc⟩
 ·rintro⟨h1,h2,h3⟩;exact⟨h1,h2,Uc⟩
def BJ {pts:List mX}(h:qL pts=true){i i':Nat}{p p':mX}(hi:i≠i')(h1:pts[i]?=some p)(h2:pts[i']?=some p'):p.1≠p'.1\/p.2.1+p.2.2.length<=p'.2.1\/p'.2.1+p'.2.2.length<=p.2.1:=by
 rcases ZY i i' with c|c;exact DO.1 (BI h i i' p p' c h1 h2)
 ·have:=DO.1 (BI h i' i p' p Uc h2 h1);rcases this with q|q|q;exact .inl (Ne.symm q);exact .inr (.inr q);exact .inr (.inl q)
section
variable {P: Program} {o: Oper} {cx: Cx} {G: Gh} {g: Gm} {a: Act} {w: World}
def KU (G:Gh)(g:Gm)(p:mX):Prop:=
 (∃ b off,G.loc p.1=some (b,off))/\0<p.2.2.length/\∀ (i:Nat) c,p.2.2[i]?=some c->c≠ .gone/\∃ hv,g (.leaf p.1 (p.2.1+i))=some (.h hv)/\hv.c=c
inductive wS (G:Gh)(g:Gm)(w:World):List DV->List (Nat×Nat)->List mX->List Value->Prop where
 |nil:wS G g w [] [] [] []
 |dat {d v S src ds srcs pts vs} (hd:∀ hs,d≠ .mp hs) (h:qP w d v S) (ht:∀ b∈S,G.ow b=some .ro\/∃ r j,(r,j)∈src/\G.ow b=some (.leaf r j)) (hs:wS G g w ds srcs pts vs):wS G g w (d::ds) (src++srcs) pts (v::vs)
 |ptr {p:mX} {b off ds srcs pts vs} (h:KU G g p) (h0:G.loc p.1=some (b,off)) (hs:wS G g w ds srcs pts vs):wS G g w (.mp p.2.2::ds) srcs (p::pts) (.pointer (some ⟨b,off+p.2.1,none⟩)::vs)
def pT {α:Type}{r:Nat}:∀ (m j:Nat) (k:List H->Rd α) (ls:List Loc) (out:α),(oD r j m k).Runs g ls out->
 ∃ hs ls',hs.length=m/\(∀ (i:Nat) c,hs[i]?=some c->c≠ .gone/\∃ hv,g (.leaf r (j+i))=some (.h hv)/\hv.c=c)/\(k hs).Runs g ls' out
 |0,j,k,ls,out,h=>⟨[],ls,rfl,(fun i c e=>by simp at e),h⟩
 | m+1,j,k,ls,out,h=>by
   obtain⟨hv,ls2,_,q2,hk⟩:=bB (k:=fun h=>match h.c with
    | .own l=>oD r (j+1) m fun hs=>k (.own l::hs)
    | .ro l=>oD r (j+1) m fun hs=>k (.ro l::hs)
    | .gone=>.fail) h
   have fin:∀ c,c≠ .gone->hv.c=c->(oD r (j+1) m fun hs=>k (c::hs)).Runs g ls2 out->∃ hs ls',hs.length=m+1/\(∀ (i:Nat) c,hs[i]?=some c->c≠ .gone/\∃ hv,g (.leaf r (j+i))=some (.h hv)/\hv.c=c)/\(k hs).Runs g ls' out:=by
    intro c hc e hk;obtain⟨hs,ls3,e1,e2,e3⟩:=pT m (j+1) _ _ _ hk;refine⟨c::hs,ls3,by simp[e1],fun i c' e'=>?_,e3⟩;cases i with
    |zero=>simp at e';subst e';exact⟨hc,hv,q2,e⟩
    | succ i=>
      simp at e';have:=e2 i c' e';rw[show j+(i+1)=j+1+i from by omega];exact this
   cases hc:hv.c with
   |own l=>simp only[hc]at hk;exact fin _ (by simp) hc hk
   |ro l=>simp only[hc]at hk;exact fin _ (by simp) hc hk
   |gone=>simp[hc,Rd.Runs]at hk
def IQ (hS:aO cx G g a w){isP:TypeId->Bool}{t:TypeId}{x:Operand}{α:Type}{k:DV->List (Nat×Nat)->List mX->Rd α}{ls:List Loc}{out:α}(h:(Fj f9 (oO P) (Kq P) isP t x k).Runs g ls out):
 ∃ d src pt ls',(∀ ds srcs pts vs,wS G g w ds srcs pts vs->wS G g w (d::ds) (src++srcs) (pt++pts) (a.eval x::vs))/\(k d src pt).Runs g ls' out:=by
 unfold Fj at h;cases hti:oO P t with
 | none=>
   simp only[hti]at h;split at h
   case isFalse=>exact h.elim
   obtain⟨x0,ls1,hx,h⟩:=bA hS h;cases x0 with
   | pt r j=>
     simp only at h;split at h
     ·rename_i ti _;split at h
      ·rename_i hpos;obtain⟨hs,ls2,e1,e2,h⟩:=pT _ _ _ _ _ h;obtain⟨b,off,h0,h1⟩:=hx;refine⟨.mp hs,[],[(r,j,hs)],ls2,fun ds srcs pts vs hp=>?_,h⟩;have:=wS.ptr (p:=(r,j,hs)) (b:=b) (off:=off) ⟨⟨b,off,h0⟩,by rw[<-e1]at hpos;exact hpos,e2⟩ h0 hp;rw[h1];exact this
      ·exact h.elim
     ·exact h.elim
   |_=>exact h.elim
 | some ti=>
   simp only[hti]at h;obtain⟨r,ls1,hr,h⟩:=dI hS h;cases r with
   | one x0=>
     simp only[cW]at hr;simp only at h;split at h
     ·simp[Rd.Runs]at h
     ·obtain⟨l,S,ls2,k1,t1,h⟩:=vC hS _ [x0] [a.eval x] (by simp[bX,hr]) _ _ _ h;split at h
      ·rename_i l0;simp only[ak]at k1;obtain⟨v,vs',S1,S2,e1,k2,⟨e2,e3⟩,e4⟩:=k1;cases e1;refine⟨.one l0,Lk x0,[],ls2,fun ds srcs pts vs hp=>wS.dat (S:=S1) (fun hs=>by simp) k2 (fun b hb=>?_) hp,h⟩
       simpa using t1 b (by rw[e4];simp[hb])
      ·simp[Rd.Runs]at h
   | agg as=>
     simp only[cW]at hr;obtain⟨vs,e,hr⟩:=hr;simp only at h;split at h
     ·obtain⟨l,S,ls2,k1,t1,h⟩:=vC hS _ as vs hr _ _ _ h;exact⟨.agg l,as.flatMap Lk,[],ls2,fun ds srcs pts vs' hp=>wS.dat (S:=S) (fun hs=>by simp) ⟨vs,e,k1⟩ t1 hp,h⟩
     ·simp[Rd.Runs]at h
   |tup rs=>simp[Rd.Runs]at h
def rH (hS:aO cx G g a w){isP:TypeId->Bool}{α:Type}:∀ (ts:List TypeId) (xs:List Operand) (k:List DV->List (Nat×Nat)->List mX->Rd α) (ls:List Loc) (out:α),(uW f9 (oO P) (Kq P) isP ts xs k).Runs g ls out->
 ∃ ds srcs pts ls',wS G g w ds srcs pts (xs.map a.eval)/\(k ds srcs pts).Runs g ls' out
 |[],[],k,ls,out,h=>⟨[],[],[],ls,.nil,h⟩
 |[],_::_,k,ls,out,h=>h.elim
 |_::_,[],k,ls,out,h=>h.elim
 | t::ts,x::xs,k,ls,out,h=>by
   simp only[uW]at h;obtain⟨d,src,pt,ls2,k1,h⟩:=IQ hS h;obtain⟨ds,srcs,pts,ls3,k2,h⟩:=rH hS ts xs _ _ _ h;exact⟨_,_,_,ls3,k1 _ _ _ _ k2,h⟩
open Classical in
noncomputable def paOf (G:Gh)(w:World)(p:mX):gF where
 b:=((G.loc p.1).getD (0,0)).1
 off:=((G.loc p.1).getD (0,0)).2+p.2.1
 hs:=p.2.2
 val:=fun i=>G.val p.1 (p.2.1+i)
 fp:=fun i=>match p.2.2[i]? with
  |some (.own _)=>G.fp p.1 (p.2.1+i)
  |some (.ro l)=>if h:∃ S,bN w l (G.val p.1 (p.2.1+i)) S/\∀ b∈S,G.ow b=some .ro then h.choose else[]
  |_=>[]
def wS.mem {ds:List DV}{srcs:List (Nat×Nat)}{pts:List mX}{vs:List Value}(h:wS G g w ds srcs pts vs):∀ p∈pts,KU G g p:=by
 induction h with
 |nil=>intro p hp;cases hp
 |dat _ _ _ _ ih=>exact ih
 | ptr h _ _ ih=>
   intro p hp;rcases Zk.1 hp with rfl|hp;exact h;exact ih p hp
def wS.args {ok:Nat->Prop}{ds:List DV}{srcs:List (Nat×Nat)}{pts:List mX}{vs:List Value}(h:wS G g w ds srcs pts vs)(hok:∀ b,(G.ow b=some .ro\/∃ r j,(r,j)∈srcs/\G.ow b=some (.leaf r j))->ok b):gO w ok ds vs (pts.map (paOf G w)):=by
 induction h with
 |nil=>exact⟨rfl,rfl⟩
 | @dat d v S src ds srcs pts vs hd h ht hs ih=>
   have h1:gO w ok ds vs (pts.map (paOf G w)):=ih (fun b hb=>hok b (by
    rcases hb with q|⟨r,j,q1,q2⟩;exact .inl q
    ·exact .inr ⟨r,j,by simp[q1],q2⟩))
   have h2:∀ b∈S,ok b:=fun b hb=>hok b (by
    rcases ht b hb with q|⟨r,j,q1,q2⟩;exact .inl q
    ·exact .inr ⟨r,j,by simp[q1],q2⟩)
   cases d with
   |mp hs=>exact absurd rfl (hd hs)
   |one l=>exact⟨v,vs,S,rfl,h,h2,h1⟩
   |agg l=>exact⟨v,vs,S,rfl,h,h2,h1⟩
   |ptr l=>exact⟨v,vs,S,rfl,h,h2,h1⟩
   |fn f l=>exact⟨v,vs,S,rfl,h,h2,h1⟩
 | @ptr p b off ds srcs pts vs h h0 hs ih=>
   refine⟨paOf G w p,_,vs,?_,rfl,rfl,ih hok⟩;simp[paOf,h0]
def uX (hS:aO cx G g a w){p:mX}(hp:KU G g p){i:Nat}{l:L}(h:p.2.2[i]?=some (.own l)):
 (paOf G w p).fp i=G.fp p.1 (p.2.1+i)/\bN w l (G.val p.1 (p.2.1+i)) (G.fp p.1 (p.2.1+i))/\(G.fp p.1 (p.2.1+i)).Nodup/\∀ b∈G.fp p.1 (p.2.1+i),G.ow b=some (.leaf p.1 (p.2.1+i))/\eV w b:=by
 obtain⟨_,hv,e1,e2⟩:=hp.2.2 i _ h;have:=hS.hok (av.2 e1);simp only[ew,e2]at this;exact⟨by simp[paOf,h],this⟩
def QC (hS:aO cx G g a w){p:mX}(hp:KU G g p){i:Nat}{l:L}(h:p.2.2[i]?=some (.ro l)):
 bN w l (G.val p.1 (p.2.1+i)) ((paOf G w p).fp i)/\∀ b∈(paOf G w p).fp i,G.ow b=some .ro:=by
 obtain⟨_,hv,e1,e2⟩:=hp.2.2 i _ h;have hx:=hS.hok (av.2 e1);simp only[ew,e2]at hx;have:(paOf G w p).fp i=hx.choose:=by simp only[paOf,h];rw[dif_pos hx]
 rw[this];exact hx.choose_spec
def zG (hS:aO cx G g a w){pts:List mX}(hp:∀ p∈pts,KU G g p){b:Nat}(h:nK (pts.map (paOf G w)) b):
 ∃ p∈pts,∃ (i:Nat) (l:L),p.2.2[i]?=some (.own l)/\b∈G.fp p.1 (p.2.1+i)/\G.ow b=some (.leaf p.1 (p.2.1+i)):=by
 obtain⟨q,hq,i,l,h1,h2⟩:=h;obtain⟨p,hpm,rfl⟩:=ZO.1 hq;obtain⟨e1,e2,e3,e4⟩:=uX hS (hp p hpm) h1;rw[e1]at h2;exact⟨p,hpm,i,l,h1,h2,(e4 b h2).1⟩
def zJ (hS:aO cx G g a w){pts:List mX}(hp:∀ p∈pts,KU G g p){b:Nat}(h:sG (pts.map (paOf G w)) b):
 ∃ p∈pts,∃ off,G.loc p.1=some (b,off)/\G.ow b=some (.box (G.lead p.1)):=by
 obtain⟨q,hq,rfl⟩:=h;obtain⟨p,hpm,rfl⟩:=ZO.1 hq;obtain⟨⟨b,off,h0⟩,_⟩:=hp p hpm;obtain⟨k,hk⟩:=hS.noloc _ _ h0;obtain⟨b',off',cur,ty,f1,f2,_⟩:=hS.boxes _ k hk;rw[h0]at f1;cases f1;exact⟨p,hpm,off,by simp[paOf,h0],by simpa[paOf,h0]using f2⟩
def afj (hS:aO cx G g a w){ds:List DV}{srcs:List (Nat×Nat)}{pts:List mX}{vs:List Value}(h:wS G g w ds srcs pts vs)(hr:qL pts=true)(hs:∀ s∈srcs,∀ p∈pts,GH s p=false):
 aae w ds vs (pts.map (paOf G w)):=by
 have hp:=h.mem;have lt:∀ p∈pts,∀ i:Nat,i<p.2.2.length->∃ hv,g (.leaf p.1 (p.2.1+i))=some (.h hv):=by
  intro p hpm i hi;obtain⟨_,hv,e,_⟩:=(hp p hpm).2.2 i _ (Zr hi);exact⟨hv,e⟩
 have noBoth:∀ b,(G.ow b=some .ro\/∃ r j,(r,j)∈srcs/\G.ow b=some (.leaf r j))->¬ nK (pts.map (paOf G w)) b/\¬ sG (pts.map (paOf G w)) b:=by
  intro b hb;refine⟨fun ho=>?_,fun ho=>?_⟩
  ·obtain⟨p,hpm,i,l,h1,h2,h3⟩:=zG hS hp ho;rcases hb with q|⟨r,j,q1,q2⟩
   ·rw[q]at h3;cases h3
   ·rw[q2]at h3;cases h3;have:=hs _ q1 p hpm;rw[WX]at this;exact this (MR.2 ⟨rfl,Uc,by have:=(ZF.1 h1).1;simp only;omega⟩)
  ·obtain⟨p,hpm,off,h1,h2⟩:=zJ hS hp ho;rcases hb with q|⟨r,j,q1,q2⟩
   ·rw[q]at h2;cases h2
   ·rw[q2]at h2;cases h2
 refine⟨h.args noBoth,?_,?_,?_,?_,?_,?_,?_⟩
 ·intro q hq;obtain⟨p,hpm,rfl⟩:=ZO.1 hq;obtain⟨⟨b,off,h0⟩,hpos,_⟩:=hp p hpm;obtain⟨k,hk⟩:=hS.noloc _ _ h0;obtain⟨b',off',cur,ty,f1,f2,f3,f4,f5⟩:=hS.boxes _ k hk;rw[h0]at f1;cases f1;have hlt:∀ i,i<p.2.2.length->p.2.1+i<k:=by
   intro i hi;obtain⟨hv,e⟩:=lt p hpm i hi;obtain⟨_,k',bx,_,e2,e3,_⟩:=hS.leaf _ _ _ e;rw[hk]at e2;cases e2;exact e3
  refine⟨cur,ty,by simpa[paOf,h0]using f3,?_,fun j hj=>?_⟩
  ·have:=hlt (p.2.2.length-1) Uc;simp only[paOf,h0,Z0];omega
  ·have:=f5 _ (hlt j hj);simp only[paOf,h0,Z0];rw[show off+p.2.1+j=off+(p.2.1+j)from by omega];exact this
 ·intro q hq j l hl;obtain⟨p,hpm,rfl⟩:=ZO.1 hq;obtain⟨e1,e2,e3,e4⟩:=uX hS (hp p hpm) hl;rw[e1];exact⟨e2,e3,fun b hb=>(e4 b hb).2⟩
 ·intro q hq j l hl;obtain⟨p,hpm,rfl⟩:=ZO.1 hq;obtain⟨e1,e2⟩:=QC hS (hp p hpm) hl;exact⟨e1,fun b hb=>noBoth b (.inl (e2 b hb))⟩
 ·intro q hq j hj;obtain⟨p,hpm,rfl⟩:=ZO.1 hq;exact((hp p hpm).2.2 j _ hj).1 rfl
 ·intro i j i' j' q q' l l' h1 h2 h3 h4 hne b hb hb';rw[ZD,ZB]at h1 h2;obtain⟨p,m1,rfl⟩:=h1;obtain⟨p',m2,rfl⟩:=h2;obtain⟨e1,_,_,e4⟩:=uX hS (hp p (Zw m1)) h3;obtain⟨e1',_,_,e4'⟩:=uX hS (hp p' (Zw m2)) h4;rw[e1]at hb;rw[e1']at hb';have t1:=(e4 b hb).1;have t2:=(e4' b hb').1;rw[t1]at t2;simp only[Ya,Tok.leaf.injEq]at t2;have l1:=(ZF.1 h3).1;have l2:=(ZF.1 h4).1;simp only[paOf]at l1 l2;by_cases c:i=i'
  ·subst c;rw[m1]at m2;cases m2;exact hne (by rw[show j=j' from by omega])
  ·rcases BJ hr c m1 m2 with k|k|k<;>omega
 ·intro i i' q q' hne h1 h2 hb;rw[ZD,ZB]at h1 h2;obtain⟨p,m1,rfl⟩:=h1;obtain⟨p',m2,rfl⟩:=h2;obtain⟨⟨b,off,h0⟩,hpos,_⟩:=hp p (Zw m1);obtain⟨⟨b',off',h0'⟩,hpos',_⟩:=hp p' (Zw m2);simp only[paOf,h0,h0',Z0]at hb ⊢;subst hb;obtain⟨k,hk⟩:=hS.noloc _ _ h0;obtain⟨k',hk'⟩:=hS.noloc _ _ h0';have hlt:∀ (p:mX) (k:Nat),p∈pts->0<p.2.2.length->g (.meta_ p.1)=some (.m k true)->p.2.1+p.2.2.length<=k:=by
   intro p k hpm hpos hk;obtain⟨hv,e⟩:=lt p hpm (p.2.2.length-1) Uc;obtain⟨_,k',bx,_,e2,e3,_⟩:=hS.leaf _ _ _ e;rw[hk]at e2;cases e2;omega
  have l1:=hlt p k (Zw m1) hpos hk;have l2:=hlt p' k' (Zw m2) hpos' hk';by_cases c:p.1=p'.1
  ·rw[c,h0']at h0;cases h0;rcases BJ hr hne m1 m2 with q|q|q;exact absurd c q
   ·left;omega
   ·right;omega
  ·rcases hS.sep _ _ k k' b off off' c hk hk' h0 h0' with q|q
   ·left;omega
   ·right;omega
 ·intro b hb ho;obtain⟨p,hpm,i,l,h1,h2,h3⟩:=zG hS hp ho;obtain⟨p',hpm',off,h4,h5⟩:=zJ hS hp hb;rw[h3]at h5;cases h5
end
end Go.V
namespace Go.V
def wU:∀ (ws:List W) (g:Gm),(∀ x∈ws,∃ r j h,x=W.leaf r j h)->(∀ e,aT g ws (.reg e)=g (.reg e))/\(∀ r,aT g ws (.meta_ r)=g (.meta_ r))/\
 ∀ r j,(∃ h,W.leaf r j h∈ws/\aT g ws (.leaf r j)=some (.h h))\/((∀ h,W.leaf r j h∉ws)/\aT g ws (.leaf r j)=g (.leaf r j))
 |[],g,_=>⟨fun _=>rfl,fun _=>rfl,fun r j=>.inr ⟨by simp,rfl⟩⟩
 | x::ws,g,h=>by
   obtain⟨r0,j0,h0,rfl⟩:=h x (by simp);obtain⟨a1,a2,a3⟩:=wU ws ((W.leaf r0 j0 h0).app g) (fun y hy=>h y (by simp[hy]));simp only[aT];refine⟨fun e=>by rw[a1];simp[W.app],fun r=>by rw[a2];simp[W.app],fun r j=>?_⟩;rcases a3 r j with⟨h1,q1,q2⟩|⟨q1,q2⟩;exact .inl ⟨h1,by simp[q1],q2⟩
   ·by_cases c:r=r0/\j=j0
    ·obtain⟨rfl,rfl⟩:=c;exact .inl ⟨h0,by simp,by rw[q2];simp[W.app]⟩
    ·refine .inr ⟨fun h' hm=>?_,by rw[q2];simp[W.app];intro e1 e2;exact absurd ⟨e1,e2⟩ c⟩;rcases Zk.1 hm with e|e
     ·cases e;exact c ⟨rfl,rfl⟩
     ·exact q1 h' e
section
variable {P: Program} {o: Oper} {cx: Cx} {G: Gh} {g: Gm} {a: Act} {w: World}
def tA {α:Type}{r:Nat}:∀ (hs os:List H) (j:Nat) (k:List W->Rd α) (ls:List Loc) (out:α),(OK r j hs os k).Runs g ls out->
 ∃ ws ls',(k ws).Runs g ls' out/\os.length=hs.length/\(∀ i:Nat,os[i]?≠some .gone)/\
  (∀ x∈ws,∃ i l hv,os[i]?=some (.own l)/\g (.leaf r (j+i))=some (.h hv)/\x=W.leaf r (j+i) ⟨hv.ver+1,hv.iv+1,none,.own l⟩)/\
  (∀ (i:Nat) l,os[i]?=some (.own l)->∃ hv,g (.leaf r (j+i))=some (.h hv)/\W.leaf r (j+i) ⟨hv.ver+1,hv.iv+1,none,.own l⟩∈ws)
 |[],[],j,k,ls,out,h=>⟨[],ls,h,rfl,by simp,by simp,by simp⟩
 |[],_::_,j,k,ls,out,h=>h.elim
 |_::_,[],j,k,ls,out,h=>h.elim
 | h0::hs,o0::os,j,k,ls,out,h=>by
   cases o0 with
   |gone=>exact h.elim
   | ro l0=>
     cases h0 with
     | ro l1=>
       obtain⟨ws,ls',e1,e2,e3,e4,e5⟩:=tA hs os (j+1) k ls out h;refine⟨ws,ls',e1,by simp[e2],fun i=>?_,fun x hx=>?_,fun i l hi=>?_⟩
       ·cases i with
        |zero=>simp
        |succ i=>simpa using e3 i
       ·obtain⟨i,l,hv,q1,q2,q3⟩:=e4 x hx;exact⟨i+1,l,hv,by simpa using q1,by rw[show j+(i+1)=j+1+i from by omega];exact q2,by rw[show j+(i+1)=j+1+i from by omega];exact q3⟩
       ·cases i with
        |zero=>simp at hi
        | succ i=>
          rw[show j+(i+1)=j+1+i from by omega];exact e5 i l (by simpa using hi)
     |own l1=>exact h.elim
     |gone=>exact h.elim
   | own l0=>
     obtain⟨hv,ls2,_,q2,hk⟩:=bB (k:=fun hv=>OK r (j+1) hs os fun ws=>k (.leaf r j ⟨hv.ver+1,hv.iv+1,none,.own l0⟩::ws)) h;obtain⟨ws,ls',e1,e2,e3,e4,e5⟩:=tA hs os (j+1) _ _ _ hk;refine⟨_,ls',e1,by simp[e2],fun i=>?_,fun x hx=>?_,fun i l hi=>?_⟩
     ·cases i with
      |zero=>simp
      |succ i=>simpa using e3 i
     ·rcases Zk.1 hx with rfl|hx;exact⟨0,l0,hv,by simp,q2,rfl⟩
      ·obtain⟨i,l,hv,q1,q2,q3⟩:=e4 x hx;exact⟨i+1,l,hv,by simpa using q1,by rw[show j+(i+1)=j+1+i from by omega];exact q2,by rw[show j+(i+1)=j+1+i from by omega];exact q3⟩
     ·cases i with
      |zero=>simp at hi;subst hi;exact⟨hv,q2,by simp⟩
      | succ i=>
        rw[show j+(i+1)=j+1+i from by omega];obtain⟨hv',p1,p2⟩:=e5 i l (by simpa using hi);exact⟨hv',p1,by simp[p2]⟩
def BZ {α:Type}:∀ (pts:List mX) (outs:List (List H)) (k:List W->Rd α) (ls:List Loc) (out:α),(Lp pts outs k).Runs g ls out->
 ∃ ws ls',(k ws).Runs g ls' out/\outs.length=pts.length/\
  (∀ x∈ws,∃ (n:Nat) (p:mX) (os:List H) (i:Nat) (l:L) (hv:Hv),pts[n]?=some p/\outs[n]?=some os/\os[i]?=some (.own l)/\g (.leaf p.1 (p.2.1+i))=some (.h hv)/\x=W.leaf p.1 (p.2.1+i) ⟨hv.ver+1,hv.iv+1,none,.own l⟩)/\
  (∀ (n:Nat) p os,pts[n]?=some p->outs[n]?=some os->∀ (i:Nat) l,os[i]?=some (.own l)->∃ hv,g (.leaf p.1 (p.2.1+i))=some (.h hv)/\W.leaf p.1 (p.2.1+i) ⟨hv.ver+1,hv.iv+1,none,.own l⟩∈ws)
 |[],[],k,ls,out,h=>⟨[],ls,h,rfl,by simp,by simp⟩
 |[],_::_,k,ls,out,h=>h.elim
 |_::_,[],k,ls,out,h=>h.elim
 | p::pts,os::oss,k,ls,out,h=>by
   obtain⟨w1,ls1,h1,_,_,e4,e5⟩:=tA _ _ _ _ _ _ h;obtain⟨w2,ls2,h2,e6,e7,e8⟩:=BZ pts oss _ _ _ h1;refine⟨_,ls2,h2,by simp[e6],fun x hx=>?_,fun n p' os' hn ho i l hi=>?_⟩
   ·rcases Zg.1 hx with hx|hx
    ·obtain⟨i,l,hv,q1,q2,q3⟩:=e4 x hx;exact⟨0,p,os,i,l,hv,by simp,by simp,q1,q2,q3⟩
    ·obtain⟨n,p',os',i,l,hv,q0,q1,q2⟩:=e7 x hx;exact⟨n+1,p',os',i,l,hv,by simpa using q0,by simpa using q1,q2⟩
   ·cases n with
    | zero=>
      simp at hn ho;subst hn ho;obtain⟨hv,q1,q2⟩:=e5 i l hi;exact⟨hv,q1,by simp[q2]⟩
    | succ n=>
      simp at hn ho;obtain⟨hv,q1,q2⟩:=e8 n p' os' hn ho i l hi;exact⟨hv,q1,by simp[q2]⟩
def Pn (g:Gm)(pts:List mX)(ps':List gF)(r j:Nat)(x:Hv×Value×List Nat):Prop:=
 ∃ (n:Nat) (p:mX) (q:gF) (i:Nat) (l:L) (hv:Hv),pts[n]?=some p/\ps'[n]?=some q/\r=p.1/\j=p.2.1+i/\i<p.2.2.length/\q.hs[i]?=some (.own l)/\g (.leaf r j)=some (.h hv)/\x=(⟨hv.ver+1,hv.iv+1,none,.own l⟩,q.val i,q.fp i)
def Pn.same {pts:List mX}(hr:qL pts=true){ps':List gF}{r j n n':Nat}{p p':mX}{i i':Nat}(h1:pts[n]?=some p)(h2:pts[n']?=some p')(e1:r=p.1)(e2:r=p'.1)(e3:j=p.2.1+i)(e4:j=p'.2.1+i')(l1:i<p.2.2.length)(l2:i'<p'.2.2.length):n=n'/\p=p'/\i=i':=by
 by_cases c:n=n'
 ·subst c;rw[h1]at h2;cases h2;exact⟨rfl,rfl,Uc⟩
 ·rcases BJ hr c h1 h2 with q|q|q;exact absurd (e1.symm.trans e2) q;omega;omega
def Pn.unique {pts:List mX}(hr:qL pts=true){ps':List gF}{r j:Nat}{x y:Hv×Value×List Nat}(h1:Pn g pts ps' r j x)(h2:Pn g pts ps' r j y):x=y:=by
 obtain⟨n,p,q,i,l,hv,a1,a2,a3,a4,a5,a6,a7,rfl⟩:=h1;obtain⟨n',p',q',i',l',hv',b1,b2,b3,b4,b5,b6,b7,rfl⟩:=h2;obtain⟨rfl,rfl,rfl⟩:=Pn.same hr (ps':=ps') a1 b1 a3 b3 a4 b4 a5 b5;rw[a2]at b2;cases b2;rw[a6]at b6;cases b6;rw[a7]at b7;cases b7;rfl
open Classical in
noncomputable def uP (g:Gm)(pts:List mX)(ps':List gF):UpP:=fun r j=>if h:∃ x,Pn g pts ps' r j x then some h.choose else none
def Rf {pts:List mX}(hr:qL pts=true){ps':List gF}{r j:Nat}{x:Hv×Value×List Nat}:uP g pts ps' r j=some x↔Pn g pts ps' r j x:=by
 unfold uP
 constructor
 ·intro e;split at e
  ·rename_i h;cases e;exact h.choose_spec
  ·cases e
 ·intro h;rw[dif_pos ⟨x,h⟩];exact congrArg some (Pn.unique hr (Exists.choose_spec (⟨x,h⟩:∃ x,Pn g pts ps' r j x)) h)
variable {ls: List Loc} {ws: List W} {K: Act -> World -> Prop} {Q: Exit -> Act -> World -> Prop}
def Hk (pr:(Unit->Prop)->Prop)(n:Nat)(d:Option Tmp)(ds:List DV)(srcs:List (Nat×Nat))(pts:List mX)(mk:PK)(rw:Nat->List DV->List W):Rd Out:=
 match mk ds with
 | some (pre,outs,res)=>if qL pts&&srcs.all (fun s=>pts.all fun p=> !GH s p)then .req (pr pre) (Lp pts outs fun ws=>match d with
    |some _=>fresh n d fun d=>.ret (.ws (ws++rw d res))
    |none=>.ret (.ws ws))else .fail
 |none=>.fail
def xB {f:FuncId}{ds:List DV}{srcs:List (Nat×Nat)}{pts:List mX}{vs:List Value}(hS:aO cx G g a w)(hargs:wS G g w ds srcs pts vs)(hex:(execOp a.eval o).run P w=.ok (.enter f vs.toArray) w){mk:PK} 
 (hc:∀ ds pre outs res,mk ds=some (pre,outs,res)->pre ()->Eo P f ds outs res) (h:(Hk pv cx.n o.dst ds srcs pts mk dT).Runs g ls (.ws ws))
 (hk:∀ a' w',fC cx (aT g ws) a' w'->K a' w'):o.wp P a w K Q:=by
 unfold Hk at h;split at h
 case h_2=>exact h.elim
 rename_i pre outs res hmk;split at h
 case isFalse=>exact h.elim
 rename_i hcond;simp only[Zc]at hcond;obtain⟨hrng,hsrc⟩:=hcond;have hsrc':∀ s∈srcs,∀ p∈pts,GH s p=false:=by
  intro s hs p hp;have:=Yo.1 (Yo.1 hsrc s hs) p hp
  simpa using this
 obtain⟨hpre,h⟩:=h;obtain⟨w1,ls2,h,hol,u1,u2⟩:=BZ _ _ _ _ _ h;have hp:=hargs.mem;unfold YR;rw[hex];simp only[Y9];have hcall:=hc ds pre outs res hmk hpre w vs _ (afj hS hargs hrng hsrc');refine hcall.mono ?_;rintro e w' ⟨v,Sr,ps',rfl,hres,hpost⟩;have plen:ps'.length=pts.length:=by rw[hpost.len,Y2]
 have at_:∀ (n:Nat) p,pts[n]?=some p->∃ q,ps'[n]?=some q/\q.b=(paOf G w p).b/\q.off=(paOf G w p).off/\outs[n]?=some q.hs/\q.hs.length=p.2.2.length:=by
  intro n p hn;have hlt:n<ps'.length:=by rw[plen];exact(ZF.1 hn).1
  have:=hpost.same n (paOf G w p) ps'[n] (by rw[ZD,hn];rfl) (Zr hlt);exact⟨ps'[n],Zr hlt,this⟩
 have uS:=fun {r j x}=>Rf (g:=g) hrng (ps':=ps') (r:=r) (j:=j) (x:=x)
 have hl1:∀ x∈w1,∃ r j h,x=W.leaf r j h:=by
  intro x hx;obtain⟨n,p,os,i,l,hv,_,_,_,_,rfl⟩:=u1 x hx;exact⟨_,_,_,rfl⟩
 obtain⟨a1,a2,a3⟩:=wU w1 g hl1;have a4:∀ r j,aT g w1 (.leaf r j)=match uP g pts ps' r j with
  |some x=>some (.h x.1)
  |none=>g (.leaf r j):=by
  intro r j;rcases a3 r j with⟨h0,q1,q2⟩|⟨q1,q2⟩
  ·obtain⟨n,p,os,i,l,hv,z1,z2,z3,z4,z5⟩:=u1 _ q1;cases z5;obtain⟨q,y1,y2,y3,y4,y5⟩:=at_ n p z1;rw[z2]at y4;cases y4;have hx:uP g pts ps' p.1 (p.2.1+i)=some (⟨hv.ver+1,hv.iv+1,none,.own l⟩,q.val i,q.fp i):=uS.2 ⟨n,p,q,i,l,hv,z1,y1,rfl,rfl,by rw[<-y5];exact(ZF.1 z3).1,z3,z4,rfl⟩;rw[q2,hx]
  ·cases hx:uP g pts ps' r j with
   |none=>exact q2
   | some x=>
     exfalso;obtain⟨n,p,q,i,l,hv,z1,z2,z3,z4,z5,z6,z7,z8⟩:=uS.1 hx;obtain⟨q',y1,y2,y3,y4,y5⟩:=at_ n p z1;rw[z2]at y1;cases y1;obtain⟨hv',m1,m2⟩:=u2 n p q.hs z1 y4 i l z6;subst z3 z4;exact q1 _ m2
 obtain⟨vs,lv,hlv,hv⟩:∃ vs lv,Em w' res vs lv Sr/\((∃ dv,res=[dv]/\vs=[v])\/v=.tuple vs.toArray/\∀ dv,res≠[dv]):=by
  cases res with
  |nil=>obtain⟨vs,e,h2⟩:=hres;obtain⟨lv,k⟩:=bU.lv h2;exact⟨vs,lv,k,.inr ⟨e,fun dv e=>by cases e⟩⟩
  | cons d1 rest=>
    cases rest with
    | nil=>
      have h2:bU w' [d1] [v] Sr:=by simp only[bU];exact⟨v,[],Sr,[],rfl,hres,⟨rfl,rfl⟩,by simp⟩
      obtain⟨lv,k⟩:=bU.lv h2;exact⟨[v],lv,k,.inl ⟨d1,rfl,rfl⟩⟩
    |cons d2 rest=>obtain⟨vs,e,h2⟩:=hres;obtain⟨lv,k⟩:=bU.lv h2;exact⟨vs,lv,k,.inr ⟨e,fun dv e=>by cases e⟩⟩
 have hrec:=hlv.rec_;obtain⟨Ss,s1,s2,s3⟩:=hrec.items;have hnd:Ss.flatten.Nodup:=by rw[s1];exact hpost.res.1
 have own_tok:∀ b,nK (pts.map (paOf G w)) b->∃ r j x h l,uP g pts ps' r j=some x/\g (.leaf r j)=some (.h h)/\h.c=.own l/\b∈G.fp r j:=by
  intro b hb;obtain⟨p,hpm,i,l,h1,h2,h3⟩:=zG hS hp hb;obtain⟨_,hv,e1,e2⟩:=(hp p hpm).2.2 i _ h1;obtain⟨n,hn⟩:=YG hpm;obtain⟨q,y1,y2,y3,y4,y5⟩:=at_ n p hn;have hi:i<p.2.2.length:=(ZF.1 h1).1;have hq:i<q.hs.length:=by omega
  cases hc:q.hs[i]with
  |gone=>exact absurd (by rw[Zr hq,hc]) (hpost.gone q (Zw y1) i)
  | ro l'=>
    exfalso;have:=hpost.ro n (paOf G w p) q i l' (by rw[ZD,hn];rfl) y1 (by rw[Zr hq,hc]);simp only[paOf]at this;rw[h1]at this;cases this.1
  | own l'=>
    exact⟨p.1,p.2.1+i,_,hv,l,uS.2 ⟨n,p,q,i,l',hv,hn,y1,rfl,rfl,hi,by rw[Zr hq,hc],e1,rfl⟩,e1,e2,h2⟩
 have cellSame:∀ b cur cur' ty ty',w.heap[b]?=some (.cells cur ty (0,0))->w'.heap[b]?=some (.cells cur' ty' (0,0))->(∀ i,(∀ p∈pts.map (paOf G w),p.b=b->i<p.off\/p.off+p.hs.length<=i)->cur'[i]?=cur[i]?)->
  ∀ i0,(∀ (n:Nat) (p:mX) (q:gF) (i:Nat) (l:L),pts[n]?=some p->ps'[n]?=some q->(paOf G w p).b=b->q.hs[i]?=some (.own l)->i0≠(paOf G w p).off+i)->cur'[i0]?=cur[i0]?:=by
  intro b cur cur' ty ty' k1 k2 k4 i0 hi0;by_cases c:∃ (n:Nat) (p:mX),pts[n]?=some p/\(paOf G w p).b=b/\(paOf G w p).off<=i0/\i0<(paOf G w p).off+p.2.2.length
  ·obtain⟨n,p,hn,hb,c1,c2⟩:=c;obtain⟨q,y1,y2,y3,y4,y5⟩:=at_ n p hn;have hq:i0- (paOf G w p).off<q.hs.length:=by omega
   have hpa:paOf G w p∈pts.map (paOf G w):=ZO.2 ⟨p,Zw hn,rfl⟩;cases hc:q.hs[i0- (paOf G w p).off]with
   |gone=>exact absurd (by rw[Zr hq,hc]) (hpost.gone q (Zw y1) _)
   |own l=>exact absurd (show i0=(paOf G w p).off+(i0- (paOf G w p).off)by omega) (hi0 n p q _ l hn y1 hb (by rw[Zr hq,hc]))
   | ro l=>
     have hr:=hpost.ro n (paOf G w p) q _ l (by rw[ZD,hn];rfl) y1 (by rw[Zr hq,hc]);obtain⟨cur2,ty2,m1,m2⟩:=hpost.cell q (Zw y1);obtain⟨cur3,ty3,m3,_,m4⟩:=(afj hS hargs hrng hsrc').cell _ hpa;rw[y2,hb,k2]at m1;cases m1;rw[hb,k1]at m3;cases m3;have e1:=m2 _ hq;have e2:=m4 (i0- (paOf G w p).off) (by show _<p.2.2.length;omega);rw[y3,show(paOf G w p).off+(i0- (paOf G w p).off)=i0 from by omega]at e1;rw[show(paOf G w p).off+(i0- (paOf G w p).off)=i0 from by omega]at e2;rw[e1,e2,hr.2]
  ·refine k4 i0 (fun q hq hb=>?_);obtain⟨p,hpm,rfl⟩:=ZO.1 hq;obtain⟨n,hn⟩:=YG hpm;rcases ZY i0 (paOf G w p).off with d|d;exact .inl d
   ·refine .inr (Nat.le_of_not_lt fun d2=>c ⟨n,p,hn,hb,d,d2⟩)
 have main:∀ (nr:Option Nat) (hs:List Hv) (g':Gm),(∀ d,nr=some d->g (.meta_ d)=none/\hs=(res.flatMap aR).map fun l=>(⟨0,0,none,.own l⟩:Hv))->(nr=none->hs=[])->
  (∀ e,g' (.reg e)=g (.reg e))->(∀ r,g' (.meta_ r)=if nr=some r then some (.m hs.length false)else g (.meta_ r))->
  (∀ r j,g' (.leaf r j)=if nr=some r then(hs[j]?).map .h else match uP g pts ps' r j with
    |some x=>some (.h x.1)
    |none=>g (.leaf r j))->∃ G',aO cx G' g' a w'/\(∀ d,nr=some d->∀ j,G'.val d j=lv.getD j undef):=by
  intro nr hs g' hdn hnr hgr hgm hgl;have hlen:hs.length<=Ss.length:=by
   cases e:nr with
   |none=>rw[hnr e];simp
   |some d=>rw[(hdn d e).2,Y2,s2];exact Zf _
  have tokNF:∀ j,∀ b∈Ss.getD j [],b∈Sr:=fun j b hb=>by rw[<-s1];exact eS hb
  refine hS.callP (uP g pts ps') nr (fun d e=>(hdn d e).1) hs hnr w' g' hgr hgm hgl hpost.frame.os hpost.frame.tape hpost.frame.output hpost.frame.size ?_ ?_ ?_ ?_ (fun j=>lv.getD j undef) (fun j=>Ss.getD j []) ?_ ?_ ?_ ?_ ?_
  ·intro b hb h1 h2;refine Vy fun hne=>?_
   refine hne (hpost.frame.block b hb ⟨fun ho=>?_,fun ho=>?_⟩)
   ·obtain⟨r,j,x,h0,l,q1,q2,q3,q4⟩:=own_tok b ho;exact h1 r j x h0 l q1 q2 q3 q4
   ·obtain⟨p,hpm,off,q1,q2⟩:=zJ hS hp ho;obtain⟨n,hn⟩:=YG hpm;obtain⟨q,y1,y2,y3,y4,y5⟩:=at_ n p hn;by_cases c:∃ (n:Nat) (p:mX) (q:gF) (i:Nat) (l:L),pts[n]?=some p/\ps'[n]?=some q/\(paOf G w p).b=b/\q.hs[i]?=some (.own l)
    ·obtain⟨n,p,q,i,l,c1,c2,c3,c4⟩:=c;have hpm:=Zw c1;obtain⟨⟨b',off',h0⟩,_⟩:=hp p hpm;have hb':b'=b:=by simpa[paOf,h0]using c3
     subst hb';obtain⟨q',y1,y2,y3,y4,y5⟩:=at_ n p c1;rw[c2]at y1;cases y1;have hi:i<p.2.2.length:=by rw[<-y5];exact(ZF.1 c4).1
     obtain⟨_,hv,e1,e2⟩:=(hp p hpm).2.2 i _ (Zr hi);exact h2 p.1 (p.2.1+i) _ off' (uS.2 ⟨n,p,q,i,l,hv,c1,c2,rfl,rfl,hi,c4,e1,rfl⟩) h0
    ·exfalso;obtain⟨cur,cur',ty,k1,k2,k3,k4⟩:=hpost.blk b ho;refine hne ?_;rw[k1,k2];have:cur'=cur:=Array.ext_getElem? fun i=>cellSame b cur cur' ty ty k1 k2 k4 i (fun n p q i l z1 z2 z3 z4=>absurd ⟨n,p,q,i,l,z1,z2,z3,z4⟩ c)
     rw[this]
  ·intro r j x hx;obtain⟨n,p,q,i,l,hv,z1,z2,z3,z4,z5,z6,z7,rfl⟩:=uS.1 hx;obtain⟨m1,m2⟩:=hpost.own q (Zw z2) i l z6;exact⟨hv,l,z7,YE _,Nat.le_succ _,rfl,rfl,m1,m2⟩
  ·intro r j x hx;obtain⟨n,p,q,i,l,hv,z1,z2,z3,z4,z5,z6,z7,rfl⟩:=uS.1 hx;obtain⟨⟨b,off,h0⟩,_⟩:=hp p (Zw z1);exact⟨_,by rw[z3];exact h0⟩
  ·intro b r j x off hx hl;obtain⟨n,p,q,i,l,hv,z1,z2,z3,z4,z5,z6,z7,rfl⟩:=uS.1 hx;subst z3 z4;have hPt:sG (pts.map (paOf G w)) b:=⟨paOf G w p,ZO.2 ⟨p,Zw z1,rfl⟩,by simp[paOf,hl]⟩;obtain⟨cur,cur',ty,k1,k2,k3,k4⟩:=hpost.blk b hPt;refine⟨cur,cur',ty,k1,k2,k3,?_,?_⟩
   ·intro r' j' x' off' hx' hl';obtain⟨n',p',q',i',l',hv',z1',z2',rfl,rfl,z5',z6',z7',rfl⟩:=uS.1 hx';obtain⟨q'',y1,y2,y3,y4,y5⟩:=at_ n' p' z1';rw[z2']at y1;cases y1;obtain⟨cur2,ty2,m1,m2⟩:=hpost.cell q' (Zw z2');have hb:q'.b=b:=by rw[y2];simp[paOf,hl']
    have hoff:q'.off=off'+p'.2.1:=by rw[y3];simp[paOf,hl']
    rw[hb,k2]at m1;cases m1;have:=m2 i' Uc;rw[hoff]at this;rw[show off'+(p'.2.1+i')=off'+p'.2.1+i' from by omega];exact this
   ·intro i0 hi0;refine cellSame b cur cur' ty ty k1 k2 k4 i0 (fun n p q i l z1 z2 z3 z4=>?_);obtain⟨q',y1,y2,y3,y4,y5⟩:=at_ n p z1;rw[z2]at y1;cases y1;have hi:i<p.2.2.length:=by rw[<-y5];exact(ZF.1 z4).1
    have hpm:=Zw z1;obtain⟨⟨b',off',h0⟩,_⟩:=hp p hpm;have hb':b'=b:=by simpa[paOf,h0]using z3
    subst hb';obtain⟨_,hv,e1,e2⟩:=(hp p hpm).2.2 i _ (Zr hi);have:=hi0 p.1 (p.2.1+i) _ off' (uS.2 ⟨n,p,q,i,l,hv,z1,z2,rfl,rfl,hi,z4,e1,rfl⟩) h0;simp only[paOf,h0,Z0];omega
  ·intro j h hj;cases e:nr with
   |none=>rw[hnr e]at hj;simp at hj
   | some d=>
     rw[(hdn d e).2,ZD,ZB]at hj;obtain⟨l,e1,rfl⟩:=hj;obtain⟨u,q1,q2⟩:=s3 j l e1;exact⟨l,rfl,by simpa[Zv,q1]using q2,ie hnd j⟩
  ·intro b hb;have hb':b∈Sr\/nK ps' b:=by
    rcases hb with⟨j,_,hbj⟩|⟨r,j,x,hx,hbx⟩;exact .inl (tokNF j b hbj)
    ·obtain⟨n,p,q,i,l,hv,z1,z2,z3,z4,z5,z6,z7,rfl⟩:=uS.1 hx;exact .inr ⟨q,Zw z2,i,l,z6,hbx⟩
   obtain⟨k1,k2⟩:=hpost.tok b hb';refine⟨k1,?_⟩;rcases k2 with k2|k2;exact .inl k2;exact .inr (own_tok b k2)
  ·exact fun i j _ _ hij=>fF hnd i j hij
  ·intro i r j x _ hx b hb hbx;obtain⟨n,p,q,i',l,hv,z1,z2,z3,z4,z5,z6,z7,rfl⟩:=uS.1 hx;exact hpost.res.2 b (tokNF i b hb) ⟨q,Zw z2,i',l,z6,hbx⟩
  ·intro r j x r2 j2 x2 hx hx2 hne b hb;obtain⟨n,p,q,i,l,hv,z1,z2,rfl,rfl,z5,z6,z7,rfl⟩:=uS.1 hx;obtain⟨n',p',q',i',l',hv',z1',z2',rfl,rfl,z5',z6',z7',rfl⟩:=uS.1 hx2;refine hpost.disj n i n' i' q q' l l' z2 z2' z6 z6' (fun e=>?_) b hb;cases e;rw[z1]at z1';cases z1';exact hne rfl
 cases hd:o.dst with
 | none=>
   simp only[hd,Rd.Runs,Out.ws.injEq]at h;obtain⟨_,rfl⟩:=h;obtain⟨G',k1,_⟩:=main none [] (aT g ws) (fun d e=>by cases e) (fun _=>rfl) a1 (fun r=>by rw[a2];simp) (fun r j=>by rw[a4];simp);refine hk _ _ ⟨G',?_⟩
   simpa[YK]using k1
 | some d0=>
   simp only[hd]at h;obtain⟨d,ls3,hd',hlt,hm,h⟩:=cV h;cases hd';simp only[Rd.Runs,Out.ws.injEq]at h;obtain⟨_,rfl⟩:=h;refine hk _ _ ?_;rw[cr];simp only[dT,aT];obtain⟨G',k1,k2⟩:=main (some d0) ((res.flatMap aR).map fun l=>⟨0,0,none,.own l⟩) ((W.root d0 false ((res.flatMap aR).map fun l=>⟨0,0,none,.own l⟩)).app (aT g w1)) (fun d e=>by cases e;exact⟨hm,rfl⟩) (fun e=>by cases e)
    (fun e=>by simp only[W.app];exact a1 e)
    (fun r=>by
      simp only[W.app,Ya,eq_comm (a:=d0)];split;rfl
      ·exact a2 r)
    (fun r j=>by
      simp only[W.app,Ya,eq_comm (a:=d0)];split;rfl
      ·exact a4 r j)
   refine⟨G',k1.put hlt ?_⟩;have hgl:∀ i l,(res.flatMap aR)[i]?=some l->gl ((W.root d0 false ((res.flatMap aR).map fun l=>⟨0,0,none,.own l⟩)).app (aT g w1)) d0 (0+i)=some ⟨0,0,none,.own l⟩:=by
    intro i l e;simp[gl,W.app,e]
   have hval:∀ i u,lv[i]?=some u->G'.val d0 (0+i)=u:=by
    intro i u e;rw[k2 d0 rfl,Zx];simp[Zv,e]
   have hall:=rL (G:=G') res 0 vs lv Sr hlv (fun i l e=>⟨none,hgl i l e⟩) hval;rcases hv with⟨dv,rfl,rfl⟩|⟨rfl,hne⟩
   ·simp only[jc];simp only[mQ,jo]at hall;obtain⟨v',vs',e,h1,_⟩:=hall;cases e;exact h1
   ·have:jc d0 res=.tup (mQ d0 0 res):=by
     unfold jc;split;exact absurd rfl (hne _);rfl
    rw[this];simp only[cW];exact⟨vs,rfl,hall⟩
def FM {f:FuncId}{ts:Array TypeId}{args:Array Operand}(ho:o.op=.call {callee:=.value (.func f),args:=args,argTypes:=ts})(hS:aO cx G g a w){isP:TypeId->Bool}{mk:PK} 
 (hc:∀ ds pre outs res,mk ds=some (pre,outs,res)->pre ()->Eo P f ds outs res)
 (h:(wK pv f9 (oO P) (Kq P) isP cx.n o.dst (eh P f) ts args mk dT).Runs g ls (.ws ws))
 (hk:∀ a' w',fC cx (aT g ws) a' w'->K a' w'):o.wp P a w K Q:=by
 unfold wK at h;split at h
 case isFalse=>exact h.elim
 rename_i hbody;obtain⟨ds,srcs,pts,ls1,hargs,h⟩:=rH hS _ _ _ _ _ h;have hex:(execOp a.eval o).run P w=.ok (.enter f (args.toList.map a.eval).toArray) w:=by
  have harr:(args.toList.map a.eval).toArray=args.map a.eval:=by rw[<-Yx,Yy]
  rw[harr];unfold execOp;simp only[ho,resolve,XL,Xb,ZQ,Yi,Z2,invoke,Xc,XM];exact gI hbody _
 exact xB hS hargs hex hc h hk
def AW {α:Type}:List HQ->(List DV->List mX->Rd α)->Rd α
 |[],k=>k [] []
 | .pt r j::cs,k=>.get (.meta_ r) fun
   |some (.m n true)=>if j<n then oD r j (n-j) fun hs=>AW cs fun ds pts=>k (.mp hs::ds) ((r,j,hs)::pts)else .fail
   |_=>.fail
 | .rp rec j::cs,k=>if j<rec.length then AW cs fun ds pts=>k (.ptr (rec.drop j)::ds) pts else .fail
def sB (pr:(Unit->Prop)->Prop)(al:∀ {β:Type},List (Option Nat)->List A->(ax->Rd β)->Rd β)(ty pty:TypeId->Option TI)(isP:TypeId->Bool)(n:Nat)(d:Option Tmp)(body:FuncId->Bool)(t:Tmp)(ts:Array TypeId)(args:Array Operand)(pt:FuncId->Option PK)(rw:Nat->List DV->List W):Rd Out:=
 gT (.tmp t) fun
  | .fn f caps=>match pt f with
    |some mk=>if body f then uW al ty pty isP ts.toList args.toList fun ds srcs pts=>AW caps fun ds2 pts2=>Hk pr n d (ds++ds2) srcs (pts++pts2) mk rw else .fail
    |none=>.fail
  |_=>.fail
def wS.append {ds es:List DV}{srcs src2:List (Nat×Nat)}{pts pts2:List mX}{vs us:List Value}(h:wS G g w ds srcs pts vs)(k:wS G g w es src2 pts2 us):wS G g w (ds++es) (srcs++src2) (pts++pts2) (vs++us):=by
 induction h with
 |nil=>exact k
 |dat hd h ht hs ih=>rw[Zj];exact wS.dat hd h ht ih
 |ptr h h0 hs ih=>exact wS.ptr h h0 ih
def q9 (hS:aO cx G g a w){α:Type}:∀ (cs:List HQ) (ps:List Value) (k:List DV->List mX->Rd α) (ls:List Loc) (out:α),fe G w cs ps->(AW cs k).Runs g ls out->
 ∃ ds pts ls',wS G g w ds [] pts ps/\(k ds pts).Runs g ls' out
 |[],ps,k,ls,out,hc,h=>by simp only[fe]at hc;subst hc;exact⟨[],[],ls,.nil,h⟩
 | .pt r j::cs,ps,k,ls,out,hc,h=>by
   obtain⟨v,vs',rfl,⟨b,off,h0,rfl⟩,hc⟩:=hc;obtain⟨ls1,_,h⟩:=h;simp only at h;split at h
   ·split at h
    ·rename_i hlt;obtain⟨hs,ls2,e1,e2,h⟩:=pT _ _ _ _ _ h;obtain⟨ds,pts,ls3,k1,k2⟩:=q9 hS cs vs' _ _ _ hc h;refine⟨_,_,ls3,wS.ptr (p:=(r,j,hs)) (b:=b) (off:=off) ⟨⟨b,off,h0⟩,?_,e2⟩ h0 k1,k2⟩;show 0<hs.length;omega
    ·exact h.elim
   ·exact h.elim
 | .rp rec j::cs,ps,k,ls,out,hc,h=>by
   obtain⟨v,vs',rfl,⟨b,off,cur,ty,fz,S,rfl,q1,q2,q3,q4,q5⟩,hc⟩:=hc;simp only[AW]at h;split at h
   ·rename_i hlt;obtain⟨ds,pts,ls3,k1,k2⟩:=q9 hS cs vs' _ _ _ hc h;obtain⟨S1,r1,r2⟩:=q4.sub j (rec.length-j);have hd:(rec.drop j).take (rec.length-j)=rec.drop j:=List.take_of_length_le (by simp);rw[hd]at r1;have e:(cur.toList.drop (off+j)).take (rec.drop j).length=(((cur.toList.drop off).take rec.length).drop j).take (rec.length-j):=by
     rw[YL,YV,Ye,Zz,Nat.min_self]
    have hrd:qP w (.ptr (rec.drop j)) (.pointer (some ⟨b,off+j,none⟩)) (b::S1):=⟨b,off+j,cur,ty,fz,S1,rfl,q1,by simp;omega,by rw[e];exact r1,rfl⟩;refine⟨_,_,ls3,wS.dat (src:=[]) (S:=b::S1) (fun hs=>by simp) hrd (fun c hcb=>?_) k1,k2⟩;rcases Zk.1 hcb with rfl|hcb;exact .inl q2;exact .inl (q5 c (r2 c hcb))
   ·exact h.elim
def Db {t:Tmp}{ts:Array TypeId}{args:Array Operand}(ho:o.op=.call {callee:=.value (.tmp t),args:=args,argTypes:=ts})(hS:aO cx G g a w){isP:TypeId->Bool}{pt:FuncId->Option PK} 
 (hc:∀ f mk,pt f=some mk->∀ ds pre outs res,mk ds=some (pre,outs,res)->pre ()->Eo P f ds outs res)
 (h:(sB pv f9 (oO P) (Kq P) isP cx.n o.dst (eh P) t ts args pt dT).Runs g ls (.ws ws))
 (hk:∀ a' w',fC cx (aT g ws) a' w'->K a' w'):o.wp P a w K Q:=by
 obtain⟨x0,ls1,hx,h⟩:=bA hS h;cases x0 with
 | fn f caps=>
   obtain⟨ps,e,hcap⟩:=hx;simp only at h;split at h
   case h_2=>exact h.elim
   rename_i mk hmk;split at h
   case isFalse=>exact h.elim
   rename_i hbody;obtain⟨ds,srcs,pts,ls2,hargs,h⟩:=rH hS _ _ _ _ _ h;obtain⟨ds2,pts2,ls3,hcaps,h⟩:=q9 hS _ _ _ _ _ hcap h;have hall:=hargs.append hcaps;rw[Yb]at hall;have hex:(execOp a.eval o).run P w=.ok (.enter f (args.toList.map a.eval++ps).toArray) w:=by
    have harr:(args.toList.map a.eval++ps).toArray=args.map a.eval++ps.toArray:=by rw[<-List.append_toArray, <-Yx,Yy]
    rw[harr];unfold execOp;simp only[ho,resolve,e,Xb,ZQ,Yi,Z2,invoke,Xc];exact gI hbody _
   exact xB hS hall hex (hc f mk hmk) h hk
 |_=>exact h.elim
end
end Go.V
namespace Go.V
def acF (X:Nat->Prop)(w:World):H->Value->Prop
 | .own l,v=>bN w l v []
 | .ro l,v=>∃ S,bN w l v S/\∀ c∈S,X c
 | .gone,_=>True
def acG (P:Program)(f:FuncId)(ds:List DV)(hs:List H):Prop:=
 ∀ (X:Nat->Prop) (w:World) (vs:List Value),gR X w ds vs->
  Calls P f vs.toArray w fun e w'=>∃ b off cur ty,∃ val:Nat->Value,e=.returned (.pointer (some ⟨b,off,none⟩))/\w.heap.size<=b/\w'.heap[b]?=some (.cells cur ty (0,0))/\off+hs.length<=cur.size/\
   (∀ j,j<hs.length->cur[off+j]?=some (val j))/\(∀ j h,hs[j]?=some h->acF X w' h (val j))/\Same (fun _=>True) w w'
abbrev NK :=List DV->Option ((Unit->Prop)×List H)
section
variable {P: Program} {o: Oper} {cx: Cx} {G: Gh} {g: Gm} {a: Act} {w: World} {ls: List Loc} {ws: List W} {K: Act -> World -> Prop} {Q: Exit -> Act -> World -> Prop}
end
end Go.V
namespace Go.V
open Go.MapKept
def eU:ab->Int->Option (Nat×Value)
 |[],_=>none
 |[.v (.int _ k),.v x]::l,n=>if k=n then some (0,x)else(eU l n).map fun p=>(p.1+1,p.2)
 |_::_,_=>none
def mgbI (es:ab)(n:Int):Bool:=match eU es n with
 |some (_,.bool b)=>b
 |_=>false
def jM (es:ab)(n:Int):Int:=match eU es n with
 |some (_,.int _ i)=>i
 |_=>0
def pu (es:ab)(n:Int)(l:L):ab:=match eU es n with
 |some (j,_)=>es.set j [.i n,l]
 |none=>es++[[.i n,l]]
def uV:Bool->Value
 |true=>.bool false
 |false=>.int Za 0
def Fb (P:Program)(t:TypeId):Option Bool:=match P.underlying t with
 | some (.map kt et)=>match P.underlying kt,P.info? et with
   | some (.int Za),some i=>match i.zero with
     |some (.bool false)=>some true
     |some (.int Za 0)=>some false
     |_=>none
   |_,_=>none
 |_=>none
section
variable {P: Program} {w: World}
def uT {t:TypeId}{kb:Bool}(h:Fb P t=some kb):∃ kt et,P.underlying t=some (.map kt et)/\P.underlying kt=some (.int Za)/\(zeroValue et).run P w=.ok (uV kb) w:=by
 unfold Fb at h;split at h
 ·rename_i kt et hm;split at h
  ·rename_i i hk hi;split at h
   ·rename_i hz;cases h;exact⟨kt,et,hm,hk,by simp[zeroValue,typeInfo,hi,hz,uV]⟩
   ·rename_i hz;cases h;exact⟨kt,et,hm,hk,by simp[zeroValue,typeInfo,hi,hz,uV]⟩
   ·cases h
  ·cases h
 ·cases h
def eW.find {kb:Bool}{n:Int}:∀ {l:List MapEntry} {es:ab} (i:Nat),eW kb l es->WY (.int Za) (.int Za n) l i=some ((eU es n).map fun p=>(i+p.1,p.2))
 |[],es,i,h=>by simp only[eW]at h;subst h;rfl
 | e::l,es,i,h=>by
   obtain⟨k,r,rfl,hk,hm,h⟩:=h;have ih:=eW.find (n:=n) (i+1) h;simp only[WY,hk,Instr.sameNow,if_true,eU];by_cases c:k=n
   ·subst c;simp
   ·have:(n==k)=false:=by simpa using fun e=>c e.symm
    simp only[this,VF c,ih,Option.map_map]
    congr 2
    funext p
    simp only[Vz]
    congr 1;omega
def eW.keys {kb:Bool}:∀ {l:List MapEntry} {es:ab},eW kb l es->∀ x∈l,IsKey (.int Za) x.key/\LF kb x.val=true
 |[],es,h,x,hx=>by cases hx
 | e::l,es,h,x,hx=>by
   obtain⟨k,r,rfl,hk,hm,h⟩:=h;rcases Zk.1 hx with rfl|hx
   ·rw[hk];exact⟨rfl,hm⟩
   ·exact eW.keys h x hx
def eW.at {kb:Bool}{n:Int}:∀ {l:List MapEntry} {es:ab},eW kb l es->∀ j x,eU es n=some (j,x)->∃ e,l[j]?=some e/\e.key=.int Za n/\e.val=x
 |[],es,h,j,x,hf=>by simp only[eW]at h;subst h;cases hf
 | e::l,es,h,j,x,hf=>by
   obtain⟨k,r,rfl,hk,hm,h⟩:=h;simp only[eU]at hf;split at hf
   ·rename_i c;subst c;cases hf;exact⟨e,rfl,hk,rfl⟩
   ·simp only[ZB]at hf;obtain⟨⟨j',x'⟩,hf,e2⟩:=hf;cases e2;obtain⟨e',q1,q2⟩:=eW.at h j' x' hf;exact⟨e',by simpa using q1,q2⟩
def eW.none {kb:Bool}{n:Int}:∀ {l:List MapEntry} {es:ab},eW kb l es->eU es n=Xo->∀ x∈l,x.key≠ .int Za n
 |[],es,h,hf,x,hx=>by cases hx
 | e::l,es,h,hf,x,hx=>by
   obtain⟨k,r,rfl,hk,hm,h⟩:=h;simp only[eU]at hf;split at hf
   ·cases hf
   ·rename_i c;simp only[Option.map_eq_none_iff]at hf;rcases Zk.1 hx with rfl|hx
    ·rw[hk];intro q;cases q;exact c rfl
    ·exact eW.none h hf x hx
def eW.push {kb:Bool}{e:MapEntry}{n:Int}(he:e.key=.int Za n)(hv:LF kb e.val=true):∀ {l:List MapEntry} {es:ab},eW kb l es->eW kb (l++[e]) (es++[[.i n,.v e.val]])
 |[],es,h=>by simp only[eW]at h;subst h;exact⟨n,[],rfl,he,hv,rfl⟩
 | e0::l,es,h=>by
   obtain⟨k,r,rfl,hk,hm,h⟩:=h;exact⟨k,_,rfl,hk,hm,eW.push he hv h⟩
def eW.set {kb:Bool}{e:MapEntry}{n:Int}(he:e.key=.int Za n)(hv:LF kb e.val=true):∀ {l:List MapEntry} {es:ab} (j:Nat),eW kb l es->eW kb (l.set j e) (es.set j [.i n,.v e.val])
 |[],es,j,h=>by simp only[eW]at h;subst h;simp[eW]
 | e0::l,es,j,h=>by
   obtain⟨k,r,rfl,hk,hm,h⟩:=h;cases j with
   |zero=>exact⟨n,r,rfl,he,hv,h⟩
   |succ j=>exact⟨k,_,rfl,hk,hm,eW.set he hv j h⟩
def eW.kind {kb:Bool}{n:Int}{l:List MapEntry}{es:ab}(h:eW kb l es):(match eU es n with|some (_,x)=>x|Xo=>uV kb)=(if kb then .bool (mgbI es n)else .int Za (jM es n)):=by
 unfold mgbI jM;cases hf:eU es n with
 |none=>cases kb<;>rfl
 | some p=>
   obtain⟨j,x⟩:=p;obtain⟨e,q1,q2,q3⟩:=h.at j x hf;have hk:=(h.keys e (Zw q1)).2;rw[q3]at hk;cases kb<;>cases x<;>simp_all [LF]
   rename_i k i;cases k<;>simp_all [LF]
def Iy {t:TypeId}{kb:Bool}(ht:Fb P t=some kb){b:Nat}{ents:Array MapEntry}{clock:Nat}(hb:w.heap[b]?=some (.map ents clock)){es:ab}(hr:eW kb ents.toList es)(n:Int):
 (Wo t (.map (some b)) (.int Za n) false).run P w=.ok (if kb then .bool (mgbI es n)else .int Za (jM es n)) w:=by
 obtain⟨kt,et,hm,hk,hz⟩:=uT (w:=w) ht;have hf:=eW.find (n:=n) 0 hr;rw[<-hr.kind];cases hmf:eU es n with
 | none=>
   rw[hmf]at hf;simp[Wo,run_underlying hm,YY hb,Xd hk (k:=.int Za n) rfl,Xe hk hf,hz,Z6]
 | some p=>
   rw[hmf]at hf;simp[Wo,run_underlying hm,YY hb,Xd hk (k:=.int Za n) rfl,Xe hk hf,Z6]
def I6 {t:TypeId}{kb:Bool}(ht:Fb P t=some kb){b:Nat}{ents:Array MapEntry}{clock:Nat}(hb:w.heap[b]?=some (.map ents clock))(hs:Stamped ents clock){es:ab}(hr:eW kb ents.toList es)(n:Int){x:Value}(hx:LF kb x=true):
 ∃ ents' clock',(Wp t (.map (some b)) (.int Za n) x).run P w=.ok () {w with heap:=w.heap.setIfInBounds b (.map ents' clock')}/\Stamped ents' clock'/\eW kb ents'.toList (pu es n (.v x)):=by
 obtain⟨kt,et,hm,hk,_⟩:=uT (w:=w) ht;have hf:=eW.find (n:=n) 0 hr;unfold pu;cases hmf:eU es n with
 | none=>
   rw[hmf]at hf;refine⟨ents.push {key:=.int Za n,val:=x,born:=clock},clock+1,?_,stamped_push hs (hr.none hmf),?_⟩
   ·simp[Wp,run_underlying hm,YY hb,Xd hk (k:=.int Za n) rfl,Xe hk hf,Xu _ hb,Z6]
   ·simpa using hr.push (e:={key:=.int Za n,val:=x,born:=clock}) rfl hx
 | some p=>
   obtain⟨j,y⟩:=p;rw[hmf]at hf;obtain⟨e,q1,q2,q3⟩:=hr.at j y hmf;have hj:ents[j]?=some e:=by simpa using q1
   have hlt:j<ents.size:=(ZE.1 hj).1;refine⟨ents.modify j fun e=>{e with key:=.int Za n,val:=x},clock,?_,?_,?_⟩
   ·simp[Wp,run_underlying hm,YY hb,Xd hk (k:=.int Za n) rfl,Xe hk hf,hj,q2,WZ (d:=.int Za) (k:=.int Za n) rfl,Xu _ hb,Z6]
   ·exact stamped_modify hs _ _ (fun _ _=>rfl) (fun e' _ he'=>by rw[hj]at he';cases he';exact q2.symm)
   ·have:(ents.modify j fun e=>{e with key:=.int Za n,val:=x}).toList=ents.toList.set j {e with key:=.int Za n,val:=x}:=by
     apply ZN;intro i;simp only[Z1,YM,XB];by_cases c:j=i
     ·subst c;have:=(ZE.1 hj).2;simp[hlt,this]
     ·simp[c]
    rw[this];exact hr.set (e:={e with key:=.int Za n,val:=x}) rfl hx j
def GT (es:ab)(n:Int):Bool->Value
 |true=>.bool (mgbI es n)
 |false=>.int Za (jM es n)
def KX {t:TypeId}{kb:Bool}(ht:Fb P t=some kb){b:Nat}{ents:Array MapEntry}{clock:Nat}(hb:w.heap[b]?=some (.map ents clock))(hs:Stamped ents clock){es:ab}(hr:eW kb ents.toList es)(n:Int):
 ∃ (ents':Array MapEntry) (clock' i:Nat) (e:MapEntry),(Wq t (.map (some b)) (.int Za n)).run P w=.ok (.tuple #[GT es n kb,goInt e.born]) {w with heap:=w.heap.setIfInBounds b (.map ents' clock')}/\Stamped ents' clock'/\eW kb ents'.toList (pu es n (.v (GT es n kb)))/\ents'[i]?=some e/\e.key=.int Za n:=by
 obtain⟨kt,et,hm,hk,hz⟩:=uT (w:=w) ht;have hf:=eW.find (n:=n) 0 hr;have hc:GT es n kb=(match eU es n with|some (_,x)=>x|Xo=>uV kb):=by
  rw[hr.kind];cases kb<;>rfl
 unfold pu;cases hmf:eU es n with
 | none=>
   rw[hmf]at hf hc;simp only at hc;have hx:LF kb (uV kb)=true:=by cases kb<;>rfl
   refine⟨ents.push {key:=.int Za n,val:=uV kb,born:=clock},clock+1,ents.size,{key:=.int Za n,val:=uV kb,born:=clock},?_,stamped_push hs (hr.none hmf),?_,by simp,rfl⟩
   ·rw[hc];simp[Wq,run_underlying hm,YY hb,Xd hk (k:=.int Za n) rfl,Xe hk hf,hz,Xu _ hb,Z6]
   ·rw[hc]
    simpa using hr.push (e:={key:=.int Za n,val:=uV kb,born:=clock}) rfl hx
 | some p=>
   obtain⟨j,y⟩:=p;rw[hmf]at hf hc;simp only at hc;obtain⟨e,q1,q2,q3⟩:=hr.at j y hmf;have hj:ents[j]?=some e:=by simpa using q1
   have hlt:j<ents.size:=(ZE.1 hj).1;refine⟨ents.modify j fun e=>{e with key:=.int Za n},clock,j,{e with key:=.int Za n},?_,?_,?_,?_,rfl⟩
   ·rw[hc];simp[Wq,run_underlying hm,YY hb,Xd hk (k:=.int Za n) rfl,Xe hk hf,hj,q2,WZ (d:=.int Za) (k:=.int Za n) rfl,Xu _ hb,Z6]
   ·exact stamped_modify hs _ _ (fun _ _=>rfl) (fun e' _ he'=>by rw[hj]at he';cases he';exact q2.symm)
   ·have:(ents.modify j fun e=>{e with key:=.int Za n}).toList=ents.toList.set j {e with key:=.int Za n}:=by
     apply ZN;intro i;simp only[Z1,YM,XB];by_cases c:j=i
     ·subst c;have:=(ZE.1 hj).2;simp[hlt,this]
     ·simp[c]
    rw[this,hc];have hv:LF kb e.val=true:=(hr.keys e (Zw q1)).2;subst q3;exact hr.set (e:={e with key:=.int Za n}) (n:=n) rfl hv j
   ·simp[YM,hj]
def PY {es:ab}{n:Int}:∀ {l:List MapEntry} {kb:Bool},eW kb l es->(l.map (·.key)).Nodup->∀ {i:Nat} {e:MapEntry},l[i]?=some e->e.key=.int Za n->eU es n=some (i,e.val):=by
 intro l kb hr hn i e hi hk;cases hmf:eU es n with
 |none=>exact absurd hk (hr.none hmf e (Zw hi))
 | some p=>
   obtain⟨j,y⟩:=p;obtain⟨e2,q1,q2,q3⟩:=hr.at j y hmf;have hj:(l.map (·.key))[j]?=some (.int Za n):=by rw[ZD,q1];simp[q2]
   have hi':(l.map (·.key))[i]?=some (.int Za n):=by rw[ZD,hi];simp[hk]
   have hlt:j<(l.map (·.key)).length:=(ZF.1 hj).1;have e1:j=i:=(W0 hlt hn).1 (hj.trans hi'.symm);subst e1;rw[hi]at q1;cases q1;rw[q3]
def A4 {t:TypeId}{kb:Bool}{b:Nat}{ents:Array MapEntry}{clock:Nat}(hb:w.heap[b]?=some (.map ents clock))(hs:Stamped ents clock){es:ab}(hr:eW kb ents.toList es){n:Int}{i:Nat}{e:MapEntry}(hi:ents[i]?=some e)(hk:e.key=.int Za n){x:Value}(hx:LF kb x=true):
 ∃ ents':Array MapEntry,(W1 t (.map (some b)) (goInt e.born) x).run P w=.ok () {w with heap:=w.heap.setIfInBounds b (.map ents' clock)}/\Stamped ents' clock/\eW kb ents'.toList (pu es n (.v x)):=by
 have hi':ents.toList[i]?=some e:=by simpa using hi
 have hlt:i<ents.size:=(ZE.1 hi).1;have hmf:=PY hr hs.2.2 hi' hk;have hidx:ents.findIdx? (fun e'=>(e'.born:Int)==(e.born:Int))=some i:=by
  rw[Array.findIdx?_eq_some_iff_getElem];refine⟨hlt,?_,fun j hj=>?_⟩
  ·have:=(ZE.1 hi).2;simp[this]
  ·intro hq;simp only[beq_iff_eq,Int.ofNat_inj]at hq;have hjl:j<ents.size:=by omega
   have h1:(ents.toList.map (·.born))[j]?=some e.born:=by rw[ZD];simp[hjl,hq]
   have h2:(ents.toList.map (·.born))[i]?=some e.born:=by rw[ZD,hi'];rfl
   have:=(W0 (by simpa using hjl) hs.2.1).1 (h1.trans h2.symm);omega
 refine⟨ents.modify i fun e=>{e with val:=x},?_,?_,?_⟩
 ·simp[W1,YY hb,goInt,asInt,asIntOf,hidx,Xu _ hb,Z6]
 ·exact stamped_modify hs _ _ (fun _ _=>rfl) (fun e' _ _=>rfl)
 ·have:(ents.modify i fun e=>{e with val:=x}).toList=ents.toList.set i {e with val:=x}:=by
   apply ZN;intro j;simp only[Z1,YM,XB];by_cases c:i=j
   ·subst c;have:=(ZE.1 hi).2;simp[hlt,this]
   ·simp[c]
  rw[this];unfold pu;rw[hmf];exact hr.set (e:={e with val:=x}) hk hx i
end
end Go.V
namespace Go.V
open Go.MapKept
def pm (mp:TypeId->Option Bool)(n:Nat)(d:Option Tmp)(t:TypeId)(res:Option Operand):Rd Out:=
 match res with
 |some _=>.fail
 | none=>match mp t with
   |none=>.fail
   |some kb=>fresh n d fun d=>.ret (.ws [.root d false [⟨0,0,none,.own (.m kb [])⟩],.reg d (.one (.mv d 0 0))])
def sC (mgb:ab->Int->Bool)(mgi:ab->Int->Int)(mp:TypeId->Option Bool)(n:Nat)(d:Option Tmp)(t:TypeId)(x i:Operand)(ok:Bool):Rd Out:=
 match ok with
 |true=>.fail
 | false=>match mp t with
   |none=>.fail
   | some kb=>gT x fun
     | .mv r j ver=>k8 i fun k m=>if k==.i64 then ig r j fun h=>match h.c with
       | .own (.m kb' es)=>if h.ver==ver&&kb'==kb then bE n d (.one (.v (match kb with
          |true=>.bool (mgb es m)
          |false=>.int Za (mgi es m))))else .fail
       |_=>.fail else .fail
     |_=>.fail
def sD (mu:ab->Int->L->ab)(mp:TypeId->Option Bool)(t:TypeId)(m k v:Operand):Rd Out:=
 match mp t with
 |none=>.fail
 | some kb=>gT m fun
   | .mv r j ver=>k8 k fun kd i=>if kd==.i64 then gT v fun
     | .v x=>if LF kb x then ig r j fun h=>match h.c with
       | .own (.m kb' es)=>if h.ver==ver&&kb'==kb then .ret (.ws [.leaf r j ⟨h.ver,h.iv+1,h.org,.own (.m kb (mu es i (.v x)))⟩])else .fail
       |_=>.fail else .fail
     |_=>.fail else .fail
   |_=>.fail
def lH (mgb:ab->Int->Bool)(mgi:ab->Int->Int)(mu:ab->Int->L->ab)(mp:TypeId->Option Bool)(n:Nat)(d:Option Tmp)(t:TypeId)(m k:Operand):Rd Out:=
 match mp t,d with
 | some kb,some d=>if d<n then gT m fun
    | .mv r j ver=>k8 k fun kd i=>if kd==.i64 then ig r j fun h=>match h.c with
      | .own (.m kb' es)=>if h.ver==ver&&kb'==kb then(match kb with
         |true=>.ret (.ws [.leaf r j ⟨h.ver,h.iv+1,h.org,.own (.m true (mu es i (.v (.bool (mgb es i)))))⟩,.reg d (.tup [.k (mgb es i),.one (.st r j h.ver (h.iv+1) i)])])
         |false=>.ret (.ws [.leaf r j ⟨h.ver,h.iv+1,h.org,.own (.m false (mu es i (.i (mgi es i))))⟩,.reg d (.tup [.j (mgi es i),.one (.st r j h.ver (h.iv+1) i)])]))else .fail
      |_=>.fail else .fail
    |_=>.fail else .fail
 |_,_=>.fail
def iu (mu:ab->Int->L->ab)(mp:TypeId->Option Bool)(t:TypeId)(m s x:Operand):Rd Out:=
 match mp t with
 |none=>.fail
 | some kb=>gT m fun
   | .mv r j ver=>gT s fun
     | .st r2 j2 ver2 iv2 i=>gT x fun
       | .v y=>if LF kb y then ig r j fun h=>match h.c with
         | .own (.m kb' es)=>if h.ver==ver&&kb'==kb&&r2==r&&j2==j&&jm h ver2 iv2 then .ret (.ws [.leaf r j ⟨h.ver,h.iv+1,h.org,.own (.m kb (mu es i (.v y)))⟩])else .fail
         |_=>.fail else .fail
       |_=>.fail
     |_=>.fail
   |_=>.fail
section
variable {P: Program} {o: Oper} {cx: Cx} {G: Gh} {g: Gm} {a: Act} {w: World} {ls: List Loc} {ws: List W} {K: Act -> World -> Prop} {Q: Exit -> Act -> World -> Prop}
def Cc {t:TypeId}{res:Option Operand}(ho:o.op=.makeMap t res)(hS:aO cx G g a w)(h:(pm (Fb P) cx.n o.dst t res).Runs g ls (.ws ws)) 
 (hk:∀ a' w',fC cx (aT g ws) a' w'->K a' w'):o.wp P a w K Q:=by
 unfold pm at h;split at h
 ·exact h.elim
 ·split at h
  ·exact h.elim
  ·rename_i kb hmp;obtain⟨d,ls2,hd,hlt,hm,h⟩:=cV h;simp only[Rd.Runs,Out.ws.injEq]at h;obtain⟨_,rfl⟩:=h;have hnew:=heap_alloc_new w (.map #[] 0);obtain⟨G',k1,k2,_⟩:=hS.newRoot hm false [⟨0,0,none,.own (.m kb [])⟩] (w.alloc (.map #[] 0)) (qb w _) (fun _=>.map (some w.heap.size)) (fun _=>[w.heap.size])
    (by
      intro j hv hj;cases j with
      |succ j=>simp at hj
      | zero=>
        simp at hj;subst hj;simp only[KS];refine⟨⟨w.heap.size, #[],0,rfl,hnew,stamped_empty 0,rfl,rfl⟩,by simp,fun b hb=>?_⟩;simp only[Zk,Yv,or_false]at hb;subst hb;exact⟨.inr ⟨_,_,hnew⟩,.inl (Zf _)⟩)
    (by
      intro j hv hj;cases j with
      |succ j=>simp at hj
      |zero=>simp at hj;subst hj;exact fg.none)
    (fun i j hi hj hij=>by simp at hi hj;omega) 0 0 (by simp)
   refine dM (v:=.map (some w.heap.size)) (w':=w.alloc (.map #[] 0)) ?_ (hk _ _ ?_)
   ·unfold execOp;simp[ho,Instr.makeMap,Z6]
   ·simp only[aT];rw[hd];refine⟨G',k1.put hlt ?_⟩;simp only[cW,iC];exact⟨⟨0,0,none,.own (.m kb [])⟩,by simp[gl,W.app],Zf _,fun _ kb' es' _=>(k2 0).symm⟩
def Dc {t:TypeId}{x i:Operand}{ok:Bool}(ho:o.op=.lookup t x i ok)(hS:aO cx G g a w)(h:(sC mgbI jM (Fb P) cx.n o.dst t x i ok).Runs g ls (.ws ws)) 
 (hk:∀ a' w',fC cx (aT g ws) a' w'->K a' w'):o.wp P a w K Q:=by
 unfold sC at h;split at h
 ·exact h.elim
 ·split at h
  ·exact h.elim
  ·rename_i kb hmp;obtain⟨x0,ls1,hx,h⟩:=bA hS h;cases x0 with
   | mv r j ver=>
     obtain⟨kd,n,ls2,hi,h⟩:=eR hS h;split at h
     case isFalse=>exact h.elim
     rename_i hkd;simp only[beq_iff_eq]at hkd;subst hkd;obtain⟨hv,ls3,q1,q2,h⟩:=bB h;split at h
     case h_2=>exact h.elim
     rename_i kb' es hc;split at h
     case isFalse=>exact h.elim
     rename_i hb;simp only[Zc,beq_iff_eq]at hb;obtain⟨hb,rfl⟩:=hb;obtain⟨h2,f1,f2,f3⟩:=hx;rw[q1]at f1;cases f1;have e:=f3 hb _ _ hc;have hok:=hS.hok q1;simp only[ew,hc,bN]at hok;obtain⟨⟨b,ents,clock,g1,g2,g3,g4,g5⟩,_⟩:=hok;refine bc hS h (v:=if kb' then .bool (mgbI es n)else .int Za (jM es n)) (by cases kb'<;>simp[cW,iC]) ?_ hk;unfold execOp;simp[ho,e,g1,hi,Iy hmp g2 g4 n]
   |_=>exact h.elim
def De {t:TypeId}{m k v:Operand}(ho:o.op=.mapUpdate t m k v)(hdst:o.dst=none)(hS:aO cx G g a w)(h:(sD pu (Fb P) t m k v).Runs g ls (.ws ws)) 
 (hk:∀ a' w',fC cx (aT g ws) a' w'->K a' w'):o.wp P a w K Q:=by
 unfold sD at h;split at h
 ·exact h.elim
 ·rename_i kb hmp;obtain⟨x0,ls1,hx,h⟩:=bA hS h;cases x0 with
  | mv r j ver=>
    obtain⟨kd,n,ls2,hi,h⟩:=eR hS h;split at h
    case isFalse=>exact h.elim
    rename_i hkd;simp only[beq_iff_eq]at hkd;subst hkd;obtain⟨y,ls3,hy,h⟩:=bA hS h;cases y with
    | v y=>
      simp only at h;split at h
      case isFalse=>exact h.elim
      rename_i hmk;obtain⟨hv,ls4,q1,q2,h⟩:=bB h;split at h
      case h_2=>exact h.elim
      rename_i kb' es hc;split at h
      case isFalse=>exact h.elim
      rename_i hb;simp only[Zc,beq_iff_eq]at hb;obtain⟨hb,rfl⟩:=hb;simp only[Rd.Runs,Out.ws.injEq]at h;obtain⟨_,rfl⟩:=h;obtain⟨h2,f1,f2,f3⟩:=hx;rw[q1]at f1;cases f1;have e:=f3 hb _ _ hc;have hok:=hS.hok q1;simp only[ew,hc,bN]at hok;obtain⟨⟨b,ents,clock,g1,g2,g3,g4,g5⟩,hnd,htok⟩:=hok;have hy:a.eval v=y:=hy;obtain⟨ents',clock',u1,u2,u3⟩:=I6 hmp g2 g3 g4 n hmk;have hset:=W2 (o':=W5 ents' clock') g2;have hbb:b∈G.fp r j:=by rw[g5];simp
      have hob:=(htok b hbb).1;obtain⟨G',k1,_⟩:=hS.upd q2 ⟨hv.ver,hv.iv+1,hv.org,.own (.m kb' (pu es n (.v y)))⟩ (G.val r j) (G.fp r j) {w with heap:=w.heap.setIfInBounds b (.map ents' clock')}
       (.inr ⟨rfl,YE _,rfl,.inr ⟨kb',es,_,hc,rfl⟩⟩) rfl rfl rfl (by simp)
       (fun c _ _ h3=>hset.2 c (fun e=>h3 _ hc (e▸hbb)))
       (fun c off hl=>by
         obtain⟨kk,hk2⟩:=hS.noloc r _ hl;obtain⟨b',off',cur,ty,m1,m2,m3,m4,m5⟩:=hS.boxes r kk hk2;rw[hl]at m1;cases m1;have hne:c≠b:=by intro e;subst e;rw[hob]at m2;cases m2
         refine⟨cur,cur,ty,m3,by rw[hset.2 c hne];exact m3,rfl,fun hlt=>?_,fun _ _=>rfl⟩;obtain⟨_,k3,bx,_,e3,e4,_⟩:=hS.leaf r j _ q2;rw[hk2]at e3;cases e3;exact m5 j e4)
       (fun l _ c hcb=>by
         rw[g5]at hcb;simp only[Zk,Yv,or_false]at hcb;subst hcb;exact .inr ⟨_,_,hset.1⟩)
       (by
         refine⟨⟨b,ents',clock',g1,hset.1,u2,u3,g5⟩,hnd,fun c hcb=>⟨?_,.inr ⟨_,hc,hcb⟩⟩⟩;rw[g5]at hcb;simp only[Zk,Yv,or_false]at hcb;subst hcb;exact .inr ⟨_,_,hset.1⟩)
       (by
         intro i hi';exact hS.anc r j hv q1 i hi')
      refine qj hdst (w':={w with heap:=w.heap.setIfInBounds b (.map ents' clock')}) ?_ (hk _ _ ?_)
      ·unfold execOp;simp[ho,e,g1,hi,hy,u1]
      ·simp only[aT];exact⟨G',k1⟩
    |_=>exact h.elim
  |_=>exact h.elim
def J6 (hS:aO cx G g a w){r j:Nat}{hv:Hv}(q2:g (.leaf r j)=some (.h hv)){kb:Bool}{es es':ab}(hc:hv.c=.own (.m kb es)){b:Nat}{ents':Array MapEntry}{clock':Nat}(g1:G.val r j=.map (some b))(u2:Stamped ents' clock')(u3:eW kb ents'.toList es'):
 ∃ G',aO cx G' ((W.leaf r j ⟨hv.ver,hv.iv+1,hv.org,.own (.m kb es')⟩).app g) a {w with heap:=w.heap.setIfInBounds b (.map ents' clock')}/\G'.val r j=.map (some b)/\({w with heap:=w.heap.setIfInBounds b (.map ents' clock')}:World).heap[b]?=some (.map ents' clock'):=by
 have hok:=hS.hok (av.2 q2);simp only[ew,hc,bN]at hok;obtain⟨⟨b0,ents,clock,g1',g2,g3,g4,g5⟩,hnd,htok⟩:=hok;rw[g1]at g1';cases g1';have hset:=W2 (o':=W5 ents' clock') g2;have hbb:b∈G.fp r j:=by rw[g5];simp
 have hob:=(htok b hbb).1;obtain⟨G',k1,_,k3,_⟩:=hS.upd q2 ⟨hv.ver,hv.iv+1,hv.org,.own (.m kb es')⟩ (G.val r j) (G.fp r j) {w with heap:=w.heap.setIfInBounds b (.map ents' clock')}
  (.inr ⟨rfl,YE _,rfl,.inr ⟨kb,es,_,hc,rfl⟩⟩) rfl rfl rfl (by simp)
  (fun c _ _ h3=>hset.2 c (fun e=>h3 _ hc (e▸hbb)))
  (fun c off hl=>by
    obtain⟨kk,hk2⟩:=hS.noloc r _ hl;obtain⟨b',off',cur,ty,m1,m2,m3,m4,m5⟩:=hS.boxes r kk hk2;rw[hl]at m1;cases m1;have hne:c≠b:=by intro e;subst e;rw[hob]at m2;cases m2
    refine⟨cur,cur,ty,m3,by rw[hset.2 c hne];exact m3,rfl,fun hlt=>?_,fun _ _=>rfl⟩;obtain⟨_,k3,bx,_,e3,e4,_⟩:=hS.leaf r j _ q2;rw[hk2]at e3;cases e3;exact m5 j e4)
  (fun l _ c hcb=>by
    rw[g5]at hcb;simp only[Zk,Yv,or_false]at hcb;subst hcb;exact .inr ⟨_,_,hset.1⟩)
  (by
    refine⟨⟨b,ents',clock',g1,hset.1,u2,u3,g5⟩,hnd,fun c hcb=>⟨?_,.inr ⟨_,hc,hcb⟩⟩⟩;rw[g5]at hcb;simp only[Zk,Yv,or_false]at hcb;subst hcb;exact .inr ⟨_,_,hset.1⟩)
  (by
    intro i hi';exact hS.anc r j hv (av.2 q2) i hi')
 exact⟨G',k1,by rw[k3,VE ⟨rfl,rfl⟩];exact g1,hset.1⟩
def y7 {t:TypeId}{m k:Operand}(ho:o.op=.mapEntry t m k)(hS:aO cx G g a w)(h:(lH mgbI jM pu (Fb P) cx.n o.dst t m k).Runs g ls (.ws ws)) 
 (hk:∀ a' w',fC cx (aT g ws) a' w'->K a' w'):o.wp P a w K Q:=by
 unfold lH at h;split at h
 case h_2=>exact h.elim
 rename_i kb d hmp hd;split at h
 case isFalse=>exact h.elim
 rename_i hlt;obtain⟨x0,ls1,hx,h⟩:=bA hS h;cases x0 with
 | mv r j ver=>
   obtain⟨kd,n,ls2,hi,h⟩:=eR hS h;split at h
   case isFalse=>exact h.elim
   rename_i hkd;simp only[beq_iff_eq]at hkd;subst hkd;obtain⟨hv,ls4,q1,q2,h⟩:=bB h;split at h
   case h_2=>exact h.elim
   rename_i kb' es hc;split at h
   case isFalse=>exact h.elim
   rename_i hb;simp only[Zc,beq_iff_eq]at hb;obtain⟨hb,rfl⟩:=hb;obtain⟨h2,f1,f2,f3⟩:=hx;rw[q1]at f1;cases f1;have e:=f3 hb _ _ hc;have hok:=hS.hok q1;simp only[ew,hc,bN]at hok;obtain⟨⟨b,ents,clock,g1,g2,g3,g4,g5⟩,hnd,htok⟩:=hok;obtain⟨ents',clock',i,en,u1,u2,u3,u4,u5⟩:=KX hmp g2 g3 g4 n;obtain⟨G',k1,k2,k3⟩:=J6 hS q2 hc g1 u2 u3;have hws:ws=[.leaf r j ⟨hv.ver,hv.iv+1,hv.org,.own (.m kb' (pu es n (.v (GT es n kb'))))⟩,.reg d (.tup [.one (.v (GT es n kb')),.one (.st r j hv.ver (hv.iv+1) n)])]:=by
    cases kb'<;>(simp only[Rd.Runs,Out.ws.injEq]at h;exact h.2)
   subst hws;refine dM (v:=.tuple #[GT es n kb',goInt en.born]) (w':={w with heap:=w.heap.setIfInBounds b (.map ents' clock')}) ?_ (hk _ _ ?_)
   ·unfold execOp;simp[ho,e,g1,hi,u1,Z6]
   ·simp only[aT];rw[hd];refine⟨G',k1.put hlt ?_⟩;simp only[cW];refine⟨[GT es n kb',goInt en.born],rfl,?_⟩;simp only[jo,cW];refine⟨_,_,rfl,?_,_,_,rfl,?_,rfl⟩
    ·simp only[iC]
    ·simp only[iC];refine⟨⟨hv.ver,hv.iv+1,hv.org,.own (.m kb' (pu es n (.v (GT es n kb'))))⟩,by simp[gl,W.app],Zf _,Zf _,fun _ kb2 es2 q=>?_⟩;exact⟨b,ents',clock',i,en,k2,k3,u4,u5,rfl⟩
 |_=>exact h.elim
def vo {t:TypeId}{m s x:Operand}(ho:o.op=.entryStore t m s x)(hdst:o.dst=none)(hS:aO cx G g a w)(h:(iu pu (Fb P) t m s x).Runs g ls (.ws ws)) 
 (hk:∀ a' w',fC cx (aT g ws) a' w'->K a' w'):o.wp P a w K Q:=by
 unfold iu at h;split at h
 ·exact h.elim
 ·rename_i kb hmp;obtain⟨x0,ls1,hx,h⟩:=bA hS h;cases x0 with
  | mv r j ver=>
    obtain⟨s0,ls2,hs,h⟩:=bA hS h;cases s0 with
    | st r2 j2 ver2 iv2 n=>
      obtain⟨y0,ls3,hy,h⟩:=bA hS h;cases y0 with
      | v y=>
        simp only at h;split at h
        case isFalse=>exact h.elim
        rename_i hmk;obtain⟨hv,ls4,q1,q2,h⟩:=bB h;split at h
        case h_2=>exact h.elim
        rename_i kb' es hc;split at h
        case isFalse=>exact h.elim
        rename_i hb;simp only[Zc,beq_iff_eq]at hb;obtain⟨⟨⟨⟨hb,rfl⟩,rfl⟩,rfl⟩,hgd⟩:=hb;simp only[Rd.Runs,Out.ws.injEq]at h;obtain⟨_,rfl⟩:=h;obtain⟨h2,f1,f2,f3⟩:=hx;rw[q1]at f1;cases f1;have e:=f3 hb _ _ hc;obtain⟨h3,s1,s2,s3,s4⟩:=hs;rw[q1]at s1;cases s1;obtain⟨b,ents,clock,i,en,t1,t2,t3,t4,t5⟩:=s4 hgd _ _ hc;have hok:=hS.hok q1;simp only[ew,hc,bN]at hok;obtain⟨⟨b',ents0,clock0,g1,g2,g3,g4,g5⟩,hnd,htok⟩:=hok;rw[t1]at g1;cases g1;rw[t2]at g2;cases g2;have hy:a.eval x=y:=hy;obtain⟨ents',u1,u2,u3⟩:=A4 (P:=P) (t:=t) t2 g3 g4 t3 t4 hmk;obtain⟨G',k1,_⟩:=J6 hS q2 hc t1 u2 u3;refine qj hdst (w':={w with heap:=w.heap.setIfInBounds b (.map ents' clock)}) ?_ (hk _ _ ?_)
        ·unfold execOp;simp[ho,e,t1,t5,hy,u1]
        ·simp only[aT];exact⟨G',k1⟩
      |_=>exact h.elim
    |_=>exact h.elim
  |_=>exact h.elim
end
end Go.V
namespace Go.V
section
variable {P: Program} {o: Oper} {cx: Cx} {G: Gh} {g: Gm} {a: Act} {w: World} {ls: List Loc} {ws: List W} {K: Act -> World -> Prop} {Q: Exit -> Act -> World -> Prop}
def Hd {sz:Nat}{es:ab}{p:List (Nat×Nat)}{new:ax}{y:ax×Nat}(h:bT (.s sz es) p=some y):mR (.s sz es) p new=.s sz (rowOf (mR (.s sz es) p new)):=by
 match p with
 |[]=>simp[bT]at h
 |[(i,j)]=>rfl
 |(i,j)::q::p=>rfl
def aO.storeAt (hS:aO cx G g a w){r j:Nat}{h0:Hv}{l:L}(q3:g (.leaf r j)=some (.h h0))(hc:h0.c=.own l){p:List (Nat×Nat)}{b o0:Nat}(g1:bP w l (G.val r j) p b o0){rec:ax}{jj:Nat}(hg:bT l p=some (rec,jj)) 
 (ls0:ax) (vs:List Value) (S2:List Nat) (hlen:jj+ls0.length<=rec.length) (hvl:ls0.length=vs.length) (hone:∀ u∈vs,u.oneCell'=true) (hrd2:ak w ls0 vs S2) (hnd2:S2.Nodup)
 (hsub:∀ (cur:Array Value) (ty:TypeId) (fz:Nat×Nat) (Sy:List Nat),w.heap[b]?=some (.cells cur ty fz)->ak w ((rec.drop jj).take vs.length) ((cur.toList.drop o0).take vs.length) Sy->∀ c∈S2,c∈Sy):
 ∃ w',(storeCells ⟨b,o0,none⟩ vs 0).run P w=.ok () w'/\fC cx ((W.leaf r j ⟨h0.ver,h0.iv+1,h0.org,.own (mR l p ls0)⟩).app g) a w':=by
 have hok:=hS.hok (av.2 q3);simp only[ew,hc]at hok;obtain⟨cur,ty,fz,base,Sa,S1,Sb,m1,m2,m3,m4,m5,m6,m7⟩:=focus p l _ _ b o0 rec jj hok.1 hok.2.1 g1 hg;have hbS:b∈G.fp r j:=by rw[m2];simp[m3]
 obtain⟨how,hunf⟩:=hok.2.2 b hbS;have hfz:=hunf.cells m1;subst hfz
 let cur':=(cur.toList.take o0++vs++cur.toList.drop (o0+vs.length)).toArray
 let w':=w.setRow b cur'
 have hsz:cur'.size=cur.size:=by
  simp only[cur',List.size_toArray,Zh,Zm,Zz,ZS];rw[m4];omega
 have hst:(storeCells ⟨b,o0,none⟩ vs 0).run P w=.ok () w':=by
  have:=run_storeCells_at P b o0 ty vs 0 cur w m1 Uc (hone)
  simpa[w',cur']using this
 have hoth:∀ b',b'≠b->w'.heap[b']?=w.heap[b']?:=fun b' hb'=>setRow_other w b b' _ hb'
 have hnew0:w'.heap[b]?=some (.cells cur' ty (0,0)):=setRow_heap w b cur _ ty _ m1;have hcell:∀ i,cur'[i]?=if o0<=i/\i<o0+vs.length then vs[i-o0]? else cur[i]?:=by
  intro i;simp only[cur',List.getElem?_toArray];have l1:(cur.toList.take o0).length=o0:=by simp only[Zm,ZS];omega
  rcases ZY i o0 with hi|hi
  ·rw[VF Uc,Zj,Yd Uc,ZC,VE hi];simp
  ·rcases ZY i (o0+vs.length)with hi2|hi2
   ·rw[VE ⟨hi,hi2⟩,Zj,ZX Uc,l1,Yd Uc]
   ·rw[VF Uc,Zj,ZX Uc,l1,ZX Uc,Zy];have:o0+vs.length+(i-o0-vs.length)=i:=by omega
    rw[this];simp
 have hndb:b∉S1/\b∉Sb:=by
  have hn:=hok.2.1;rw[m2]at hn;rw[Zu]at hn;obtain⟨n1,n2,n3⟩:=hn;rw[Zu]at n1;exact⟨fun hb=>n1.2.2 b m3 b hb rfl,fun hb=>n3 b (by simp[m3]) b hb rfl⟩
 have hlen':jj+vs.length<=rec.length:=by omega
 have m6':ak w (rec.take jj++((rec.drop jj).take vs.length++(rec.drop jj).drop vs.length)) ((cur.toList.drop base).take rec.length) S1:=by
  rw[ZR,ZR];exact m6
 obtain⟨Sx,Sr,rfl,x1,x2⟩:=ak.split m6';obtain⟨Sy,Sz,rfl,x3,x4⟩:=ak.split x2;have lj:(rec.take jj).length=jj:=by simp only[Zm];omega
 have ly:((rec.drop jj).take vs.length).length=vs.length:=by simp only[Zm,Zz];omega
 have ey:(((cur.toList.drop base).take rec.length).drop (rec.take jj).length).take ((rec.drop jj).take vs.length).length=(cur.toList.drop o0).take vs.length:=by
  rw[lj,ly,YL,YV,Ye,m4]
  congr 1;omega
 have hS2:∀ c∈S2,c∈Sy:=hsub cur ty (0,0) Sy m1 (by rw[<-ey];exact x3);have hnb:∀ c∈S2,c≠b:=by
  rintro c hc0 rfl;exact hndb.1 (by simp[hS2 c hc0])
 have rd1:ak w' (rec.take jj) (((cur'.toList.drop base).take rec.length).take jj) Sx:=by
  have:=ak.keep (w':=w') _ _ _ x1 (fun c hc0=>hoth c (by rintro rfl;exact hndb.1 (by simp[hc0])));rw[lj]at this;have e:(((cur'.toList.drop base).take rec.length).take jj)=(((cur.toList.drop base).take rec.length).take jj):=by
   apply ZN;intro i;simp only[ZC,Zy,Z1];by_cases ci:i<jj
   ·have hci:=hcell (base+i);rw[VF Uc]at hci;rw[hci]
   ·simp[ci]
  rw[e];simpa using this
 have rd2:ak w' ls0 vs S2:=ak.keep _ _ _ hrd2 (fun c hc0=>hoth c (hnb c hc0));have rd3:ak w' ((rec.drop jj).drop vs.length) (((cur'.toList.drop base).take rec.length).drop (jj+vs.length)) Sz:=by
  have:=ak.keep (w':=w') _ _ _ x4 (fun c hc0=>hoth c (by rintro rfl;exact hndb.1 (by simp[hc0])));rw[lj,ly]at this;have e:(((cur'.toList.drop base).take rec.length).drop (jj+vs.length))=(((cur.toList.drop base).take rec.length).drop (jj+vs.length)):=by
   apply ZN;intro i;simp only[ZC,Zy,Z1];by_cases ci:jj+vs.length+i<rec.length
   ·have hci:=hcell (base+(jj+vs.length+i));rw[VF Uc]at hci;rw[hci]
   ·simp[ci]
  rw[e, <-Ye];exact this
 have hmid:(cur'.toList.drop base).take rec.length=((cur'.toList.drop base).take rec.length).take jj++(vs++((cur'.toList.drop base).take rec.length).drop (jj+vs.length)):=by
  have e3:((cur'.toList.drop base).take rec.length).drop jj=vs++((cur'.toList.drop base).take rec.length).drop (jj+vs.length):=by
   rw[<-Ye]
   conv=>lhs;rw[<-ZR vs.length (((cur'.toList.drop base).take rec.length).drop jj)]
   congr 1
   apply ZN;intro i;simp only[ZC,Zy,Z1];by_cases ci:i<vs.length
   ·have hci:=hcell (base+(jj+i));rw[VE Uc]at hci;rw[VE ci,VE Uc,hci]
    congr 1;omega
   ·rw[VF ci,ZV Uc]
  rw[<-e3,ZR]
 have rdall:ak w' (rec.take jj++ls0++rec.drop (jj+ls0.length)) ((cur'.toList.drop base).take rec.length) (Sx++(S2++Sz)):=by
  rw[hmid,Zj,hvl, <-Ye];exact rd1.append (rd2.append rd3)
 have hrd:=m7 w' cur' _ _ hnew0 hsz (by
  intro i hi;rw[hcell,VF Uc]) (by
  simp only[Zh,Zm,Zz,hvl];omega) rdall
  (fun c hc0 hcb=>hoth c hcb)
 rw[<-nF p l rec jj _ hg]at hrd;have hS':(Sa++(Sx++(S2++Sz))++Sb).Nodup:=by
  have hn:=hok.2.1;rw[m2]at hn;have e4:Sa++(Sx++(S2++Sz))++Sb=(Sa++Sx)++S2++(Sz++Sb):=by simp
  have e5:Sa++(Sx++(Sy++Sz))++Sb=(Sa++Sx)++Sy++(Sz++Sb):=by simp
  rw[e4];rw[e5]at hn;refine tp hn hnd2 (fun c hc0 hcA=>?_) (fun c hc0 hcB=>?_)
  ·exact(oG hn).2 c (hS2 c hc0)|>.1 hcA
  ·exact(oG hn).2 c (hS2 c hc0)|>.2 hcB
 have hlsz:∃ sz es,l=.s sz es:=by
  cases l with
  |s sz es=>exact⟨sz,es,rfl⟩
  |v y=>cases p<;>simp[bT]at hg
  |g=>cases p<;>simp[bT]at hg
  |m _ _=>cases p<;>simp[bT]at hg
 obtain⟨sz,es,hls⟩:=hlsz;obtain⟨es',hes1,hes2⟩:=BD l p (rec.take jj++ls0++rec.drop (jj+ls0.length)) sz es hls;rw[<-nF p l rec jj _ hg]at hes1;obtain⟨G',s1,_⟩:=hS.upd q3 ⟨h0.ver,h0.iv+1,h0.org,.own (mR l p ls0)⟩ (G.val r j) (Sa++(Sx++(S2++Sz))++Sb) w'
  (.inr ⟨rfl,YE _,rfl,.inl ⟨sz,es,es',by rw[hc,hls],by simp only[hes1],hes2⟩⟩) rfl rfl rfl (by simp[w'])
  (fun b' _ _ h2=>hoth b' (by rintro rfl;exact h2 l hc hbS))
  (by
    intro b1 off1 hl1;obtain⟨mm,hm⟩:=hS.noloc r _ hl1;obtain⟨b2,off2,c2,t2,u1,u2,u3,u4,u5⟩:=hS.boxes r mm hm;rw[hl1]at u1;cases u1;have hne:b1≠b:=by rintro rfl;rw[how]at u2;cases u2
    obtain⟨_,mm',bx,_,p2,p3,_⟩:=hS.leaf r j _ q3;rw[hm]at p2;cases p2;exact⟨c2,c2,t2,u3,by rw[hoth b1 hne];exact u3,rfl,fun _=>u5 j p3,fun _ _=>rfl⟩)
  (by
    intro l' hc' b1 hb1;by_cases hb:b1=b
    ·subst hb;exact .inl ⟨cur',ty,hnew0⟩
    ·exact(hok.2.2 b1 hb1).2.keep (hoth b1 hb))
  (by
    simp only;refine⟨hrd,hS',fun b1 hb1=>?_⟩;have q:b1∈G.fp r j:=by
     rw[m2];simp only[Zg]at hb1 ⊢;rcases hb1 with(q|q|q|q)|q;exact .inl (.inl q);exact .inl (.inr (.inl q));exact .inl (.inr (.inr (.inl (hS2 b1 q))));exact .inl (.inr (.inr (.inr q)));exact .inr q
    refine⟨?_,.inr ⟨l,hc,q⟩⟩;by_cases hb:b1=b
    ·subst hb;exact .inl ⟨cur',ty,hnew0⟩
    ·exact(hok.2.2 b1 q).2.keep (hoth b1 hb))
  (fun i e1=>hS.anc r j h0 (av.2 q3) i e1)
 exact⟨w',hst,G',s1⟩
def d9.part {hv:Value}{sz lo0 m:Nat}{base':Option Addr}{cap':Nat}(hw:d9 hv sz lo0 m (.slice base' m cap')){es:ab}{S:List Nat}(hr:bN w (.s sz es) hv S)(hlm:lo0+m<=es.length){l hh:Int}(h0:0<=l)(h1:l<=hh)(h2:hh<=m):
 d9 hv sz (lo0+l.toNat) (hh.toNat-l.toNat) (.slice (if cap'=l.toNat then base' else base'.map (·.add (l.toNat*sz))) (hh.toNat-l.toNat) (cap'-l.toNat)):=by
 obtain⟨base,len,cap,base'',cap'',g1,g2,g3,g4,g5,g6⟩:=hw;cases g2;have hcm:(cap'-l.toNat)*sz+l.toNat*sz=cap'*sz:=by rw[<-Zs];congr 1;omega
 refine⟨base,len,cap,_,_,g1,rfl,Uc,Uc,?_,?_⟩
 ·intro e1 e2;have e3:l.toNat=0:=by omega
  have e4:lo0=0:=by omega
  have e5:m=len:=by
   simp only[bN]at hr;obtain⟨b0,n0,c0,r1,r2,_⟩:=hr;rw[g1]at r1;cases r1;omega
  have:=g5 e4 e5;rw[<-this];have e6:hh.toNat=m:=by omega
  rw[e3,e6];have:(if cap'=0 then base' else base'.map (·.add (0*sz)))=base':=by
   split;rfl
   ·cases base'<;>simp[Addr.add]
  simp only[this,Nat.sub_zero]
 ·rcases g6 with⟨r1,r3⟩|⟨b,off,off',r1,r2,r3,r4⟩;exact .inl ⟨r1,Uc⟩
  ·subst r1 r2;by_cases c:cap'=l.toNat
   ·rw[VE c];exact .inr ⟨b,off,off',rfl,rfl,by rw[c];simp;rw[c]at r3;omega,fun hp=>by omega⟩
   ·rw[VF c];refine .inr ⟨b,off,off'+l.toNat*sz,rfl,by simp[add_lit],Uc,fun hp=>?_⟩;have:=r4 Uc;rw[this,Zs];omega
def d9.rd {v:Value}{sz lo m:Nat}{es:ab}{hv:Value}{S:List Nat}(hr:bN w (.s sz es) hv S)(hlo:lo+m<=es.length)(hw:d9 hv sz lo m v):∃ S1,bN w (.s sz ((es.drop lo).take m)) v S1/\∀ b∈S1,b∈S:=by
 obtain⟨base,len,cap,base',cap',g1,g2,g3,g4,g5,g6⟩:=hw;have hr0:=hr;simp only[bN]at hr;obtain⟨base0,len0,cap0,q1,q2,q3,q4,q5⟩:=hr;rw[g1]at q1;cases q1;have hlen:((es.drop lo).take m).length=m:=by simp only[Zm,Zz];omega
 rcases q5 with⟨e1,e3⟩|⟨b,off,cur,ty,fz,S',f1,f2,f3,f4,f5⟩
 ·refine⟨[],?_,fun b hb=>by cases hb⟩;simp only[bN];exact⟨base',m,cap',g2,hlen.symm,g3,Uc,.inl ⟨Uc,trivial⟩⟩
 ·rcases g6 with⟨r1,r3⟩|⟨b1,off1,off',r1,r2,r3,r4⟩
  ·refine⟨[],?_,fun b hb=>by cases hb⟩;simp only[bN];exact⟨base',m,cap',g2,hlen.symm,g3,Uc,.inl ⟨r3,trivial⟩⟩
  rw[r1]at f1;cases f1;obtain⟨S1,k1,k2⟩:=f4.sub lo m;by_cases hm:0<m
  ·have ho:=r4 hm;refine⟨b::S1,?_,fun c hc=>by rw[f5];rcases Zk.1 hc with rfl|hc;exact .head _;exact .tail _ (k2 c hc)⟩;simp only[bN];refine⟨base',m,cap',g2,hlen.symm,g3,Uc,.inr ⟨b,off',cur,ty,fz,S1,r2,f2,Uc,?_,rfl⟩⟩;have hl2:m*sz+lo*sz<=len*sz:=by rw[<-Zs];exact Nat.mul_le_mul_right _ Uc
   have:(cur.toList.drop off').take (m*sz)=(((cur.toList.drop off).take (len*sz)).drop (lo*sz)).take (((es.drop lo).take m).length*sz):=by
    apply ZN;intro k;rw[hlen,ho];simp only[ZC,Zy];by_cases ck:k<m*sz
    ·simp only[ck,if_true];rw[VE Uc];congr 1;omega
    ·simp[ck]
   rw[this];exact k1
  ·have hm0:m=0:=by omega
   subst hm0;refine⟨[b],?_,fun c hc=>by rw[f5];rcases Zk.1 hc with rfl|hc;exact .head _;cases hc⟩;simp only[bN,List.take_zero];exact⟨base',0,cap',g2,rfl,g3,Uc,.inr ⟨b,off',cur,ty,fz,[],r2,f2,Uc,by simp[bH],rfl⟩⟩
def Hf {k:Nat}{es:ab}{b off len cap:Nat}{S:List Nat}(h:bN w (.s k es) (.slice (some ⟨b,off,none⟩) len cap) S)(hs:cG es)(hc:cap≠0):S=[b]:=by
 simp only[bN]at h;obtain⟨base,len',cap',e,_,_,_,h⟩:=h;cases e;rcases h with⟨q,_⟩|⟨b',off',cur,ty,fz,S',e,_,_,q,rfl⟩;exact absurd q hc
 ·cases e;rw[qd hs q]
def d9.own {v hv:Value}{k lo m:Nat}{es:ab}{S:List Nat}(hw:d9 hv k lo m v)(hr:bN w (.s k es) hv S)(hlo:lo+m<=es.length)(hsc:cG es)(hst:cG ((es.drop lo).take m)):
 ∃ S2,bN w (.s k ((es.drop lo).take m)) v S2/\S2.Nodup/\∀ S3,bN w (.s k es) hv S3->∀ c∈S2,c∈S3:=by
 obtain⟨S1,k1,_⟩:=d9.rd hr hlo hw;obtain⟨base,len,cap,base',cap',g1,g2,g3,g4,g5,g6⟩:=id hw;subst g1 g2;by_cases hc:cap'=0
 ·subst hc;refine⟨[],?_,ZL,fun S3 _ c hc=>by cases hc⟩;simp only[bN]at k1 ⊢;obtain⟨base0,len0,cap0,q1,q2,q3,q4,_⟩:=k1;cases q1;exact⟨_,_,_,rfl,q2,q3,q4,.inl ⟨rfl,trivial⟩⟩
 ·rcases g6 with⟨_,q⟩|⟨b,off,off',r1,r2,r3,r4⟩;exact absurd q hc
  ·subst r1 r2;have e:=Hf k1 hst hc;subst e;refine⟨[b],k1,by simp,fun S3 h3 c hc3=>?_⟩;rw[Hf h3 hsc Uc];exact hc3
def D3:∀ {es:ab} {m:Nat},cG es->cG (es.take m)
 |[],m,_=>by simp[cG]
 |e::es,0,_=>by simp[cG]
 |e::es,m+1,h=>⟨h.1,D3 h.2⟩
def D2:∀ {es:ab} {m:Nat},cG es->cG (es.drop m)
 |[],m,_=>by simp[cG]
 |e::es,0,h=>h
 |e::es,m+1,h=>D2 (es:=es) h.2
def nested (hS:aO cx G g a w){r j ver iv lo m:Nat}{p:List (Nat×Nat)}{v:Value}(hx:iC (gl g) G w (.vn r j ver iv p lo m) v){h:Hv}(q1:gl g r j=some h)(hgd:jm h ver iv=true){l:L}(hc:h.c=.own l){k:Nat}{es:ab}(hs:lz l p=some (k,es)):
 ∃ rec o bb oo hv S,bT l p=some (rec,o)/\rec[o]?=some (.s k es)/\bP w l (G.val r j) p bb oo/\w.cell? ⟨bb,oo,none⟩=some hv/\lo+m<=es.length/\d9 hv k lo m v/\bN w (.s k es) hv S/\S.Nodup:=by
 obtain⟨h2,f1,f2,f2',fne,f3⟩:=hx;rw[q1]at f1;cases f1;unfold lz at hs;cases hg:bT l p with
 |none=>simp[hg]at hs
 | some pr=>
   obtain⟨rec,j0⟩:=pr;simp only[hg]at hs;split at hs
   case h_2=>cases hs
   rename_i sz es' hrec;cases hs;obtain⟨bb,oo,hvv,f4,f5,f6,f7⟩:=f3 hgd l rec j0 k es hc hg hrec;have hok:=hS.hok q1;simp only[ew,hc]at hok;obtain⟨cur,ty,fz,base,Sa,S1,Sb,m1,m2,m3,m4,m5,m6,_⟩:=focus p l _ _ bb oo rec j0 hok.1 hok.2.1 f4 hg;obtain⟨Sp,Sx,Sq,v',k1,k2,k3⟩:=m6.at j0 _ hrec;have hvv':v'=hvv:=by
    have:=fW m1 k2;rw[<-m4,f5]at this;exact(YA this).symm
   subst hvv';have hn:=hok.2.1;rw[m2]at hn;have hn1:=(oG hn).1;rw[k1]at hn1;exact⟨rec,j0,bb,oo,v',Sx,rfl,hrec,f4,f5,f6,f7,k3,(oG hn1).1⟩
end
section
variable {P: Program} {o: Oper} {cx: Cx} {G: Gh} {g: Gm} {a: Act} {w: World} {ls: List Loc} {ws: List W} {K: Act -> World -> Prop} {Q: Exit -> Act -> World -> Prop}
end
end Go.V
namespace Go.V
def KT (P:Program)(f:FuncId)(ds res:List DV):Prop:=
 ∀ (w:World) (vs:List Value) (S:List Nat),bU w ds vs S->S.Nodup->(∀ b∈S,eV w b)->
  Calls P f vs.toArray w fun e w'=>∃ v Sr,e=.returned v/\lK w' res v Sr/\Sr.Nodup/\(∀ b∈Sr,eV w' b/\(w.heap.size<=b\/b∈S))/\Same (fun b=>b∉S) w w'
abbrev OK' :=List DV->Option ((Unit->Prop)×List DV)
section
variable (tk: ∀ {β : Type}, List (Option Nat) -> List A -> (List (L × Option Nat) -> List (Nat × Nat) -> Rd β) -> Rd β) (ty: TypeId -> Option TI)
def Ll {α:Type}(t:TypeId)(x:Operand)(k:DV->List (Nat×Nat)->Rd α):Rd α:=
 match ty t with
 |none=>.fail
 | some ti=>ev x fun val=>match val with
   | .one a=>if ti.agg then .fail else tk ti.slots [a] fun lts srcs=>match lts with
     |[(l,_)]=>k (.one l) srcs
     |_=>.fail
   | .agg as=>if ti.agg then tk ti.slots as fun lts srcs=>k (.agg (lts.map (·.1))) srcs else .fail
   | .tup _=>.fail
def BQ {α:Type}:List TypeId->List Operand->(List DV->List (Nat×Nat)->Rd α)->Rd α
 |[],[],k=>k [] []
 |t::ts,x::xs,k=>Ll tk ty t x fun d src=>BQ ts xs fun ds srcs=>k (d::ds) (src++srcs)
 |_,_,_=>.fail
def wL (pr:(Unit->Prop)->Prop)(n:Nat)(d:Option Tmp)(body:Bool)(ts:Array TypeId)(args:Array Operand)(mk:OK')(rw:Nat->List DV->List W):Rd Out:=
 if body then BQ tk ty ts.toList args.toList fun ds srcs=>match mk ds with
  |some (pre,res)=>.req (pr pre) (if bp srcs then jk srcs fun w1=>fresh n d fun d=>.ret (.ws (w1++rw d res))else .fail)
  |none=>.fail
 else .fail
end
section
variable {P: Program} {o: Oper} {cx: Cx} {G: Gh} {g: Gm} {a: Act} {w: World} {ls: List Loc} {ws: List W} {K: Act -> World -> Prop} {Q: Exit -> Act -> World -> Prop}
def OH (hS:aO cx G g a w){d:Nat}(hlt:d<cx.n)(hm:g (.meta_ d)=none){res:List DV}{v:Value}{S:List Nat}{w':World}(hres:lK w' res v S)(hnd:S.Nodup)(hfr:∀ b∈S,eV w' b/\sX g G w b)(hos:w'.os=w.os)(htape:w'.tape=w.tape)(hout:w'.output=w.output)(hsize:w.heap.size<=w'.heap.size) 
 (hsame:∀ b,b<w.heap.size->(∀ r j,G.ow b=some (.leaf r j)->∃ h l,gl g r j=some h/\h.c=.own l)->w'.heap[b]?=w.heap[b]?):
 fC cx (aT g (dT d res)) (a.put (some d) v) w':=by
 obtain⟨vs,lv,hlv,hv⟩:∃ vs lv,Em w' res vs lv S/\((∃ dv,res=[dv]/\vs=[v])\/v=.tuple vs.toArray/\∀ dv,res≠[dv]):=by
  cases res with
  |nil=>obtain⟨vs,e,h2⟩:=hres;obtain⟨lv,k⟩:=bU.lv h2;exact⟨vs,lv,k,.inr ⟨e,fun dv e=>by cases e⟩⟩
  | cons d1 rest=>
    cases rest with
    | nil=>
      have h2:bU w' [d1] [v] S:=by simp only[bU];exact⟨v,[],S,[],rfl,hres,⟨rfl,rfl⟩,by simp⟩
      obtain⟨lv,k⟩:=bU.lv h2;exact⟨[v],lv,k,.inl ⟨d1,rfl,rfl⟩⟩
    |cons d2 rest=>obtain⟨vs,e,h2⟩:=hres;obtain⟨lv,k⟩:=bU.lv h2;exact⟨vs,lv,k,.inr ⟨e,fun dv e=>by cases e⟩⟩
 have hrec:=hlv.rec_;obtain⟨Ss,s1,s2,s3⟩:=hrec.items;rw[<-s1]at hnd;obtain⟨G',k1,k2,_,_⟩:=hS.newRoot' hm false ((res.flatMap aR).map fun l=>⟨0,0,none,.own l⟩) w' hos htape hout hsize hsame (fun j=>lv.getD j undef) (fun j=>Ss.getD j [])
  (by
    intro j h hj;simp only[ZD,ZB]at hj;obtain⟨l,e1,rfl⟩:=hj;obtain⟨u,q1,q2⟩:=s3 j l e1;simp only[KS];refine⟨by simpa[Zv,q1]using q2,ie hnd j,fun b hb=>?_⟩;exact hfr b (by rw[<-s1];exact eS hb))
  (by
    intro j h hj;simp only[ZD,ZB]at hj;obtain⟨l,e1,rfl⟩:=hj;exact fg.none)
  (fun i j _ _ hij=>fF hnd i j hij) 0 0 (by simp)
 simp only[dT,aT];refine⟨G',k1.put hlt ?_⟩;have hgl:∀ i l,(res.flatMap aR)[i]?=some l->gl ((W.root d false ((res.flatMap aR).map fun l=>⟨0,0,none,.own l⟩)).app g) d (0+i)=some ⟨0,0,none,.own l⟩:=by
  intro i l e;simp[gl,W.app,e]
 have hval:∀ i u,lv[i]?=some u->G'.val d (0+i)=u:=by
  intro i u e;rw[k2,Zx];simp[Zv,e]
 have hall:=rL (G:=G') res 0 vs lv S hlv (fun i l e=>⟨none,hgl i l e⟩) hval;rcases hv with⟨dv,rfl,rfl⟩|⟨rfl,hne⟩
 ·simp only[jc];simp only[mQ,jo]at hall;obtain⟨v',vs',e,h1,_⟩:=hall;cases e;exact h1
 ·have:jc d res=.tup (mQ d 0 res):=by
   unfold jc;split;exact absurd rfl (hne _);rfl
  rw[this];simp only[cW];exact⟨vs,rfl,hall⟩
def HI.tok2 (hS:aO cx G g a w){ls:List (L×Option Nat)}{srcs:List (Nat×Nat)}{vs:List Value}{Ss:List (List Nat)}(h:HI g G w ls srcs vs Ss):
 ∀ b∈Ss.flatten,eV w b/\∃ r j,(r,j)∈srcs/\G.ow b=some (.leaf r j):=by
 induction h with
 |nil=>intro b hb;simp at hb
 | cons h hs ih=>
   have f:=h.facts hS;intro b hb;rw[List.flatten_cons,Zg]at hb;rcases hb with hb|hb
   ·obtain⟨u,r,j,m1,m2⟩:=f.2.2 b hb;exact⟨u,r,j,by simp[m1],m2⟩
   ·obtain⟨u,r,j,m1,m2⟩:=ih b hb;exact⟨u,r,j,by simp[m1],m2⟩
def TkD (g:Gm)(G:Gh)(w:World)(ds:List DV)(srcs:List (Nat×Nat))(vs:List Value)(S:List Nat):Prop:=
 bU w ds vs S/\(bp srcs=true->S.Nodup)/\∀ b∈S,eV w b/\∃ r j,(r,j)∈srcs/\G.ow b=some (.leaf r j)
def I4 (hS:aO cx G g a w){t:TypeId}{x:Operand}{α:Type}{k:DV->List (Nat×Nat)->Rd α}{ls:List Loc}{out:α}(h:(Ll dc (oO P) t x k).Runs g ls out):
 ∃ d src S ls',pw w d (a.eval x) S/\(bp src=true->S.Nodup)/\(∀ b∈S,eV w b/\∃ r j,(r,j)∈src/\G.ow b=some (.leaf r j))/\(k d src).Runs g ls' out:=by
 unfold Ll at h;cases hti:oO P t with
 |none=>simp only[hti]at h;exact h.elim
 | some ti=>
   simp only[hti]at h;obtain⟨r,ls1,hr,h⟩:=dI hS h;cases r with
   | one x0=>
     simp only[cW]at hr;simp only at h;split at h
     ·exact h.elim
     ·obtain⟨lts,srcs,Ss,ls2,ht,hl,h⟩:=fX hS _ [x0] [a.eval x] (by simp[bX,hr]) _ _ _ h;split at h
      ·rename_i l og;have hrec:=ht.rec_ hS;simp only[ZT,List.map_nil,ak]at hrec;obtain⟨v,vs',S1,S2,e1,k2,⟨e2,e3⟩,e4⟩:=hrec;cases e1;rw[e3,Yb]at e4;refine⟨.one l,srcs,S1,ls2,k2,fun hd=>?_,fun b hb=>?_,h⟩
       ·have:=(ht.facts hS hd).1;rwa [e4]at this
       ·have:=ht.tok2 hS b (by rw[e4];exact hb);exact this
      ·exact h.elim
   | agg as=>
     simp only[cW]at hr;obtain⟨vs,e,hr⟩:=hr;simp only at h;split at h
     ·obtain⟨lts,srcs,Ss,ls2,ht,hl,h⟩:=fX hS _ as vs hr _ _ _ h;have hrd:pw w (.agg (lts.map (·.1))) (a.eval x) Ss.flatten:=⟨vs,e,ht.rec_ hS⟩;exact⟨_,srcs,Ss.flatten,ls2,hrd,fun hd=>(ht.facts hS hd).1,ht.tok2 hS,h⟩
     ·exact h.elim
   |tup rs=>exact h.elim
def xA (hS:aO cx G g a w){α:Type}:∀ (ts:List TypeId) (xs:List Operand) (k:List DV->List (Nat×Nat)->Rd α) (ls:List Loc) (out:α),(BQ dc (oO P) ts xs k).Runs g ls out->
 ∃ ds srcs S ls',TkD g G w ds srcs (xs.map a.eval) S/\(k ds srcs).Runs g ls' out
 |[],[],k,ls,out,h=>⟨[],[],[],ls,⟨⟨rfl,rfl⟩,fun _=>ZL,by simp⟩,h⟩
 |[],_::_,k,ls,out,h=>h.elim
 |_::_,[],k,ls,out,h=>h.elim
 | t::ts,x::xs,k,ls,out,h=>by
   simp only[BQ]at h;obtain⟨d,src,S,ls2,k1,k2,k3,h⟩:=I4 hS h;obtain⟨ds,srcs,S',ls3,⟨m1,m2,m3⟩,h⟩:=xA hS ts xs _ _ _ h;refine⟨_,_,S++S',ls3,⟨?_,fun hd=>?_,fun b hb=>?_⟩,h⟩
   ·simp only[ZT,bU];exact⟨_,_,S,S',rfl,k1,m1,rfl⟩
   ·obtain⟨d1,d2,d3⟩:=cJ hd;rw[Zu];refine⟨k2 d1,m2 d2,fun b hb b' hb' e=>?_⟩;subst e;obtain⟨_,r,j,q1,q2⟩:=k3 b hb;obtain⟨_,r',j',q3,q4⟩:=m3 b hb';rw[q2]at q4;cases q4;exact d3 _ q1 q3
   ·rcases Zg.1 hb with hb|hb
    ·obtain⟨u,r,j,q1,q2⟩:=k3 b hb;exact⟨u,r,j,by simp[q1],q2⟩
    ·obtain⟨u,r,j,q1,q2⟩:=m3 b hb;exact⟨u,r,j,by simp[q1],q2⟩
def FN {f:FuncId}{ts:Array TypeId}{args:Array Operand}(ho:o.op=.call {callee:=.value (.func f),args:=args,argTypes:=ts})(hS:aO cx G g a w){mk:OK'} 
 (hmk:∀ ds pre res,mk ds=some (pre,res)->pre ()->KT P f ds res) (h:(wL dc (oO P) pv cx.n o.dst (eh P f) ts args mk dT).Runs g ls (.ws ws))
 (hk:∀ a' w',fC cx (aT g ws) a' w'->K a' w'):o.wp P a w K Q:=by
 unfold wL at h;split at h
 case isFalse=>exact h.elim
 rename_i hbody;obtain⟨ds,srcs,S,ls1,⟨t1,t2,t3⟩,h⟩:=xA hS _ _ _ _ _ h;split at h
 case h_2=>exact h.elim
 rename_i pre res he;obtain⟨hpre,h⟩:=h;split at h
 case isFalse=>exact h.elim
 rename_i hdist;obtain⟨w1,ls2,hS1,h,hg1,hg2⟩:=gy srcs g hS (fun _ _ _=>rfl) hdist _ _ _ h;obtain⟨d,ls3,hd,hlt,hm,h⟩:=cV h;simp only[Rd.Runs,Out.ws.injEq]at h;obtain⟨_,rfl⟩:=h;have hm1:aT g w1 (.meta_ d)=none:=by rw[hg2 _ (by intro r j e;cases e)];exact hm
 have hex:(execOp a.eval o).run P w=.ok (.enter f (args.map a.eval)) w:=by
  unfold execOp;simp only[ho,resolve,XL,Xb,ZQ,Yi,Z2,invoke,Xc,XM];exact gI hbody _
 unfold YR;rw[hex];simp only[Y9];have hcall:=hmk ds pre res he hpre w (args.toList.map a.eval) S t1 (t2 hdist) (fun b hb=>(t3 b hb).1);have harr:(args.toList.map a.eval).toArray=args.map a.eval:=by rw[<-Yx,Yy]
 rw[harr]at hcall;refine hcall.mono ?_;rintro e w' ⟨v,Sr,rfl,hres,hnd,hfr,hsame⟩;rw[hd];have gone:∀ b∈S,∃ r j,G.ow b=some (.leaf r j)/\∀ h l,gl (aT g w1) r j=some h->h.c=.own l->False:=by
  intro b hb;obtain⟨_,r,j,m1,m2⟩:=t3 b hb;refine⟨r,j,m2,fun h l e1 e2=>?_⟩;obtain⟨h',q1,q2⟩:=hg1 r j m1;rw[av,q1]at e1;cases e1;rw[q2]at e2;cases e2
 rw[show aT g (w1++dT d res)=aT (aT g w1) (dT d res)from cr g w1 _]at hk;refine hk _ _ (OH hS1 hlt hm1 hres hnd (fun b hb=>⟨(hfr b hb).1,?_⟩) hsame.os hsame.tape hsame.output hsame.size (fun b hb hl=>?_))
 ·rcases(hfr b hb).2 with q|q;exact .inl q
  ·obtain⟨r,j,m1,m2⟩:=gone b q;exact .inr ⟨r,j,m1,m2⟩
 ·refine hsame.block b hb (fun q=>?_);obtain⟨r,j,m1,m2⟩:=gone b q;obtain⟨h,l,e1,e2⟩:=hl r j m1;exact m2 h l e1 e2
end
end Go.V
namespace Go.V
open Go.MapKept
open Go.ChangeMaps (setBlock)
def kOf:Value->Int
 | .int _ n=>n
 |_=>0
def pR (es:ab):List Int:=es.map fun e=>kOf (match e with
 | .v x::_=>x
 |_=>.bool false)
def E4 {kb:Bool}:∀ {l:List MapEntry} {es:ab},eW kb l es->(∀ e∈l,∃ k∈pR es,e.key=.int Za k)/\(∀ k∈pR es,∃ e∈l,e.key=.int Za k)/\l.length=es.length
 | [],es,h=>by
   have h:es=[]:=h;subst h;exact⟨(fun e he=>by cases he),(fun k hk=>by cases hk),rfl⟩
 | e::l,es,h=>by
   obtain⟨k,r,e1,e2,e3,e4⟩:=h;subst e1;obtain⟨h1,h2,h3⟩:=E4 e4;refine⟨fun x hx=>?_,fun k' hk=>?_,by simp[h3]⟩
   ·rcases Zk.1 hx with rfl|hx;exact⟨k,by simp[pR,kOf],e2⟩
    ·obtain⟨k',q1,q2⟩:=h1 x hx;exact⟨k',by simp only[pR,ZT,Zk];exact .inr q1,q2⟩
   ·simp only[pR,ZT,Zk,kOf]at hk;rcases hk with rfl|hk;exact⟨e,by simp,e2⟩
    ·obtain⟨e',q1,q2⟩:=h2 k' hk;exact⟨e',by simp[q1],q2⟩
def wQ (mp:TypeId->Option Bool)(n:Nat)(d:Option Tmp)(t:TypeId)(x:Operand):Rd Out:=
 match mp t,d with
 | some kb,some d=>if d<n then gT x fun
    | .mv r j ver=>ig r j fun h=>match h.c with
      | .own (.m kb' es)=>if h.ver==ver&&kb'==kb then .ret (.ws [.leaf r j ⟨h.ver+1,h.iv,none,.gone⟩,.reg d (.one (.it es []))])else .fail
      |_=>.fail
    |_=>.fail else .fail
 |_,_=>.fail
def B8 (n:Nat)(d:Option Tmp)(x:Operand):Rd Out:=
 gT x fun
  | .it _ (k::_)=>bE n d (.tup [.j k,.one .un])
  |_=>.fail
def wN (cm:TypeId->Option (List Bool))(n:Nat)(d:Option Tmp)(t:TypeId)(x:Operand)(f:Nat):Rd Out:=
 match cm t with
 |none=>.fail
 | some ks=>ev x fun
   | .agg as=>match as[f]?,ks[f]? with
     |some y,some _=>bE n d (.one y)
     |_,_=>.fail
   |_=>.fail
def Mh {P:Program}:∀ {fs:List Field} {j:Nat} {ks:List Bool} {f:Nat} {k:Bool},PL P j fs=some ks->ks[f]?=some k->∃ fd,fs[f]?=some fd/\fd.offset=j+f/\(P.underlying fd.type=some .bool\/∃ ik,P.underlying fd.type=some (.int ik))
 |[],j,ks,f,k,h,hk=>by simp only[PL,Ya]at h;subst h;simp at hk
 | fd::fs,j,ks,f,k,h,hk=>by
   simp only[PL]at h;split at h
   ·rename_i hc;simp only[Zc,beq_iff_eq]at hc;split at h
    ·rename_i k0 ks0 e1 e2;cases h;cases f with
     | zero=>
       refine⟨fd,rfl,hc.2,?_⟩;unfold cmL at e1;split at e1
       ·rename_i ik e;exact .inr ⟨ik,e⟩
       ·rename_i e;exact .inl e
       ·cases e1
     | succ f=>
       simp at hk;obtain⟨fd',g1,g2,g3⟩:=Mh e2 hk;exact⟨fd',by simpa using g1,Uc,g3⟩
    ·cases h
   ·cases h
def bX.at {γ:Nat->Nat->Option Hv}{G:Gh}{w:World}:∀ {as:List A} {vs:List Value} {f:Nat} {y:A},bX γ G w as vs->as[f]?=some y->∃ v,vs[f]?=some v/\iC γ G w y v
 |[],_,f,y,_,h=>by simp at h
 | a::as,_,f,y,hx,h=>by
   obtain⟨v,vs',e,h1,h2⟩:=hx;subst e;cases f with
   |zero=>simp at h;subst h;exact⟨v,rfl,h1⟩
   |succ f=>simp at h;obtain⟨v',g1,g2⟩:=bX.at h2 h;exact⟨v',by simpa using g1,g2⟩
section
variable {P: Program} {o: Oper} {cx: Cx} {G: Gh} {g: Gm} {a: Act} {w: World} {ls: List Loc} {ws: List W} {K: Act -> World -> Prop} {Q: Exit -> Act -> World -> Prop}
def aO.iter (hS:aO cx G g a w){bm r j:Nat}{h:Hv}(hh:g (.leaf r j)=some (.h h))(hc:h.c=.gone)(ho:G.ow bm=some (.leaf r j))(ob:Obj):
 aO cx {G with ow:=fun b=>if b=bm\/b=w.heap.size then some .fz else G.ow b} g a (w.alloc ob):=by
 let G2:Gh:={G with ow:=fun b=>if b=bm\/b=w.heap.size then some .fz else G.ow b}
 have keep:∀ b t,G.ow b=some t->t≠ .leaf r j->G2.ow b=some t:=by
  intro b t ht hn;have h1:¬ (b=bm\/b=w.heap.size):=by
   rintro(rfl|rfl)
   ·rw[ho]at ht;cases ht;exact hn rfl
   ·exact absurd (hS.lt _ _ ht) (X4 _)
  show(if b=bm\/b=w.heap.size then some Tok.fz else G.ow b)=some t;rw[VF h1];exact ht
 have old:∀ b t,G.ow b=some t->(w.alloc ob).heap[b]?=w.heap[b]?:=fun b t ht=>heap_alloc_old w ob (hS.lt b t ht)
 have lf:∀ r' j' h' l,gl g r' j'=some h'->h'.c=.own l->Tok.leaf r' j'≠ .leaf r j:=by
  intro r' j' h' l e hl q;cases q;rw[av,hh]at e;cases e;rw[hc]at hl;cases hl
 have st:Step g G w g G2 (w.alloc ob):=by
  refine⟨fun r1 j1 h1 e=>⟨h1,e,.inl ⟨rfl,rfl,fun l hl b hb=>?_⟩⟩,fun b hb=>⟨keep b _ hb (by simp),old b _ hb⟩,fun b hb=>⟨?_,old b _ hb⟩,fun _ _ h=>h⟩
  ·have:=hS.hok e;simp only[ew,hl]at this;exact old b _ (this.2.2 b hb).1
  ·exact keep b _ hb (by simp)
 have fro:∀ b,(b=bm\/b=w.heap.size)->b<cx.w0.heap.size->cx.fr b->False:=by
  rintro b (rfl|rfl) h1 h2
  ·rcases hS.frow _ h1 h2 with q|q<;>(rw[ho]at q;cases q)
  ·exact absurd (Ym h1 hS.frame.size) (X4 _)
 have hsz:w.heap.size<=(w.alloc ob).heap.size:=by show w.heap.size<=(w.heap.push ob).size;rw[W6];omega
 refine⟨hS.defers,hS.tm,?_,?_,?_,hS.metas,hS.noloc,?_,?_,?_,hS.anc,hS.aloc,?_,hS.sep,hS.newb,?_⟩
 ·intro d x hx;obtain⟨h1,r1,e,h2⟩:=hS.reg d x hx;exact⟨h1,r1,e,cW.step hS st r1 _ h2⟩
 ·intro r1 k hk;obtain⟨b,off,cur,ty,f1,f2,f3,f4⟩:=hS.boxes r1 k hk;exact⟨b,off,cur,ty,f1,keep b _ f2 (by simp),by rw[old b _ f2];exact f3,f4⟩
 ·intro r1 j1 x hx;obtain⟨h1,k,box,e1,e2,e3,e4⟩:=hS.leaf r1 j1 x hx;refine⟨h1,k,box,e1,e2,e3,?_⟩;unfold ew at e4 ⊢;split at e4
  ·rename_i l hl;subst e1;have hne:=lf r1 j1 h1 l (av.2 hx) hl;exact⟨bN.keep _ _ _ e4.1 (fun b hb=>old b _ (e4.2.2 b hb).1),e4.2.1,fun b hb=>⟨keep b _ (e4.2.2 b hb).1 hne,(e4.2.2 b hb).2.keep (old b _ (e4.2.2 b hb).1)⟩⟩
  ·obtain⟨S,q1,q2⟩:=e4;exact⟨S,bN.keep _ _ _ q1 (fun b hb=>old b _ (q2 b hb)),fun b hb=>keep b _ (q2 b hb) (by simp)⟩
  ·trivial
 ·intro b t ht;have ht:(if b=bm\/b=w.heap.size then some Tok.fz else G.ow b)=some t:=ht;have hs:(w.alloc ob).heap.size=w.heap.size+1:=by show(w.heap.push ob).size=_;rw[W6]
  split at ht
  ·rename_i c;rcases c with rfl|rfl
   ·have:=hS.lt _ _ ho;omega
   ·omega
  ·have:=hS.lt b t ht;omega
 ·exact⟨hS.frame.os,hS.frame.tape,hS.frame.output,Nat.le_trans hS.frame.size hsz,fun b h1 h2=>by rw[heap_alloc_old w ob (Ym h1 hS.frame.size)];exact hS.frame.block b h1 h2⟩
 ·intro b h1 h2;show(if b=bm\/b=w.heap.size then some Tok.fz else G.ow b)=none\/(if b=bm\/b=w.heap.size then some Tok.fz else G.ow b)=some .ro;rw[VF (fun c=>fro b c h1 h2)];exact hS.frow b h1 h2
 ·intro r1 b off e;have q:=hS.afr r1 b off e;obtain⟨c0,c,ty,h1,h2,h3⟩:=id q;exact q.keep (heap_alloc_old w ob (ZE.1 h2).1)
 ·intro b hb;have hb:(if b=bm\/b=w.heap.size then some Tok.fz else G.ow b)=some .ro:=hb;split at hb
  ·cases hb
  ·exact hS.roX b hb
def FU {t:TypeId}{x:Operand}(ho:o.op=.range t x)(hS:aO cx G g a w)(h:(wQ (Fb P) cx.n o.dst t x).Runs g ls (.ws ws)) 
 (hk:∀ a' w',fC cx (aT g ws) a' w'->K a' w'):o.wp P a w K Q:=by
 unfold wQ at h;split at h
 case h_2=>exact h.elim
 rename_i kb d hmp hd;split at h
 case isFalse=>exact h.elim
 rename_i hlt;obtain⟨x0,ls1,hx,h3⟩:=bA hS h;cases x0 with
 | mv r j ver=>
   obtain⟨hv,ls4,q1,q2,h4⟩:=bB h3;split at h4
   case h_2=>exact h4.elim
   rename_i kb' es hc;split at h4
   case isFalse=>exact h4.elim
   rename_i hb;simp only[Zc,beq_iff_eq]at hb;obtain⟨hb,rfl⟩:=hb;simp only[Rd.Runs,Out.ws.injEq]at h4;obtain⟨_,rfl⟩:=h4;obtain⟨h2,f1,f2,f3⟩:=hx;rw[q1]at f1;cases f1;have e:=f3 hb _ _ hc;have hok:=hS.hok q1;simp only[ew,hc,bN]at hok;obtain⟨⟨b,ents,clock,g1,g2,g3,g4,g5⟩,hnd,htok⟩:=hok;have hob:=(htok b (by rw[g5];simp)).1;have S1:=hS.gone q2;have hl1:(W.leaf r j ⟨hv.ver+1,hv.iv,none,.gone⟩).app g (.leaf r j)=some (.h ⟨hv.ver+1,hv.iv,none,.gone⟩):=by simp[W.app]
   have S2:=S1.iter hl1 rfl hob (.mapIter (some b) clock #[] clock);obtain⟨k',e',ht,_⟩:=uT (w:=w) hmp;refine dM (v:=.pointer (some ⟨w.heap.size,0,none⟩)) (w':=w.alloc (.mapIter (some b) clock #[] clock)) ?_ (hk _ _ ?_)
   ·unfold execOp;simp only[ho,e,g1];simp only[ZQ,run_range_map w t k' e' b ents clock ht g2,Z6];rfl
   ·simp only[aT];rw[hd];refine⟨_,S2.put hlt ?_⟩;simp only[cW,iC];have hbl:b<w.heap.size:=(ZE.1 g2).1;obtain⟨s1,s2,s3⟩:=(stamped_iff ents clock).1 g3;refine⟨w.heap.size,b,kb',rfl,by simp,by simp,clock,clock,clock, #[],ents,heap_alloc_new w _,by rw[heap_alloc_old w _ hbl];exact g2,g3,g4,s1,Zf _,Zf _,(fun x _ hx=>by simp at hx),?_,(fun k vs' h=>by cases h)⟩;have hlen:=(E4 g4).2.2;unfold leftOf;have hf:=Array.size_filter_le (p:=fun e:MapEntry=> !(#[]:Array Nat).contains e.born) (xs:=ents);rw[ZS]at hlen;simp only[Zt,Nat.add_zero];omega
 |_=>exact h3.elim
def FQ {t:TypeId}{x:Operand}{f:Nat}(ho:o.op=.field t x f)(hS:aO cx G g a w)(h:(wN (RY P) cx.n o.dst t x f).Runs g ls (.ws ws)) 
 (hk:∀ a' w',fC cx (aT g ws) a' w'->K a' w'):o.wp P a w K Q:=by
 unfold wN at h;split at h
 ·exact h.elim
 ·rename_i ks hcm;obtain⟨r,ls1,hx,h3⟩:=dI hS h;cases r with
  | agg as=>
    simp only at h3;split at h3
    ·rename_i y k e1 e2;simp only[cW]at hx;obtain⟨vs,ev,hx⟩:=hx;obtain⟨v,g1,g2⟩:=hx.at e1;unfold RY at hcm;split at hcm
     ·rename_i fs hu;split at hcm
      ·obtain⟨fd,q1,q2,q3⟩:=Mh hcm e2;rw[Z1]at q1;refine bc hS h3 (v:=v) (by simp only[cW];exact g2) ?_ hk;have hag:(isAgg fd.type).run P w=.ok false w:=by
        rcases q3 with q3|⟨ik,q3⟩<;>simp[isAgg,run_underlying q3]
       unfold execOp;simp only[ho,ev,Instr.field,ZQ,run_underlying hu,Z6,q1];simp[asAgg,part,hag,q2,g1]
      ·cases hcm
     ·cases hcm
    ·exact h3.elim
  |one y=>exact h3.elim
  |tup rs=>exact h3.elim
def FP {x:Operand}(ho:o.op=.entry x)(hS:aO cx G g a w)(h:(B8 cx.n o.dst x).Runs g ls (.ws ws)) 
 (hk:∀ a' w',fC cx (aT g ws) a' w'->K a' w'):o.wp P a w K Q:=by
 unfold B8 at h;obtain⟨x0,ls1,hx,h⟩:=bA hS h;split at h
 case h_2=>exact h.elim
 rename_i es k vs;obtain⟨r,bm,kb,e1,e2,e3,since,c0,clock,seen,ents,i1,i2,i3,i4,i5,i6,i7,i8,i9,i10⟩:=hx;obtain⟨e,m1,seen',rfl,m2,rfl⟩:=i10 k vs rfl;have hrun:=run_entry_at (P:=P) w r bm since seen' ents c0 e i1 i2 m1 ((stamped_iff ents c0).1 i3).2.1;refine bc hS h (v:=.tuple #[e.key,e.val]) ?_ ?_ hk
 ·simp only[cW];refine⟨[e.key,e.val],rfl,?_⟩;simp only[jo,cW];exact⟨_,_,rfl,m2,_,_,rfl,trivial,rfl⟩
 ·unfold execOp;simp only[ho,e1];simp only[ZQ,hrun,Z6];rfl
end
end Go.V
namespace Go.V
open Go.MapKept
open Go.ChangeMaps (setBlock)
def Ke:A->Bool
 | .it _ _=>false
 |_=>true
mutual
def xo:R->Bool
 | .one a=>Ke a
 | .agg as=>as.all Ke
 | .tup rs=>Fh rs
def Fh:List R->Bool
 |[]=>true
 |r::rs=>xo r&&Fh rs
end
def wE (it:Nat):VS->Bool
 |[]=>true
 | .reg d x::σ=>(ZK d it||xo x)&&wE it σ
 |_::σ=>wE it σ
def mS {it:Nat}:∀ {σ:VS},wE it σ=true->∀ d x,get σ (.reg d)=some (.r x)->d≠it->xo x=true
 |[],_,d,x,h,_=>by simp[get]at h
 | .reg d' y::σ,hs,d,x,h,hd=>by
   simp only[wE,Zc,ZU]at hs;simp only[get,W.app]at h;split at h
   ·rename_i e;cases e;cases h;rcases hs.1 with q|q;exact absurd (Z5 q) hd;exact q
   ·exact mS hs.2 d x h hd
 | .leaf _ _ _::σ,hs,d,x,h,hd=>by
   simp only[get,W.app]at h;rw[VF (by simp)]at h;exact mS (σ:=σ) hs d x h hd
 | .gap _ _ _::σ,hs,d,x,h,hd=>by
   simp only[get,W.app]at h;rw[VF (by simp)]at h;exact mS (σ:=σ) hs d x h hd
 | .root _ _ _::σ,hs,d,x,h,hd=>by
   simp only[get,W.app]at h;exact mS (σ:=σ) hs d x h hd
section
variable {P: Program} {cx: Cx} {G: Gh} {g: Gm} {a: Act} {w: World}
def Kf {γ:Nat->Nat->Option Hv}{G1:Gh}(hl:G1.loc=G.loc)(hv:G1.val=G.val)(hr:∀ b,G.ow b=some .ro->G1.ow b=some .ro):∀ (y:A) (v:Value),Ke y=true->iC γ G w y v->iC γ G1 w y v:=by
 intro y v hn h;cases y with
 |it es vs=>cases hn
 |ro sz es=>obtain⟨S,h1,h2⟩:=h;exact⟨S,h1,fun b hb=>hr b (h2 b hb)⟩
 |rp rec j=>obtain⟨b,off,cur,ty,fz,S,e1,e2,e3,e4,e5,e6⟩:=h;exact⟨b,off,cur,ty,fz,S,e1,e2,hr b e3,e4,e5,fun c hc=>hr c (e6 c hc)⟩
 |pt r j=>obtain⟨b,off,e1,e2⟩:=h;exact⟨b,off,by rw[hl];exact e1,e2⟩
 | fn f caps=>
   obtain⟨ps,e,h⟩:=h;have key:∀ (caps:List HQ) (ps:List Value),fe G w caps ps->fe G1 w caps ps:=by
    intro caps
    induction caps with
    |nil=>intro ps h;exact h
    | cons c cs ih=>
      intro ps h;obtain⟨v,vs',e,h1,h2⟩:=h;refine⟨v,vs',e,?_,ih vs' h2⟩;cases c with
      |pt r j=>obtain⟨b,off,e1,e2⟩:=h1;exact⟨b,off,by rw[hl];exact e1,e2⟩
      |rp rec j=>obtain⟨b,off,cur,ty,fz,S,e1,e2,e3,e4,e5,e6⟩:=h1;exact⟨b,off,cur,ty,fz,S,e1,e2,hr b e3,e4,e5,fun c hc=>hr c (e6 c hc)⟩
   exact⟨ps,e,key caps ps h⟩
 |v x=>exact h
 |nl=>exact h
 |un=>exact h
 |pn r j ver iv p=>unfold iC at h ⊢;rw[hv];exact h
 |vw r j ver lo n=>unfold iC at h ⊢;rw[hv];exact h
 |vn r j ver iv p lo n=>unfold iC at h ⊢;rw[hv];exact h
 |mv r j ver=>unfold iC at h ⊢;rw[hv];exact h
 |st r j ver iv k=>unfold iC at h ⊢;rw[hv];exact h
def GX {γ:Nat->Nat->Option Hv}{G1:Gh}(hl:G1.loc=G.loc)(hv:G1.val=G.val)(hr:∀ b,G.ow b=some .ro->G1.ow b=some .ro):∀ (ys:List A) (vs:List Value),ys.all Ke=true->bX γ G w ys vs->bX γ G1 w ys vs
 |[],vs,_,h=>h
 | y::ys,vs,hn,h=>by
   simp only[List.all_cons,Zc]at hn;obtain⟨v,vs',e,h1,h2⟩:=h;exact⟨v,vs',e,Kf hl hv hr y v hn.1 h1,GX hl hv hr ys vs' hn.2 h2⟩
mutual
def NL {γ:Nat->Nat->Option Hv}{G1:Gh}(hl:G1.loc=G.loc)(hv:G1.val=G.val)(hr:∀ b,G.ow b=some .ro->G1.ow b=some .ro):∀ (y:R) (v:Value),xo y=true->cW γ G w y v->cW γ G1 w y v
 | .one y,v,hn,h=>by simp only[cW,xo]at*;exact Kf hl hv hr y v hn h
 | .agg ys,v,hn,h=>by simp only[cW,xo]at*;obtain⟨vs,e,h⟩:=h;exact⟨vs,e,GX hl hv hr ys vs hn h⟩
 | .tup rs,v,hn,h=>by simp only[cW,xo]at*;obtain⟨vs,e,h⟩:=h;exact⟨vs,e,Kg hl hv hr rs vs hn h⟩
def Kg {γ:Nat->Nat->Option Hv}{G1:Gh}(hl:G1.loc=G.loc)(hv:G1.val=G.val)(hr:∀ b,G.ow b=some .ro->G1.ow b=some .ro):∀ (ys:List R) (vs:List Value),Fh ys=true->jo γ G w ys vs->jo γ G1 w ys vs
 |[],vs,_,h=>by simpa only[jo]using h
 | y::ys,vs,hn,h=>by
   simp only[jo,Fh,Zc]at*;obtain⟨v,vs',e,h1,h2⟩:=h;exact⟨v,vs',e,NL hl hv hr y v hn.1 h1,Kg hl hv hr ys vs' hn.2 h2⟩
end
def aO.drop (hS:aO cx G g a w){g1:Gm}{it r:Nat}(hg:∀ l,g1 l=if l=.reg it then none else g l)(hn:∀ d x,g (.reg d)=some (.r x)->d≠it->xo x=true)(hr:G.ow r=some .fz):
 aO cx {G with ow:=fun b=>if b=r then none else G.ow b} g1 a w:=by
 have keep:∀ b t,G.ow b=some t->t≠ .fz->(if b=r then none else G.ow b)=some t:=by
  intro b t ht hne;rw[VF (by rintro rfl;rw[hr]at ht;cases ht;exact hne rfl)];exact ht
 have keep':∀ b t,(if b=r then none else G.ow b)=some t->G.ow b=some t:=by
  intro b t ht;split at ht
  ·cases ht
  ·exact ht
 have hm:∀ r,g1 (.meta_ r)=g (.meta_ r):=fun r=>by rw[hg,VF (by simp)]
 have hl:∀ r j,g1 (.leaf r j)=g (.leaf r j):=fun r j=>by rw[hg,VF (by simp)]
 have hgl:gl g1=gl g:=by funext r j;simp[gl,hl]
 refine⟨hS.defers,hS.tm,?_,?_,?_,?_,?_,?_,hS.frame,?_,?_,?_,hS.afr,?_,hS.newb,?_⟩
 ·intro d x hx;rw[hg]at hx;split at hx
  ·cases hx
  ·rename_i hne;obtain⟨h1,r1,e,h2⟩:=hS.reg d x hx;subst e;rw[hgl];exact⟨h1,r1,rfl,NL (G:=G) (G1:={G with ow:=fun b=>if b=r then none else G.ow b}) rfl rfl (fun b hb=>keep b _ hb (by simp)) r1 _ (hn d r1 hx (by rintro rfl;exact hne rfl)) h2⟩
 ·intro r1 k hk;rw[hm]at hk;obtain⟨b,off,cur,ty,f1,f2,f3,f4⟩:=hS.boxes r1 k hk;exact⟨b,off,cur,ty,f1,keep b _ f2 (by simp),f3,f4⟩
 ·intro r1 j1 x hx;rw[hl]at hx;obtain⟨h1,k,box,e1,e2,e3,e4⟩:=hS.leaf r1 j1 x hx;refine⟨h1,k,box,e1,by rw[hm];exact e2,e3,?_⟩;unfold ew at e4 ⊢;split at e4
  ·exact⟨e4.1,e4.2.1,fun b hb=>⟨keep b _ (e4.2.2 b hb).1 (by simp),(e4.2.2 b hb).2⟩⟩
  ·obtain⟨S,q1,q2⟩:=e4;exact⟨S,q1,fun b hb=>keep b _ (q2 b hb) (by simp)⟩
  ·trivial
 ·intro r1 x hx;rw[hm]at hx;exact hS.metas r1 x hx
 ·intro r1 b hb;obtain⟨k,hk⟩:=hS.noloc r1 b hb;exact⟨k,by rw[hm];exact hk⟩
 ·intro b t ht;exact hS.lt b t (keep' b t ht)
 ·intro b h1 h2;show(if b=r then none else G.ow b)=none\/(if b=r then none else G.ow b)=some .ro;by_cases c:b=r
  ·rw[VE c];exact .inl rfl
  ·rw[VF c];exact hS.frow b h1 h2
 ·intro r1 j1 h e;rw[hgl]at e;exact hS.anc r1 j1 h e
 ·intro r1 x e;rw[hm];exact hS.aloc r1 x e
 ·intro r1 r2 k1 k2 b o1 o2 hne h1 h2 q1 q2;rw[hm]at h1 h2;exact hS.sep r1 r2 k1 k2 b o1 o2 hne h1 h2 q1 q2
 ·intro b hb;exact hS.roX b (keep' b _ hb)
def aO.other (hS:aO cx G g a w){r:Nat}(hr:G.ow r=none)(hfr:¬ (r<cx.w0.heap.size/\cx.fr r))(hnc:∀ cur ty fz,w.heap[r]?≠some (.cells cur ty fz)){w':World} 
 (hos:w'.os=w.os) (htape:w'.tape=w.tape) (hout:w'.output=w.output) (hsz:w'.heap.size=w.heap.size) (hh:∀ b,b≠r->w'.heap[b]?=w.heap[b]?):aO cx G g a w':=by
 have ne:∀ b t,G.ow b=some t->b≠r:=by rintro b t ht rfl;rw[hr]at ht;cases ht
 have old:∀ b t,G.ow b=some t->w'.heap[b]?=w.heap[b]?:=fun b t ht=>hh b (ne b t ht)
 have st:Step g G w g G w':=by
  refine⟨fun r1 j1 h1 e=>⟨h1,e,.inl ⟨rfl,rfl,fun l hl b hb=>?_⟩⟩,fun b hb=>⟨hb,old b _ hb⟩,fun b hb=>⟨hb,old b _ hb⟩,fun _ _ h=>h⟩;have:=hS.hok e;simp only[ew,hl]at this;exact old b _ (this.2.2 b hb).1
 refine⟨hS.defers,hS.tm,?_,?_,?_,hS.metas,hS.noloc,?_,?_,hS.frow,hS.anc,hS.aloc,?_,hS.sep,hS.newb,hS.roX⟩
 ·intro d x hx;obtain⟨h1,r1,e,h2⟩:=hS.reg d x hx;exact⟨h1,r1,e,cW.step hS st r1 _ h2⟩
 ·intro r1 k hk;obtain⟨b,off,cur,ty,f1,f2,f3,f4⟩:=hS.boxes r1 k hk;exact⟨b,off,cur,ty,f1,f2,by rw[old b _ f2];exact f3,f4⟩
 ·intro r1 j1 x hx;obtain⟨h1,k,box,e1,e2,e3,e4⟩:=hS.leaf r1 j1 x hx;refine⟨h1,k,box,e1,e2,e3,?_⟩;unfold ew at e4 ⊢;split at e4
  ·exact⟨bN.keep _ _ _ e4.1 (fun b hb=>old b _ (e4.2.2 b hb).1),e4.2.1,fun b hb=>⟨(e4.2.2 b hb).1,(e4.2.2 b hb).2.keep (old b _ (e4.2.2 b hb).1)⟩⟩
  ·obtain⟨S,q1,q2⟩:=e4;exact⟨S,bN.keep _ _ _ q1 (fun b hb=>old b _ (q2 b hb)),q2⟩
  ·trivial
 ·intro b t ht;rw[hsz];exact hS.lt b t ht
 ·exact⟨hos.trans hS.frame.os,htape.trans hS.frame.tape,hout.trans hS.frame.output,by rw[hsz];exact hS.frame.size,fun b h1 h2=>by rw[hh b (by rintro rfl;exact hfr ⟨h1,h2⟩)];exact hS.frame.block b h1 h2⟩
 ·intro r1 b off e;have q:=hS.afr r1 b off e;obtain⟨c0,c,ty,h1,h2,h3⟩:=id q;exact q.keep (hh b (by rintro rfl;exact hnc _ _ _ h2))
def aO.hold (hS:aO cx G g a w){r:Nat}(hr:G.ow r=none)(hlt:r<w.heap.size)(hfr:¬ (r<cx.w0.heap.size/\cx.fr r)):
 aO cx {G with ow:=fun b=>if b=r then some .fz else G.ow b} g a w:=by
 have keep:∀ b t,G.ow b=some t->(if b=r then some Tok.fz else G.ow b)=some t:=by
  intro b t ht;rw[VF (by rintro rfl;rw[hr]at ht;cases ht)];exact ht
 have st:Step g G w g {G with ow:=fun b=>if b=r then some .fz else G.ow b} w:=
  ⟨fun r1 j1 h1 e=>⟨h1,e,.inl ⟨rfl,rfl,fun _ _ _ _=>rfl⟩⟩,fun b hb=>⟨keep b _ hb,rfl⟩,fun b hb=>⟨keep b _ hb,rfl⟩,fun _ _ h=>h⟩
 refine⟨hS.defers,hS.tm,?_,?_,?_,hS.metas,hS.noloc,?_,hS.frame,?_,hS.anc,hS.aloc,hS.afr,hS.sep,hS.newb,?_⟩
 ·intro d x hx;obtain⟨h1,r1,e,h2⟩:=hS.reg d x hx;exact⟨h1,r1,e,cW.step hS st r1 _ h2⟩
 ·intro r1 k hk;obtain⟨b,off,cur,ty,f1,f2,f3,f4⟩:=hS.boxes r1 k hk;exact⟨b,off,cur,ty,f1,keep b _ f2,f3,f4⟩
 ·intro r1 j1 x hx;obtain⟨h1,k,box,e1,e2,e3,e4⟩:=hS.leaf r1 j1 x hx;refine⟨h1,k,box,e1,e2,e3,?_⟩;unfold ew at e4 ⊢;split at e4
  ·exact⟨e4.1,e4.2.1,fun b hb=>⟨keep b _ (e4.2.2 b hb).1,(e4.2.2 b hb).2⟩⟩
  ·obtain⟨S,q1,q2⟩:=e4;exact⟨S,q1,fun b hb=>keep b _ (q2 b hb)⟩
  ·trivial
 ·intro b t ht;have ht:(if b=r then some Tok.fz else G.ow b)=some t:=ht;split at ht
  ·rename_i c;rw[c];exact hlt
  ·exact hS.lt b t ht
 ·intro b h1 h2;show(if b=r then some Tok.fz else G.ow b)=none\/(if b=r then some Tok.fz else G.ow b)=some .ro;rw[VF (by rintro rfl;exact hfr ⟨h1,h2⟩)];exact hS.frow b h1 h2
 ·intro b hb;have hb:(if b=r then some Tok.fz else G.ow b)=some .ro:=hb;split at hb
  ·cases hb
  ·exact hS.roX b hb
def aO.know (hS:aO cx G g a w){d:Nat}{x:R}(hd:d<cx.n)(hx:cW (gl g) G w x (a.tmps.getD d undef)):aO cx G ((W.reg d x).app g) a w:=by
 have h:=hS.put hd hx;have e:a.put (some d) (a.tmps.getD d undef)=a:=by
  have ht:=hS.tm;cases a with
  | mk tmps defers=>
    unfold YK;simp only at ht ⊢
    congr 1
    refine Array.ext (by simp) (fun i h1 h2=>?_);rw[Array.getElem_setIfInBounds];split
    ·rename_i c;subst c;rw[Array.getD_eq_getD_getElem?,Array.getElem?_eq_getElem h2];rfl
    ·rfl
 rw[e]at h;exact h
def IK {σ:VS}{it d1 d2:Nat}{es:ab}{vs:List Int}{o1 o2:Oper}{ops:Array Oper}{Q:Exit->Act->World->Prop}(hS:fC cx (get σ) a w) 
 (hit:get σ (.reg it)=some (.r (.one (.it es vs)))) (hs:wE it σ=true) (h1:d1<cx.n) (h2:d2<cx.n) (n1:d1≠it) (n2:d2≠it)
 (p1:o1.op=.next (.tmp it) false) (p2:o1.dst=some d1) (p3:o1.guard=none) (p4:o2.op=.extract (.tmp d1) 0) (p5:o2.dst=some d2) (p6:o2.guard=none)
 (hT:∀ k,k∈pR es->vs.length<es.length->∀ a' w',fC cx (get (.reg d2 (.k true):: .reg d1 (.one .un):: .reg it (.one (.it es (k::vs)))::σ)) a' w'->Q .normal a' w')
 (hF:(∀ k∈pR es,k∈vs)->∀ a' w',fC cx (get (.reg d2 (.k false):: .reg d1 (.one .un)::σ)) a' w'->Q .normal a' w'):
 wpList P ops Q [o1,o2] a w:=by
 obtain⟨G,hS⟩:=hS;obtain⟨hn,y,e0,hx⟩:=hS.reg it _ hit;cases e0;simp only[cW]at hx;obtain⟨r,bm,kb,e1,e2,e3,since,c0,clock,seen,ents,i1,i2,i3,i4,i5,i6,i7,i8,i9,i10⟩:=hx;have hev:a.eval (.tmp it)=.pointer (some ⟨r,0,none⟩):=e1;have w1':YW o1 (yielded ops a.tmps)=true:=by simp[YW,p3]
 have w2':∀ a':Act,YW o2 (yielded ops a'.tmps)=true:=fun a'=>by simp[YW,p6]
 have hrb:r≠bm:=by rintro rfl;rw[i1]at i2;cases i2
 have hrl:r<w.heap.size:=(ZE.1 i1).1;have hfr:¬ (r<cx.w0.heap.size/\cx.fr r):=by
  rintro⟨q1,q2⟩;rcases hS.frow r q1 q2 with q|q<;>(rw[e2]at q;cases q)
 have step2:∀ (b:Bool) (vv:Array Value) (G':Gh) (g':Gm) (w':World) (a1:Act),aO cx G' g' a1 w'->(∀ a' w'',fC cx ((W.reg d2 (.k b)).app ((W.reg d1 (.one .un)).app g')) a' w''->Q .normal a' w'')->vv[0]?=some (.bool b)->
  wpList P ops Q [o2] (a1.put (some d1) (.tuple vv)) w':=by
  intro b vv G' g' w' a1 hS' hQ hv;simp only[wpList];rw[VE (w2' _)];refine .inl ?_;have S1:=hS'.put (x:=.one .un) (v:=.tuple vv) h1 (by simp only[cW,iC]);have ht:(a1.put (some d1) (.tuple vv)).eval (.tmp d1)=.tuple vv:=by
   show(a1.put (some d1) (.tuple vv)).tmps.getD d1 undef=_;rw[GD (by rw[hS'.tm];exact h1),VE rfl]
  refine dM (v:=.bool b) (w':=w') ?_ ?_
  ·unfold execOp;simp only[p4,ht,Instr.extract,hv];rfl
  ·rw[p5];exact hQ _ _ ⟨G',S1.put h2 (by simp only[cW,iC])⟩
 simp only[wpList];rw[VE w1'];refine .inl ?_;rcases run_next_at (P:=P) w o1.type r bm since c0 seen ents clock i1 i2 i5 i6 with⟨q1,q2⟩|⟨e,m1,w1,m2,q2⟩
 ·refine dM (v:=.tuple #[.bool false]) (w':=w) ?_ ?_
  ·unfold execOp;simp only[p1,hev];simp only[ZQ,q2,Z6];rfl
  ·rw[p2];refine step2 false _ G (get σ) w a hS (fun a' w'' hs'=>hF (fun k hk=>?_) a' w'' hs') rfl;obtain⟨e,f1,f2⟩:=(E4 i4).2.1 k hk;obtain⟨k',f3,f4⟩:=i8 e f1 (all_seen ents seen q1 e f1);rw[f2]at f4;cases f4;exact f3
 ·obtain⟨me,mc⟩:=mem_left m1;obtain⟨k,k1,k2⟩:=(E4 i4).1 e me;have hlt:vs.length<es.length:=by
   have:0<(leftOf ents seen).size:=by
    rw[<-ZS];exact List.length_pos_of_mem m1
   omega
  have hw1:w1.os=w.os/\w1.tape=w.tape/\w1.output=w.output/\w1.heap=w.heap:=by
   rcases m2 with rfl|rfl;exact⟨rfl,rfl,rfl,rfl⟩;exact⟨rfl,rfl,rfl,rfl⟩
  refine dM (v:=.tuple #[.bool true,e.key,e.val]) (w':=setBlock w1 r (.mapIter (some bm) since (seen.push e.born) clock)) ?_ ?_
  ·unfold execOp;simp only[p1,hev];simp only[ZQ,q2,Z6];rfl
  ·rw[p2];have hset:=heap_set (w:=w) (o':=.mapIter (some bm) since (seen.push e.born) clock) i1;have hheap:(setBlock w1 r (.mapIter (some bm) since (seen.push e.born) clock)).heap=w.heap.setIfInBounds r (.mapIter (some bm) since (seen.push e.born) clock):=by
    show w1.heap.setIfInBounds _ _=_;rw[hw1.2.2.2]
   have S1:=hS.drop (g1:=fun l=>if l=.reg it then none else get σ l) (it:=it) (fun l=>rfl) (fun d x h hd=>mS hs d x h hd) e2;have S2:=S1.other (r:=r) (w':=setBlock w1 r (.mapIter (some bm) since (seen.push e.born) clock)) (by simp) hfr (fun cur ty fz c=>by rw[i1]at c;cases c) hw1.1 hw1.2.1 hw1.2.2.1 (by rw[hheap];simp) (fun b hb=>by rw[hheap];exact hset.2 b hb);have S3:=S2.hold (r:=r) (by simp) (by rw[hheap];simpa using hrl) hfr;have S4:=S3.know (d:=it) (x:=.one (.it es (k::vs))) hn (by
    simp only[cW];rw[e1];refine⟨r,bm,kb,rfl,by simp,?_,since,clock,clock,seen.push e.born,ents,by rw[hheap];exact hset.1,by rw[hheap,hset.2 bm (Ne.symm hrb)];exact i2,i3,i4,i5,i7,i7,?_,?_,?_⟩
    ·simp only[VF (Ne.symm hrb)];exact e3
    ·intro x hx hc;rw[contains_push,ZU]at hc;rcases hc with hc|hc
     ·obtain⟨k',f1,f2⟩:=i8 x hx hc;exact⟨k',W7 _ f1,f2⟩
     ·have hb:x.born=e.born:=by simpa using hc
      have:x=e:=by
       have nd:=((stamped_iff ents clock).1 i3).2.1;have f1:=find_born e ents.toList nd me;have f2:=find_born x ents.toList nd hx;rw[hb,f1]at f2;cases f2;rfl
      subst this;exact⟨k,by simp,k2⟩
    ·have sh:=left_shrinks ents seen e m1;simp only[Zp];omega
    ·intro k' vs' hkv;cases hkv;exact⟨e,me,seen,rfl,k2,rfl⟩)
   have hg:(W.reg it (.one (.it es (k::vs)))).app (fun l=>if l=.reg it then none else get σ l)=get (.reg it (.one (.it es (k::vs)))::σ):=by
    funext l
    simp only[get,W.app];split;rfl;rfl
   rw[hg]at S4;exact step2 true _ _ _ _ a S4 (fun a' w'' hs'=>hT k k1 hlt a' w'' hs') rfl
end
end Go.V
namespace Go.V
def vl (pr:(Unit->Prop)->Prop)(ps:PsF)(sub:ab->Nat->Nat->ab)(up:UpF)(cat:ab->ab->ab)(own:Nat->Nat->ab->List W)(se:TI->A->(ab->List (Nat×Nat)->Rd Out)->Rd Out)(el:TypeId->Option (TypeId×TI×Nat))(n:Nat)(d:Option Tmp)(t t':TypeId)(s x:Operand):Rd Out:=
 match el t with
 |none=>.fail
 | some (_,ti,bytes)=>if t==t' then gT s fun
    | .vn r j ver iv p lo m=>ig r j fun h=>match h.c with
      | .own (.s sz es)=>if jm h ver iv then gT x fun b=>se ti b fun es2 src2=>match src2 with
        | []=>.req (pr fun _=>lz (.s sz es) p=some (ti.zero.length,ps (.s sz es) p)/\cG (ps (.s sz es) p)/\(m+es2.length)*bytes<=70368744177664/\m+es2.length<=70368744177664)
           (fresh n d fun d=>.ret (.ws (.gap r j ⟨h.ver,h.iv+1,h.org,.own (.s sz (up (.s sz es) p [.g]))⟩::own d ti.zero.length (cat (sub (ps (.s sz es) p) lo m) es2))))
        |_=>.fail else .fail
      |_=>.fail
    |_=>.fail
   else .fail
section
variable {P: Program} {o: Oper} {cx: Cx} {G: Gh} {g: Gm} {a: Act} {w: World} {ls: List Loc} {ws: List W} {K: Act -> World -> Prop} {Q: Exit -> Act -> World -> Prop}
def aO.shedN (hS:aO cx G g a w){r j:Nat}{h:Hv}(hh:g (.leaf r j)=some (.h h)){sz:Nat}{es0:ab}(hc:h.c=.own (.s sz es0)){p:List (Nat×Nat)}{bb oo o:Nat}{rec:ax}{k:Nat}{es:ab}{hv:Value} 
 (hg:bT (.s sz es0) p=some (rec,o)) (hr:rec[o]?=some (.s k es)) (hT:bP w (.s sz es0) (G.val r j) p bb oo) (hcell:w.cell? ⟨bb,oo,none⟩=some hv) {S2:List Nat} (hsub:∀ S3,bN w (.s k es) hv S3->∀ c∈S2,c∈S3):
 ∃ G',aO cx G' ((W.gap r j ⟨h.ver,h.iv+1,h.org,.own (.s sz (rowOf (mR (.s sz es0) p [.g])))⟩).app g) a w/\∀ b∈S2,eV w b/\∃ J,G'.ow b=some (.leaf r J)/\g (.leaf r J)=none/\J≠j:=by
 have hok:=hS.hok (av.2 hh);simp only[ew,hc]at hok;obtain⟨hrd,hnd,htok⟩:=hok;obtain⟨h0,k0,box,e0,em,ej,_⟩:=hS.leaf r j _ hh;cases e0;have hJ:g (.leaf r k0)=none:=by
  cases q:g (.leaf r k0)with
  |none=>rfl
  | some x=>
    obtain⟨_,k2,b2,_,m2,l2,_⟩:=hS.leaf r k0 _ q;rw[em]at m2;cases m2;omega
 obtain⟨cur,ty,fz,base,Sa,S1,Sb,m1,m2,m3,m4,m5,m6,m7⟩:=focus p _ _ _ bb oo rec o hrd hnd hT hg;obtain⟨Sp,Sx,Sq,v',k1,k2,k3,k4⟩:=m6.upd o _ hr;have hvv':v'=hv:=by
  have:=fW m1 k2;rw[<-m4,hcell]at this;exact(YA this).symm
 subst hvv';have hS2:=hsub _ k3;have hlt:o<rec.length:=(ZF.1 hr).1;have hone:=bN.one k3;have hrec:=k4 w .g [] (by simp only[bN];exact⟨hone,trivial⟩) (fun _ _=>rfl);have hset:rec.set o L.g=rec.take o++[.g]++rec.drop (o+[L.g].length):=by
  rw[List.set_eq_take_append_cons_drop,VE hlt];simp
 rw[hset]at hrec;have hn:=hnd;rw[m2,k1]at hn;have hrd':=m7 w cur (rec.take o++[.g]++rec.drop (o+[L.g].length)) (Sp++[]++Sq) m1 rfl (fun _ _=>rfl) (by simp only[Zh,Zm,Zz,Zp,Zt];omega) hrec (fun _ _ _=>rfl);rw[<-nF p _ rec o _ hg]at hrd';have hn':(Sa++(Sp++[]++Sq)++Sb).Nodup/\∀ c∈Sx,c∉Sa++(Sp++[]++Sq)++Sb:=by
  have e5:Sa++(Sp++Sx++Sq)++Sb=(Sa++Sp)++Sx++(Sq++Sb):=by simp
  have e6:Sa++(Sp++[]++Sq)++Sb=(Sa++Sp)++[]++(Sq++Sb):=by simp
  rw[e5]at hn;rw[e6];refine⟨tp hn ZL (fun c hc=>by cases hc) (fun c hc=>by cases hc),fun c hc hq=>?_⟩;have:=(oG hn).2 c hc;rw[Yb,Zg]at hq;exact hq.elim this.1 this.2
 have hmem:∀ c∈Sa++(Sp++[]++Sq)++Sb,c∈G.fp r j:=by
  intro c hc;rw[m2,k1];simp only[Zg,Yv,or_false]at hc ⊢;rcases hc with(q|q|q)|q;exact .inl (.inl q);exact .inl (.inr (.inl (.inl q)));exact .inl (.inr (.inr q));exact .inr q
 obtain⟨es',hes1,hes2⟩:=BD (.s sz es0) p (rec.take o++[.g]++rec.drop (o+[L.g].length)) sz es0 rfl;rw[<-nF p _ rec o _ hg]at hes1;have hrow:L.s sz (rowOf (mR (.s sz es0) p [.g]))=mR (.s sz es0) p [.g]:=(Hd hg).symm;have hro:rowOf (mR (.s sz es0) p [.g])=es':=by rw[hes1];rfl
 obtain⟨G1,u1,_,u2,u3,u4,u5,u6⟩:=hS.upd' hh ⟨h.ver,h.iv+1,h.org,.own (.s sz (rowOf (mR (.s sz es0) p [.g])))⟩ (G.val r j) (Sa++(Sp++[]++Sq)++Sb) w
  (.inr ⟨rfl,YE _,rfl,.inl ⟨sz,es0,es',hc,by simp only[hro],hes2⟩⟩) rfl rfl rfl (Zf _) (fun _ _ _ _=>rfl)
  (fun b off hl=>by
    obtain⟨kk,hk2⟩:=hS.noloc r _ hl;obtain⟨b',off',cur,ty,m1,m2,m3,m4,m5⟩:=hS.boxes r kk hk2;rw[hl]at m1;cases m1;refine⟨cur,cur,ty,m3,m3,rfl,fun hlt=>?_,fun _ _=>rfl⟩;rw[hk2]at em;cases em;exact m5 j ej)
  (fun l _ b hb=>(htok b hb).2)
  (by
    simp only[hrow];exact⟨hrd',hn'.1,fun b hb=>⟨(htok b (hmem b hb)).2,.inr ⟨_,hc,hmem b hb⟩⟩⟩)
  (fun i e=>hS.anc r j h (av.2 hh) i e)
 have hfx:∀ b∈S2,b∈G.fp r j:=fun b hb=>by rw[m2,k1];simp[hS2 b hb]
 have hro2:∀ b∈S2,G1.ow b=some (.leaf r j):=fun b hb=>by rw[u5 b (fun _=>hn'.2 b (hS2 b hb))];exact(htok b (hfx b hb)).1
 have u7:=u1.reown (J:=k0) hro2 (fun b hb=>by rw[u6,VE ⟨rfl,rfl⟩];exact hn'.2 b (hS2 b hb));exact⟨_,u7,fun b hb=>⟨(htok b (hfx b hb)).2,k0,VE hb,hJ,Uc⟩⟩
def B4 {t t':TypeId}{s x:Operand}(ho:o.op=.call {callee:=.builtin .append,args:= #[s,x],argTypes:= #[t,t']})(hS:aO cx G g a w) 
 (h:(vl pv vy (fun es lo m=>(es.drop lo).take m) vk (· ++ ·) ownRow rQ (Gu P) cx.n o.dst t t' s x).Runs g ls (.ws ws))
 (hk:∀ a' w',fC cx (aT g ws) a' w'->K a' w'):o.wp P a w K Q:=by
 unfold vl at h;split at h
 ·exact h.elim
 rename_i e ti bytes hel;split at h
 case isFalse=>exact h.elim
 rename_i htt;simp only[beq_iff_eq]at htt;subst htt;obtain⟨x0,ls1,hx,h⟩:=bA hS h;cases x0 with
 | vn r j ver iv p lo m=>
   simp only at h;obtain⟨h0,ls3,q1,_,h⟩:=bB h;split at h
   case h_2=>exact h.elim
   rename_i sz es hc;split at h
   case isFalse=>exact h.elim
   rename_i hgd;obtain⟨xb,ls2,hxb,h⟩:=bA hS h;obtain⟨es2,src2,base2,m2,c2,news,S3,ls4,hsrc,h⟩:=rR hS hxb h;split at h
   case h_2=>exact h.elim
   obtain⟨⟨hgs,hsc,hb1,hb2⟩,h⟩:=h;obtain⟨d,ls6,hd,hlt,hm,h⟩:=cV h;simp only[Rd.Runs,Out.ws.injEq]at h;obtain⟨_,rfl⟩:=h;obtain⟨rec,o0,bb,oo,hvv,S,n1,n2,n3,n4,n5,n6,n7,n8⟩:=nested hS hx q1 hgd hc hgs;obtain⟨S2,k1,knd,k2⟩:=n6.own n7 n5 hsc (D3 (D2 hsc));have hS3:S3=[]:=by
    cases S3 with
    |nil=>rfl
    | cons b S3=>
      obtain⟨_,r',j',hq,_⟩:=hsrc.tok b (by simp);cases hq
   subst hS3;obtain⟨G',hS1,z⟩:=hS.shedN (av.1 q1) hc n1 n2 n3 n4 k2;have hml:((((vy (.s sz es) p).drop lo).take m)).length=m:=by simp only[Zm,Zz];omega
   refine wT ho hS1 hd hlt (by simpa[W.app]using hm) hel k1 knd (fun b hb=>?_) hsrc.val hsrc.len hsrc.cells hsrc.rd hsrc.nodup (fun b hb=>by cases hb) (fun b _ hq=>by cases hq) (by rw[hml];exact hb1) (by rw[hml];exact hb2) (fun a' w' h2=>hk a' w' ?_)
   ·obtain⟨u,J,z1,z2,z3⟩:=z b hb;refine⟨u,.inr ⟨r,J,z1,?_⟩⟩;intro h' l' p1 p2;rw[av]at p1;simp[W.app,z3,z2]at p1
   ·exact h2
 |_=>exact h.elim
def Cb {t:TypeId}{x i:Operand}(ho:o.op=.indexAddr t x i)(hS:aO cx G g a w){e:TypeId}{ti:TI}{bytes:Nat}(hel:Gu P t=some (e,ti,bytes)){r j ver lo m:Nat}(hx:iC (gl g) G w (.vw r j ver lo m) (a.eval x)){kd:IntKind}{idx:Int}(hi:a.eval i=.int kd idx){hv:Hv}{es:ab}(q1:gl g r j=some hv)(hc:hv.c=.own (.s ti.zero.length es))(hver:hv.ver=ver)(h0:0<=idx)(h1:idx<m) 
 (h:(bE cx.n o.dst (.one (.pn r j ver 0 [(lo+idx.toNat,0)]))).Runs g ls (.ws ws)) (hk:∀ a' w',fC cx (aT g ws) a' w'->K a' w'):o.wp P a w K Q:=by
 have run:∀ b o0 len cap,a.eval x=.slice (some ⟨b,o0,none⟩) len cap->0<=idx->idx<len->
  (execOp a.eval o).run P w=.ok (.value (.pointer (some ⟨b,o0+idx.toNat*ti.zero.length,none⟩))) w:=by
  intro b o0 len cap he h0 h1;unfold execOp;simp[ho,he,hi,xd hel w b o0 len cap kd idx h0 h1]
 obtain⟨h2,f1,f2,f3⟩:=hx;rw[q1]at f1;cases f1;obtain⟨f4,base,len,cap,base',cap',g1,g2,g3,g4,g5,g6⟩:=f3 hver _ es hc;rcases g6 with⟨_,_,g7⟩|⟨b,off,off',g7,g8,g9,g10⟩;omega
 subst g7 g8;have hoff:=g10 Uc;refine bc hS h (v:=.pointer (some ⟨b,off'+idx.toNat*ti.zero.length,none⟩)) ?_ (run b off' m cap' g2 h0 Uc) hk;simp only[cW];refine⟨hv,q1,f2,Nat.zero_le _,by simp,fun _ l hl=>⟨b,off'+idx.toNat*ti.zero.length,?_,rfl⟩⟩;rw[hc]at hl;cases hl;simp only[bP];exact⟨b,off,len,cap,g1,Uc,rfl,by rw[hoff,Zs];omega⟩
end
end Go.V
namespace Go.V
def Ie (l:L)(p:List (Nat×Nat)):Value:=
 match bT l p with
 | some (rec,o)=>match rec[o]? with
   |some (.v x)=>x
   |_=>.bool false
 |none=>.bool false
def intOf:Value->Int
 | .int _ n=>n
 |_=>0
def aai:Value->Bool
 | .bool b=>b
 |_=>false
def strOf:Value->ByteArray
 | .string s=>s
 |_=>.empty
def SX:L->Int
 | .v (.int _ n)=>n
 |_=>0
def lfB:L->Bool
 | .v (.bool b)=>b
 |_=>false
def lfT:L->ByteArray
 | .v (.string b)=>b
 |_=>.empty
def LE:L->ab
 | .s _ es=>es
 |_=>[]
structure F1 where
 pr:(Unit->Prop)->Prop
 ar:BinOp->IntKind->Int->Int->Int
 sh:BinOp->IntKind->Int->Int->Int
 cmp:BinOp->Int->Int->Bool
 wr:IntKind->Int->Int
 bq:BinOp->Bool->Bool->Bool
 bn:Bool->Bool
 sel:Bool->Bool->Bool->Bool
 mm:Bool->Int->Int->Int
 ln:ab->Nat
 zi:Nat->Int
 nn:Int->Nat
 ad:Nat->Int->Nat
 df:Int->Int->Nat
 cat:ab->ab->ab
 sub:ab->Nat->Nat->ab
 rep:Int->ax->ab
 gi:ab->Int->Nat->Int
 gb:ab->Int->Nat->Bool
 gt:ab->Int->Nat->ByteArray
 gs:ab->Int->Nat->ab
 pi:L->List (Nat×Nat)->Int
 pb:L->List (Nat×Nat)->Bool
 pt:L->List (Nat×Nat)->ByteArray
 ps:L->List (Nat×Nat)->ab
 up:L->List (Nat×Nat)->ax->ab
 mgb:ab->Int->Bool
 mgi:ab->Int->Int
 mu:ab->Int->L->ab
 lnOk:∀ a b:ab,a.length=b.length->ln a=ln b
def bK (op:BinOp)(k:IntKind)(a b:Int):Int:=
 match op with
 | .add=>k.wrap (a+b)
 | .sub=>k.wrap (a-b)
 | .mul=>k.wrap (a*b)
 | .quo=>k.wrap (a.tdiv b)
 | .rem=>a.tmod b
 | .and=>k.wrap (ZW k.bits a&&&ZW k.bits b).toNat
 | .or=>k.wrap (ZW k.bits a|||ZW k.bits b).toNat
 | .xor=>k.wrap (ZW k.bits a^^^ZW k.bits b).toNat
 | .andNot=>k.wrap (ZW k.bits a&&& ~~~ ZW k.bits b).toNat
 |_=>0
def TN (op:BinOp)(k:IntKind)(a b:Int):Int:=
 match op with
 | .shl=>k.wrap (a*2^(min b.toNat k.bits))
 |_=>a.fdiv (2^(min b.toNat k.bits))
def prI (f:Unit->Prop):Prop:=f ()
def wrI (k:IntKind)(a:Int):Int:=k.wrap a
def mmI (isMax:Bool)(a b:Int):Int:=if isMax then(if b>a then b else a)else(if b<a then b else a)
def lnI (es:ab):Nat:=es.length
def ziI (n:Nat):Int:=n
def nnI (i:Int):Nat:=i.toNat
def adI (lo:Nat)(i:Int):Nat:=lo+i.toNat
def H9 (h l:Int):Nat:=h.toNat-l.toNat
def acL (a b:ab):ab:=a++b
def BO (es:ab)(lo m:Nat):ab:=(es.drop lo).take m
def oJ (n:Int)(r:ax):ab:=ZM n.toNat r
def ag (es:ab)(i:Int)(j:Nat):Int:=SX ((es.getD i.toNat []).getD j .g)
def qO (es:ab)(i:Int)(j:Nat):Bool:=lfB ((es.getD i.toNat []).getD j .g)
def SA (es:ab)(i:Int)(j:Nat):ByteArray:=lfT ((es.getD i.toNat []).getD j .g)
def aw (es:ab)(i:Int)(j:Nat):ab:=LE ((es.getD i.toNat []).getD j .g)
def C7 (l:L)(p:List (Nat×Nat)):Int:=intOf (Ie l p)
def Tv (l:L)(p:List (Nat×Nat)):Bool:=aai (Ie l p)
def ptI (l:L)(p:List (Nat×Nat)):ByteArray:=strOf (Ie l p)
def ah:F1:=⟨prI,bK,TN,cM,wrI,F2,L4,Fy,mmI,lnI,ziI,nnI,adI,H9,acL,BO,oJ,ag,qO,SA,aw,C7,Tv,ptI,vy,vk,mgbI,jM,pu,fun _ _ h=>h⟩
structure y9 where
 tyL:List (Nat×TI)
 elL:List (Nat×(TypeId×TI×Nat))
 fdL:List (Nat×List (Option Nat))
 bdL:List (Nat×List (Nat×Nat))
 itL:List (Nat×IntKind)
 boL:List (Nat×Unit)
 slL:List (Nat×Unit)
 fnL:List (Nat×Unit)
 ptL:List (Nat×TI)
 pnL:List (Nat×Unit)
 mpL:List (Nat×Bool)
 cmL:List (Nat×List Bool)
 alL:List (Nat×Unit):=[]
def lk {α:Type}:List (Nat×α)->Nat->Option α
 |[],_=>none
 | (k,x)::r,t=>match ZK k t with
  |true=>some x
  |false=>lk r t
def lkF:Option (List (Option Nat))->Nat->Option Nat
 |none,_=>none
 |some l,f=>l.getD f none
def bF (P:Program)(T:y9):Prop:=
 (T.tyL.map fun p=>oO P p.1)=(T.tyL.map fun p=>some p.2)/\
 (T.elL.map fun p=>Gu P p.1)=(T.elL.map fun p=>some p.2)/\
 (T.fdL.map fun p=>(Zl p.2.length).map (fdI P p.1))=(T.fdL.map fun p=>p.2)/\
 (T.bdL.map fun p=>bdI P p.1)=(T.bdL.map fun p=>some p.2)/\
 (T.itL.map fun p=>MS P p.1)=(T.itL.map fun p=>some p.2)/\
 (T.boL.map fun p=>zo P p.1)=(T.boL.map fun _=>true)/\
 (T.slL.map fun p=>rt P p.1)=(T.slL.map fun _=>true)/\
 (T.fnL.map fun p=>eh P p.1)=(T.fnL.map fun _=>true)/\
 (T.ptL.map fun p=>Kq P p.1)=(T.ptL.map fun p=>some p.2)/\
 (T.pnL.map fun p=>(oO P p.1).isNone)=(T.pnL.map fun _=>true)/\
 (T.mpL.map fun p=>Fb P p.1)=(T.mpL.map fun p=>some p.2)/\
 (T.cmL.map fun p=>RY P p.1)=(T.cmL.map fun p=>some p.2)
def jK {α:Type}:∀ {l:List (Nat×α)} {t:Nat} {x:α},lk l t=some x->(t,x)∈l
 |[],_,_,h=>by cases h
 | (k,y)::r,t,x,h=>by
  simp only[lk]at h;split at h
  ·rename_i e;cases h;cases Z5 e;simp
  ·exact W7 _ (jK h)
def gM {α β:Type}{f g:α->β}:∀ {l:List α},l.map f=l.map g->∀ x∈l,f x=g x
 |[],_,x,hx=>by cases hx
 | y::l,h,x,hx=>by
   simp only[ZT,Yg]at h;rcases Zk.1 hx with rfl|hx;exact h.1;exact gM h.2 x hx
section
variable {P: Program} {T: y9}
def bF.ty (h:bF P T)(t:Nat):lk T.tyL t=none\/∃ x,lk T.tyL t=some x/\oO P t=some x:=by
 cases e:lk T.tyL t with
 |none=>exact .inl rfl
 |some x=>exact .inr ⟨x,rfl,gM h.1 _ (jK e)⟩
def bF.el (h:bF P T)(t:Nat):lk T.elL t=none\/∃ x,lk T.elL t=some x/\Gu P t=some x:=by
 cases e:lk T.elL t with
 |none=>exact .inl rfl
 |some x=>exact .inr ⟨x,rfl,gM h.2.1 _ (jK e)⟩
def bF.fd (h:bF P T)(s f:Nat):lkF (lk T.fdL s) f=none\/∃ x,lkF (lk T.fdL s) f=some x/\fdI P s f=some x:=by
 cases e:lk T.fdL s with
 |none=>exact .inl rfl
 | some l=>
   have h1:=gM h.2.2.1 _ (jK e);simp only at h1;cases e2:l.getD f none with
   |none=>exact .inl e2
   | some x=>
     refine .inr ⟨x,e2,?_⟩;have hlt:f<l.length:=by
      rcases ZY f l.length with c|c;exact c
      ·rw[Zn,ZV c]at e2;cases e2
     have h2:((Zl l.length).map (fdI P s))[f]?=l[f]?:=by rw[h1]
     rw[ZD,List.getElem?_range hlt,Zr hlt]at h2;rw[Zn,Zr hlt]at e2;simp at h2 e2;rw[h2,e2]
def bF.bd (h:bF P T)(t:Nat):lk T.bdL t=none\/∃ x,lk T.bdL t=some x/\bdI P t=some x:=by
 cases e:lk T.bdL t with
 |none=>exact .inl rfl
 |some x=>exact .inr ⟨x,rfl,gM h.2.2.2.1 _ (jK e)⟩
def bF.it (h:bF P T)(t:Nat):lk T.itL t=none\/∃ x,lk T.itL t=some x/\MS P t=some x:=by
 cases e:lk T.itL t with
 |none=>exact .inl rfl
 |some x=>exact .inr ⟨x,rfl,gM h.2.2.2.2.1 _ (jK e)⟩
def bF.bo (h:bF P T)(t:Nat):lk T.boL t=none\/∃ x,lk T.boL t=some x/\zo P t=true:=by
 cases e:lk T.boL t with
 |none=>exact .inl rfl
 |some x=>exact .inr ⟨x,rfl,gM h.2.2.2.2.2.1 _ (jK e)⟩
def bF.sl (h:bF P T)(t:Nat):lk T.slL t=none\/∃ x,lk T.slL t=some x/\rt P t=true:=by
 cases e:lk T.slL t with
 |none=>exact .inl rfl
 |some x=>exact .inr ⟨x,rfl,gM h.2.2.2.2.2.2.1 _ (jK e)⟩
def bF.fn (h:bF P T)(t:Nat):lk T.fnL t=none\/∃ x,lk T.fnL t=some x/\eh P t=true:=by
 cases e:lk T.fnL t with
 |none=>exact .inl rfl
 |some x=>exact .inr ⟨x,rfl,gM h.2.2.2.2.2.2.2.1 _ (jK e)⟩
def bF.pt (h:bF P T)(t:Nat):lk T.ptL t=none\/∃ x,lk T.ptL t=some x/\Kq P t=some x:=by
 cases e:lk T.ptL t with
 |none=>exact .inl rfl
 |some x=>exact .inr ⟨x,rfl,gM h.2.2.2.2.2.2.2.2.1 _ (jK e)⟩
def bF.pn (h:bF P T)(t:Nat):lk T.pnL t=none\/∃ x,lk T.pnL t=some x/\oO P t=none:=by
 cases e:lk T.pnL t with
 |none=>exact .inl rfl
 |some x=>exact .inr ⟨x,rfl,Option.isNone_iff_eq_none.1 (gM h.2.2.2.2.2.2.2.2.2.1 _ (jK e))⟩
def bF.mp (h:bF P T)(t:Nat):lk T.mpL t=none\/∃ x,lk T.mpL t=some x/\Fb P t=some x:=by
 cases e:lk T.mpL t with
 |none=>exact .inl rfl
 |some x=>exact .inr ⟨x,rfl,gM h.2.2.2.2.2.2.2.2.2.2.1 _ (jK e)⟩
def bF.cm (h:bF P T)(t:Nat):lk T.cmL t=none\/∃ x,lk T.cmL t=some x/\RY P t=some x:=by
 cases e:lk T.cmL t with
 |none=>exact .inl rfl
 |some x=>exact .inr ⟨x,rfl,gM h.2.2.2.2.2.2.2.2.2.2.2 _ (jK e)⟩
end
abbrev CT :=FuncId->List DV->Option ((Unit->Prop)×List DV)
abbrev MT :=FuncId->Option MK
structure Jk where
 rd:CT
 mu:MT
 pt:FuncId->Option PK
 nw:FuncId->Option NK
 tk:FuncId->Option OK'
section
variable (T: y9) (O: F1) (ct: Jk) (n: Nat)
def mZ (O:F1)(es:ab)(i:Int):Nat->ax->ax
 |_,[]=>[]
 |j,.v (.int k _)::zs=>.v (.int k (O.gi es i j))::mZ O es i (j+1) zs
 |j,.v (.bool _)::zs=>.v (.bool (O.gb es i j))::mZ O es i (j+1) zs
 |j,.v (.string _)::zs=>.v (.string (O.gt es i j))::mZ O es i (j+1) zs
 |j,.s sz _::zs=>.s sz (O.gs es i j)::mZ O es i (j+1) zs
 |j,_::zs=>.g::mZ O es i (j+1) zs
def oB (O:F1)(l:L)(p:List (Nat×Nat)):Nat->ax->ax
 |_,[]=>[]
 |j,.v (.int k _)::zs=>.v (.int k (O.pi l (xE p j)))::oB O l p (j+1) zs
 |j,.v (.bool _)::zs=>.v (.bool (O.pb l (xE p j)))::oB O l p (j+1) zs
 |j,.v (.string _)::zs=>.v (.string (O.pt l (xE p j)))::oB O l p (j+1) zs
 |j,.s sz _::zs=>.s sz (O.ps l (xE p j))::oB O l p (j+1) zs
 |j,_::zs=>.g::oB O l p (j+1) zs
def Is (r j:Nat)(h:Hv):A:=
 match h.c with
 | .own (.v x)=>.v x
 | .own (.s _ es)=>.vw r j h.ver 0 (O.ln es)
 | .own .g=>.un
 | .own (.m _ _)=>.mv r j h.ver
 | .ro (.v x)=>.v x
 | .ro (.s sz es)=>.ro sz es
 | .ro .g=>.un
 | .ro (.m _ _)=>.un
 | .gone=>.un
def Iu {α:Type}(r j:Nat)(h:Hv)(k:A->Rd α):Rd α:=
 match h.c with
 | .gone=>match RF h.org with
   | some i=>ig (LV i) (Pp i) fun h'=>match h'.c with
     | .own (.s _ es)=>match RF h'.org with
       |some i'=>if ZK (LV i') (LV i)&&ZK (Pp i') (Pp i)then k (.vw (LV i) (Pp i) h'.ver 0 (O.ln es))else k .un
       |none=>k .un
     |_=>k .un
   |none=>k .un
 | .own _=>k (Is O r j h)
 | .ro _=>k (Is O r j h)
def im {α:Type}(r:Nat):Nat->Nat->(List A->Rd α)->Rd α
 |_,0,k=>k []
 |j,m+1,k=>ig r j fun h=>Iu O r j h fun a=>im r (j+1) m fun as=>k (a::as)
def oH (r j ver iv:Nat)(p:List (Nat×Nat)):Nat->ax->List A
 |_,[]=>[]
 |o,.v x::ls=>.v x::oH r j ver iv p (o+1) ls
 |o,.s _ es::ls=>.vn r j ver iv (xE p o) 0 (O.ln es)::oH r j ver iv p (o+1) ls
 |o,.g::ls=>.un::oH r j ver iv p (o+1) ls
 |o,.m _ _::ls=>.un::oH r j ver iv p (o+1) ls
def tD (d:Option Tmp)(t:TypeId)(x:Operand):Rd Out:=
 match lk T.tyL t with
 |none=>.fail
 | some ti=>gT x fun
   | .pt r j=>im O r j ti.zero.length fun as=>Qr ti as (bE n d)
   | .pn r j ver iv p=>ig r j fun h=>
     if C0 h ver iv p then match h.c with
      | .own l=>.req (O.pr fun _=>∃ rec o,bT l p=some (rec,o)/\o+ti.zero.length<=rec.length/\(rec.drop o).take ti.zero.length=oB O l p 0 ti.zero)
         (Qr ti (oH O r j ver h.iv p 0 (oB O l p 0 ti.zero)) (bE n d))
      |_=>.fail
     else .fail
   | .rp rec o=>if o+ti.zero.length<=rec.length then Qr ti (((rec.drop o).take ti.zero.length).map roA) (bE n d)else .fail
   |_=>.fail
def BU {α:Type}(slot:Option Nat)(a:A)(k:L->Option Nat->List (Nat×Nat)->Rd α):Rd α:=
 match a,slot with
 | .v x,none=>if scal x then k (.v x) none []else .fail
 | .nl,some sz=>k (.s sz []) none []
 | .vw r j ver lo m,some sz=>ig r j fun h=>
   match h.c with
   | .own (.s sz' es)=>if h.ver==ver&&sz'==sz then .req (O.pr fun _=>lo=0/\m=es.length) (k (.s sz' es) h.org [(r,j)])else .fail
   |_=>.fail
 | .mv r j ver,some _=>ig r j fun h=>
   match h.c with
   | .own (.m kb es)=>if h.ver==ver then k (.m kb es) h.org [(r,j)]else .fail
   |_=>.fail
 |_,_=>.fail
def j4 {α:Type}:List (Option Nat)->List A->(List (L×Option Nat)->List (Nat×Nat)->Rd α)->Rd α
 |[],[],k=>k [] []
 |sl::sls,a::as,k=>BU O sl a fun l og src=>j4 sls as fun ls srcs=>k ((l,og)::ls) (src++srcs)
 |_,_,_=>.fail
def TE {α:Type}(slot:Option Nat)(a:A)(k:H->Option Nat->List (Nat×Nat)->Rd α):Rd α:=
 match a,slot with
 | .ro sz' es,some sz=>if sz'==sz then k (.ro (.s sz' es)) none []else .fail
 | .vw r j ver lo m,some sz=>ig r j fun h=>match RF h.org with
   | some i=>match h.c with
     | .own (.s sz' es)=>if h.ver==ver&&sz'==sz then .req (O.pr fun _=>lo=0/\m=es.length) (k .gone (some i) [])else .fail
     |_=>.fail
   |none=>BU O (some sz) (.vw r j ver lo m) fun l og src=>k (.own l) og src
 |a,slot=>BU O slot a fun l og src=>k (.own l) og src
def vd {α:Type}:List (Option Nat)->List A->(List (H×Option Nat)->List (Nat×Nat)->Rd α)->Rd α
 |[],[],k=>k [] []
 |sl::sls,a::as,k=>TE O sl a fun h og src=>vd sls as fun hs srcs=>k ((h,og)::hs) (src++srcs)
 |_,_,_=>.fail
def FX (t:TypeId)(x y:Operand):Rd Out:=
 match lk T.tyL t with
 |none=>.fail
 | some ti=>gT x fun p=>ev y fun val=>
   match dK val with
   |none=>.fail
   | some as=>
     match p with
     | .pt r j=>vd O ti.slots as fun hs srcs=>
       if bp srcs&&srcs.all (fun s=> !E1 r j hs.length s)then
        jk srcs fun w1=>ir r j hs fun w2=>.ret (.ws (w1++w2))
       else .fail
     | .pn r j ver iv p=>j4 O ti.slots as fun ls srcs=>
       if bp srcs&&srcs.all (fun s=>s !=(r,j))then
        jk srcs fun w1=>ig r j fun h=>
         if C0 h ver iv p then match h.c with
          | .own (.s sz es)=>.req (O.pr fun _=>∃ rec o,bT (.s sz es) p=some (rec,o)/\o+ls.length<=rec.length)
             (.ret (.ws (w1++[.leaf r j ⟨h.ver,h.iv+1,h.org,.own (.s sz (O.up (.s sz es) p (ls.map (·.1))))⟩])))
          |_=>.fail
         else .fail
       else .fail
     |_=>.fail
def OQ (d:Option Tmp)(t:TypeId)(x:Operand):Rd Out:=
 match lk T.tyL t with
 |none=>.fail
 | some ti=>ev x fun val=>
   match dK val with
   |none=>.fail
   | some as=>fresh n d fun d=>vd O ti.slots as fun hs srcs=>
     if bp srcs then jk srcs fun w1=>.ret (.ws (w1++[.root d true (yO hs),.reg d (.one (.pt d 0))]))else .fail
def sg (d sz:Nat)(es:ab):List W:=[.root d false [⟨0,0,none,.own (.s sz es)⟩],.reg d (.one (.vw d 0 0 0 (O.ln es)))]
def Jf (d:Option Tmp)(t:TypeId)(len cap:Operand):Rd Out:=
 match lk T.elL t with
 |none=>.fail
 | some (_,ti,bytes)=>k8 len fun kl l=>k8 cap fun kc c=>
   if kl==.i64&&kc==.i64 then
    .req (O.pr fun _=>0<=l/\l<=c/\c*(bytes:Int)<=70368744177664/\c<=70368744177664) (fresh n d fun d=>.ret (.ws (sg O d ti.zero.length (O.rep l ti.zero))))
   else .fail
def uY {α:Type}(ti:TI)(len:Nat):List (Nat×Operand)->(List (Nat×ax)->List (Nat×Nat)->Rd α)->Rd α
 |[],k=>k [] []
 | (i,x)::ps,k=>if i<len then ev x fun val=>match dK val with
     |none=>.fail
     |some as=>j4 O ti.slots as fun ls src=>uY ti len ps fun rest srcs=>k ((i,ls.map (·.1))::rest) (src++srcs)
  else .fail
def qi (d:Option Tmp)(t:TypeId)(len:Nat)(parts:Array (Nat×Operand)):Rd Out:=
 match lk T.elL t with
 |none=>.fail
 | some (_,ti,_)=>if len*ti.zero.length<=16777216 then
    uY O ti len parts.toList fun ps srcs=>if bp srcs then jk srcs fun w1=>fresh n d fun d=>.ret (.ws (w1++sg O d ti.zero.length (gB (ZM len ti.zero) ps)))else .fail
   else .fail
def rT (d:Option Tmp)(t:TypeId)(x i:Operand):Rd Out:=
 match lk T.elL t with
 |none=>.fail
 | some (_,ti,_)=>gT x fun a=>k8 i fun _ i=>
   match a with
   | .ro sz es=>if sz==ti.zero.length then .req (O.pr fun _=>0<=i/\i<es.length/\es.getD i.toNat []=mZ O es i 0 ti.zero) (bE n d (.one (.rp (mZ O es i 0 ti.zero) 0)))else .fail
   | .vw r j ver lo m=>ig r j fun h=>match h.c with
     | .own (.s sz _)=>if h.ver==ver&&sz==ti.zero.length then .req (O.pr fun _=>0<=i/\i<m) (bE n d (.one (.pn r j ver h.iv [(O.ad lo i,0)])))else .fail
     |_=>.fail
   | .vn r j ver iv p lo m=>ig r j fun h=>match h.c with
     | .own l=>if jm h ver iv then .req (O.pr fun _=>0<=i/\i<m/\∃ es,lz l p=some (ti.zero.length,es)) (bE n d (.one (.pn r j ver iv (p++[(O.ad lo i,0)]))))else .fail
     |_=>.fail
   |_=>.fail
def FV (d:Option Tmp)(t:TypeId)(x:Operand)(low high max:Option Operand):Rd Out:=
 match lk T.elL t,max with
 | some (_,ti,_),none=>gT x fun
   | .ro sz es=>if sz==ti.zero.length then hK low 0 fun l=>hK high (O.zi (O.ln es)) fun h=>
      .req (O.pr fun _=>0<=l/\l<=h/\h<=es.length) (bE n d (.one (.ro sz (O.sub es (O.nn l) (O.df h l)))))else .fail
   | .vw r j ver lo m=>ig r j fun hv=>match hv.c with
     | .own (.s sz _)=>if hv.ver==ver&&sz==ti.zero.length then hK low 0 fun l=>hK high (O.zi m) fun h=>
        .req (O.pr fun _=>0<=l/\l<=h/\h<=m) (bE n d (.one (.vw r j ver (O.ad lo l) (O.df h l))))else .fail
     |_=>.fail
   |_=>.fail
 |_,_=>.fail
def MV:BinOp->Bool
 | .shl=>true
 | .shr=>true
 |_=>false
def Qd:BinOp->Bool
 | .add=>true
 | .sub=>true
 | .mul=>true
 | .quo=>true
 | .rem=>true
 | .and=>true
 | .or=>true
 | .xor=>true
 | .andNot=>true
 |_=>false
def JQ:BinOp->Bool
 | .quo=>true
 | .rem=>true
 |_=>false
def JP:BinOp->Bool
 | .eql=>true
 | .neq=>true
 | .lss=>true
 | .leq=>true
 | .gtr=>true
 | .geq=>true
 |_=>false
def aa2:BinOp->Bool
 | .eql=>true
 | .neq=>true
 |_=>false
def ON (d:Option Tmp)(op:BinOp)(t:TypeId)(x y:Operand):Rd Out:=
 gT x fun a=>gT y fun b=>
  match a,b with
  | .v (.int k a),.v (.int k' b)=>
    if MV op then .req (O.pr fun _=>0<=b) (bE n d (.one (.v (.int k (O.sh op k a b)))))
    else if k==k' then
     (if JQ op then .req (O.pr fun _=>b≠0) (bE n d (.one (.v (.int k (O.ar op k a b)))))
      else if Qd op then bE n d (.one (.v (.int k (O.ar op k a b))))
      else if JP op then bE n d (.k (O.cmp op a b))
      else .fail)
    else .fail
  | .v (.bool a),.v (.bool b)=>if(lk T.boL t).isSome&&aa2 op then bE n d (.k (O.bq op a b))else .fail
  |_,_=>.fail
def acw (d:Option Tmp)(op:UnOp)(x:Operand):Rd Out:=
 gT x fun a=>match op,a with
  | .not,.v (.bool b)=>bE n d (.k (O.bn b))
  | .neg,.v (.int k a)=>bE n d (.one (.v (.int k (O.ar .sub k 0 a))))
  |_,_=>.fail
def SV {α:Type}(a:A)(k:Nat->Rd α):Rd α:=
 match a with
 | .nl=>k 0
 | .ro _ es=>k (O.ln es)
 | .vw r j ver _ m=>ig r j fun h=>match h.c with
   | .own (.s _ _)=>if h.ver==ver then k m else .fail
   |_=>.fail
 | .vn r j ver iv p _ m=>ig r j fun h=>match h.c with
   | .own l=>if jm h ver iv then .req (O.pr fun _=>(lz l p).isSome=true) (k m)else .fail
   |_=>.fail
 |_=>.fail
def wF {α:Type}(ti:TI)(a:A)(k:ab->List (Nat×Nat)->Rd α):Rd α:=
 match a with
 | .nl=>k [] []
 | .ro sz es=>if sz==ti.zero.length&&nj ti.slots then .req (O.pr fun _=>cG es) (k es [])else .fail
 | .vw r j ver lo m=>ig r j fun h=>match h.c with
   | .own (.s sz es)=>if h.ver==ver&&sz==ti.zero.length then
      (if nj ti.slots then .req (O.pr fun _=>cG es) (k (O.sub es lo m) [])
       else .req (O.pr fun _=>lo=0/\m=es.length) (k es [(r,j)]))
     else .fail
   |_=>.fail
 | .vn r j ver iv p lo m=>ig r j fun h=>match h.c with
   | .own l=>if jm h ver iv&&nj ti.slots then .req (O.pr fun _=>lz l p=some (ti.zero.length,O.ps l p)/\cG (O.ps l p)) (k (O.sub (O.ps l p) lo m) [])else .fail
   |_=>.fail
 |_=>.fail
def B5 (d:Option Tmp)(t t':TypeId)(s x:Operand):Rd Out:=
 match lk T.elL t with
 |none=>.fail
 | some (_,ti,bytes)=>if t==t' then gT s fun a=>gT x fun b=>
    BU O (some ti.zero.length) a fun l _ src=>match l with
     | .s sz es=>if sz==ti.zero.length then wF O ti b fun es2 src2=>if bp (src++src2)then
        .req (O.pr fun _=>(es.length+es2.length)*bytes<=70368744177664/\es.length+es2.length<=70368744177664) (jk (src++src2) fun w1=>fresh n d fun d=>.ret (.ws (w1++sg O d ti.zero.length (O.cat es es2))))
       else .fail else .fail
     |_=>.fail
   else .fail
def sy (d:Option Tmp)(t t':TypeId)(s x:Operand):Rd Out:=
 gT s fun
  | .vn _ _ _ _ _ _ _=>vl O.pr O.ps O.sub O.up O.cat (sg O) (fun ti b k=>wF O ti b k) (lk T.elL) n d t t' s x
  |_=>B5 T O n d t t' s x
def Jv {α:Type}(slot:Option Nat)(a:A)(k:L->Rd α):Rd α:=
 match a,slot with
 | .v x,none=>if scal x then k (.v x)else .fail
 | .nl,some sz=>k (.s sz [])
 | .ro sz' es,some sz=>if sz'==sz then k (.s sz' es)else .fail
 | .vw r j ver lo m,some sz=>ig r j fun h=>match h.c with
   | .own (.s sz' es)=>if h.ver==ver&&sz'==sz then k (.s sz' (O.sub es lo m))else .fail
   |_=>.fail
 | .vn r j ver iv p lo m,some sz=>ig r j fun h=>match h.c with
   | .own l=>if jm h ver iv then .req (O.pr fun _=>lz l p=some (sz,O.ps l p)) (k (.s sz (O.sub (O.ps l p) lo m)))else .fail
   |_=>.fail
 |_,_=>.fail
def lL {α:Type}:List (Option Nat)->List A->(ax->Rd α)->Rd α
 |[],[],k=>k []
 |sl::sls,a::as,k=>Jv O sl a fun l=>lL sls as fun ls=>k (l::ls)
 |_,_,_=>.fail
def LW {α:Type}(t:TypeId)(x:Operand)(k:DV->Rd α):Rd α:=
 match lk T.tyL t with
 |none=>if(lk T.pnL t).isSome then LZ (lk T.ptL t) x k else .fail
 | some ti=>ev x fun val=>match val with
   | .one a=>if ti.agg then .fail else lL O ti.slots [a] fun ls=>match ls with
     |[l]=>k (.one l)
     |_=>.fail
   | .agg as=>if ti.agg then lL O ti.slots as fun ls=>k (.agg ls)else .fail
   | .tup _=>.fail
def Es {α:Type}:List TypeId->List Operand->(List DV->Rd α)->Rd α
 |[],[],k=>k []
 |t::ts,x::xs,k=>LW T O t x fun d=>Es ts xs fun ds=>k (d::ds)
 |_,_,_=>.fail
def gC (d:Nat):Nat->ax->List A
 |_,[]=>[]
 |j,.v x::ls=>.v x::gC d (j+1) ls
 |j,.s _ es::ls=>.vw d j 0 0 (O.ln es)::gC d (j+1) ls
 |j,.g::ls=>.un::gC d (j+1) ls
 |j,.m _ _::ls=>.un::gC d (j+1) ls
def G6 (d j:Nat):DV->R
 | .one l=>match gC O d j [l]with
   |[a]=>.one a
   |_=>.agg []
 | .agg ls=>.agg (gC O d j ls)
 |_=>.agg []
def Fs (d:Nat):Nat->List DV->List R
 |_,[]=>[]
 |j,r::rs=>G6 O d j r::Fs d (j+(aR r).length) rs
def Kw (d:Nat)(res:List DV):R:=match res with
 |[r]=>G6 O d 0 r
 |rs=>.tup (Fs O d 0 rs)
def gD (d:Nat)(res:List DV):List W:=
 [.root d false ((res.flatMap aR).map fun l=>⟨0,0,none,.own l⟩),.reg d (Kw O d res)]
def Jb (d:Option Tmp)(f:FuncId)(ts:Array TypeId)(args:Array Operand):Rd Out:=
 if(lk T.fnL f).isSome then Es T O ts.toList args.toList fun ds=>match ct.rd f ds with
  |some (pre,res)=>.req (O.pr pre) (fresh n d fun d=>.ret (.ws (gD O d res)))
  |none=>.fail
 else .fail
def FJ (d:Option Tmp)(t:Tmp)(ts:Array TypeId)(args:Array Operand):Rd Out:=
 gT (.tmp t) fun
  | .fn f caps=>Es T O ts.toList args.toList fun ds=>gJ caps fun recs=>match ct.rd f (ds++recs.map .ptr)with
    |some (pre,res)=>.req (O.pr pre) (.req (O.pr fun _=>(lk T.fnL f).isSome=true) (fresh n d fun d=>.ret (.ws (gD O d res))))
    |none=>.fail
  |_=>.fail
def abZ:Option TI->Bool
 |some ti=> !ti.agg&&ti.zero.length.beq 1
 |none=>false
def vp (d:Option Tmp)(t:TypeId)(x:Operand):Rd Out:=
 match abZ (lk T.tyL t)with
 | true=>gT x fun
   | .pt r j=>.peek r j ⟨O.ln,O.lnOk⟩ fun
     |some (ver,_,m)=>bE n d (.one (.vw r j ver 0 m))
     |none=>tD T O n d t x
   |_=>tD T O n d t x
 |false=>tD T O n d t x
def lD (d:Option Tmp)(t:TypeId)(x i:Operand):Rd Out:=
 match lk T.elL t with
 |none=>.fail
 | some (_,ti,_)=>gT x fun
   | .vw r j ver lo m=>.peek r j ⟨O.ln,O.lnOk⟩ fun
     |some (ver',sz,_)=>if ver'==ver&&sz==ti.zero.length then k8 i fun _ i=>.req (O.pr fun _=>0<=i/\i<m) (bE n d (.one (.pn r j ver 0 [(O.ad lo i,0)])))else .fail
     |none=>.fail
   |_=>rT T O n d t x i
def FO (d:Option Tmp)(t:Tmp)(ts:Array TypeId)(args:Array Operand):Rd Out:=
 gT (.tmp t) fun
  | .fn f _=>match ct.pt f with
    |some _=>sB O.pr (fun {β}=>lL O (α:=β)) (lk T.tyL) (lk T.ptL) (fun t=>(lk T.pnL t).isSome) n d (fun f=>(lk T.fnL f).isSome) t ts args ct.pt (gD O)
    |none=>FJ T O ct n d t ts args
  |_=>.fail
def FE (d:Option Tmp)(t:TypeId):Rd Out:=
 match lk T.tyL t with
 |none=>.fail
 |some ti=>fresh n d fun d=>.ret (.ws [.root d true (ti.zero.map fun l=>⟨0,0,none,.own l⟩),.reg d (.one (.pt d 0))])
def FG (d:Option Tmp)(t:TypeId)(parts:Array (Nat×Operand)):Rd Out:=
 match lk T.tyL t with
 |none=>.fail
 | some ti=>match lk T.bdL t with
   |none=>.fail
   |some bd=>jq bd parts.toList (ti.zero.map OY) fun as=>bE n d (.agg as)
def rS (d:Option Tmp)(s:TypeId)(x:Operand)(f:Nat):Rd Out:=
 match lkF (lk T.fdL s) f with
 |none=>.fail
 | some o=>gT x fun
   | .pt r j=>bE n d (.one (.pt r (j+o)))
   | .rp rec j=>bE n d (.one (.rp rec (j+o)))
   | .pn r j ver iv p=>ig r j fun h=>match h.c with
     | .own _=>if C0 h ver iv p then bE n d (.one (.pn r j ver iv (xE p o)))else .fail
     |_=>.fail
   |_=>.fail
def mmO (isMax:Bool):List Value->Option Value
 |[.int k a,.int k' b]=>if k==k' then some (.int k (O.mm isMax a b))else none
 |_=>none
def sI (o:Oper):Rd Out:=
 match o.op with
 | .move x=>ev x fun r=>bE n o.dst r
 | .assign x=>ev x fun r=>
   match x,r,o.dst with
   | .tmp t,.one (.vw r0 j ver lo m),some d=>
     if r0=t/\r0≠d/\d<n then .get (.meta_ r0) fun
      | some (.m 1 false)=>ig r0 j fun h=>match h.c,h.org with
        | .own (.s sz es),none=>if h.ver==ver then .req (O.pr fun _=>lo=0/\m=es.length) (.get (.meta_ d) fun
          |none=>.ret (.ws ([.leaf r0 j ⟨h.ver+1,h.iv,none,.gone⟩]++sg O d sz es))
          |some (.m 1 false)=>ig d 0 fun h2=>.ret (.ws [.leaf r0 j ⟨h.ver+1,h.iv,none,.gone⟩,.leaf d 0 ⟨h2.ver+1,h2.iv+1,none,.own (.s sz es)⟩,.reg d (.one (.vw d 0 (h2.ver+1) 0 (O.ln es)))])
          |_=>.fail)else .fail
        |_,_=>.fail
      |_=>.fail
     else bE n o.dst r
   |_,_,_=>bE n o.dst r
 | .pick c a b=>ES c fun c=>gT a fun a=>gT b fun b=>match a,b with
   | .v x,.v y=>match x,y with
     | .bool x,.bool y=>bE n o.dst (.k (O.sel c x y))
     | .tuple _,.bool y=>.br c .fail (bE n o.dst (.k y))
     | .bool x,.tuple _=>.br c (bE n o.dst (.k x)) .fail
     |_,_=>.fail
   |_,_=>.fail
 | .alloc t=>FE T n o.dst t
 | .box t x=>OQ T O n o.dst t x
 | .build t parts=>FG T n o.dst t parts
 | .buildSlice t len parts=>qi T O n o.dst t len parts
 | .load t x=>vp T O n o.dst t x
 | .store t x y=>match o.dst with
   |none=>FX T O t x y
   |some _=>.fail
 | .fieldAddr s x f=>rS T n o.dst s x f
 | .indexAddr t x i=>lD T O n o.dst t x i
 | .nilCheck x=>gT x fun a=>match a with
   | .pt _ _=>bE n o.dst (.one a)
   | .rp _ _=>bE n o.dst (.one a)
   |_=>.fail
 | .binOp op t x y _=>ON T O n o.dst op t x y
 | .unOp op _ x=>acw O n o.dst op x
 | .convert src dst x=>k8 x fun _ a=>match lk T.itL src,lk T.itL dst with
   |some _,some k=>bE n o.dst (.one (.v (.int k (O.wr k a))))
   |_,_=>.fail
 | .makeSlice t l c=>Jf T O n o.dst t l c
 | .slice t x lo hi mx=>FV T O n o.dst t x lo hi mx
 | .makeFunc fn first captured=>match fn,first.toList with
   | .func f,[]=>Gp captured.toList fun cs=>bE n o.dst (.one (.fn f cs))
   |_,_=>.fail
 | .extract x i=>ev x fun r=>match r with
   | .tup rs=>match rs[i]? with
     |some r=>bE n o.dst r
     |none=>.fail
   |_=>.fail
 | .makeMap t r=>pm (lk T.mpL) n o.dst t r
 | .field t x f=>wN (lk T.cmL) n o.dst t x f
 | .range t x=>wQ (lk T.mpL) n o.dst t x
 | .entry x=>B8 n o.dst x
 | .lookup t x i ok=>sC O.mgb O.mgi (lk T.mpL) n o.dst t x i ok
 | .mapEntry t m k=>lH O.mgb O.mgi O.mu (lk T.mpL) n o.dst t m k
 | .entryStore t m s x=>match o.dst with
   |none=>iu O.mu (lk T.mpL) t m s x
   |some _=>.fail
 | .mapUpdate t m k v=>match o.dst with
   |none=>sD O.mu (lk T.mpL) t m k v
   |some _=>.fail
 | .call c=>match c.callee with
   | .builtin .len=>match c.args.toList,c.argTypes.toList with
     |[x],[t]=>if(lk T.slL t).isSome then gT x fun a=>SV O a fun m=>bE n o.dst (.j (O.zi m))else .fail
     |_,_=>.fail
   | .builtin .append=>match c.args.toList,c.argTypes.toList with
     |[s,x],[t,t']=>sy T O n o.dst t t' s x
     |_,_=>.fail
   | .builtin .min=>rl c.args.toList fun vs=>match mmO O false vs with
     |some v=>bE n o.dst (.one (.v v))
     |none=>.fail
   | .builtin .max=>rl c.args.toList fun vs=>match mmO O true vs with
     |some v=>bE n o.dst (.one (.v v))
     |none=>.fail
   | .value (.func f)=>match ct.nw f with
    |some _=>.fail
    |none=>match ct.tk f with
    |some mk=>wL (fun {β}=>j4 O (α:=β)) (lk T.tyL) O.pr n o.dst (lk T.fnL f).isSome c.argTypes c.args mk (gD O)
    | none=>match ct.pt f with
     |some mk=>wK O.pr (fun {β}=>lL O (α:=β)) (lk T.tyL) (lk T.ptL) (fun t=>(lk T.pnL t).isSome) n o.dst (lk T.fnL f).isSome c.argTypes c.args mk (gD O)
     | none=>match ct.mu f with
       |some mk=>wJ O.pr O.ps O.up (lk T.tyL) n o.dst (lk T.fnL f).isSome c.argTypes c.args mk (gD O)
       |none=>Jb T O ct n o.dst f c.argTypes c.args
   | .value (.tmp t)=>FO T O ct n o.dst t c.argTypes c.args
   |_=>.fail
 |_=>.fail
end
end Go.V
namespace Go.V
def K7 {α:Type}(r j:Nat)(h:Hv)(k:A->Rd α):Iu ah r j h k=Bm r j h k:=rfl
def mO {α:Type}(r:Nat):∀ (m j:Nat) (k:List A->Rd α),im ah r j m k=fb r j m k
 |0,j,k=>rfl
 | m+1,j,k=>by
   simp only[im,fb]
   congr 1;funext h
   rw[K7]
   congr 1;funext a
   exact mO r m (j+1) _
def pc (r j ver iv:Nat)(p:List (Nat×Nat)):∀ (ls:ax) (o:Nat),oH ah r j ver iv p o ls=lc r j ver iv p o ls
 |[],o=>rfl
 | .v x::ls,o=>by simp only[oH,lc,pc r j ver iv p ls]
 | .s sz es::ls,o=>by simp only[oH,lc,pc r j ver iv p ls];rfl
 | .g::ls,o=>by simp only[oH,lc,pc r j ver iv p ls]
 | .m _ _::ls,o=>by simp only[oH,lc,pc r j ver iv p ls]
def D5: @BU ah= @take1:=rfl
def j5 {α:Type}:∀ (sl:List (Option Nat)) (as:List A) (k:List (L×Option Nat)->List (Nat×Nat)->Rd α),j4 ah sl as k=dc sl as k
 |[],[],k=>rfl
 |[],_::_,k=>rfl
 |_::_,[],k=>rfl
 | s::sl,a::as,k=>by
   simp only[j4,dc,D5]
   congr 1;funext l og src
   exact j5 sl as _
def N6: @TE ah= @QF:=rfl
def tu {α:Type}:∀ (sl:List (Option Nat)) (as:List A) (k:List (H×Option Nat)->List (Nat×Nat)->Rd α),vd ah sl as k=oI sl as k
 |[],[],k=>rfl
 |[],_::_,k=>rfl
 |_::_,[],k=>rfl
 | s::sl,a::as,k=>by
   simp only[vd,oI,N6]
   congr 1;funext l og src
   exact tu sl as _
def Bz:sg ah=ownRow:=rfl
def xx {α:Type}(ti:TI)(len:Nat):∀ (ps:List (Nat×Operand)) (k:List (Nat×ax)->List (Nat×Nat)->Rd α),uY ah ti len ps k=partsOf ti len ps k
 |[],k=>rfl
 | (i,x)::ps,k=>by
  simp only[uY,partsOf,j5,xx ti len ps];rfl
def j3 (d:Nat):∀ (ls:ax) (j:Nat),gC ah d j ls=er d j ls
 |[],j=>rfl
 | .v x::ls,j=>by simp only[gC,er,j3 d ls]
 | .s sz es::ls,j=>by simp only[gC,er,j3 d ls];rfl
 | .g::ls,j=>by simp only[gC,er,j3 d ls]
 | .m _ _::ls,j=>by simp only[gC,er,j3 d ls]
def BH (d j:Nat)(r:DV):G6 ah d j r=G5 d j r:=by
 cases r<;>simp only[G6,G5,j3]<;>rfl
def DZ (d:Nat):∀ (rs:List DV) (j:Nat),Fs ah d j rs=mQ d j rs
 |[],j=>rfl
 |r::rs,j=>by simp only[Fs,mQ,BH,DZ d rs]
def lG (d:Nat)(res:List DV):gD ah d res=dT d res:=by
 unfold gD dT Kw jc;split<;>simp only[BH,DZ]
section
variable {P: Program} {T: y9} {n: Nat} {g: Gm}
def OR (hT:bF P T){d:Option Tmp}{t:TypeId}{x:Operand}{ls:List Loc}{out:Out}(h:(OQ T ah n d t x).Runs g ls out):(OP P n d t x).Runs g ls out:=by
 revert h;unfold OQ OP
 rcases hT.ty t with e|⟨ti,e,e2⟩
 ·simp only[e];exact fun h=>h.elim
 ·simp only[e,e2,tu];exact fun h=>h
def Ls (hT:bF P T){d:Option Tmp}{t:TypeId}{x y:Operand}{ls:List Loc}{out:Out}(h:(Jf T ah n d t x y).Runs g ls out):(HC P n d t x y).Runs g ls out:=by
 revert h;unfold Jf HC
 rcases hT.el t with e|⟨ti,e,e2⟩
 ·simp only[e];exact fun h=>h.elim
 ·simp only[e,e2,Bz];exact fun h=>h
def yZ (hT:bF P T){d:Option Tmp}{t:TypeId}{len:Nat}{parts:Array (Nat×Operand)}{ls:List Loc}{out:Out}(h:(qi T ah n d t len parts).Runs g ls out):(j7 P n d t len parts).Runs g ls out:=by
 revert h;unfold qi j7
 rcases hT.el t with e|⟨ti,e,e2⟩
 ·simp only[e];exact fun h=>h.elim
 ·simp only[e,e2,Bz,xx];exact fun h=>h
def I7 (hT:bF P T){d:Option Tmp}{t:TypeId}{ls:List Loc}{out:Out}(h:(FE T n d t).Runs g ls out):(B0 P n d t).Runs g ls out:=by
 revert h;unfold FE B0
 rcases hT.ty t with e|⟨ti,e,e2⟩
 ·simp only[e];exact fun h=>h.elim
 ·simp only[e,e2];exact fun h=>h
def I9 (hT:bF P T){d:Option Tmp}{t:TypeId}{parts:Array (Nat×Operand)}{ls:List Loc}{out:Out}(h:(FG T n d t parts).Runs g ls out):(B7 P n d t parts).Runs g ls out:=by
 revert h;unfold FG B7
 rcases hT.ty t with e|⟨ti,e,e2⟩
 ·simp only[e];exact fun h=>h.elim
 ·rcases hT.bd t with f|⟨bd,f,f2⟩
  ·simp only[e,f];exact fun h=>h.elim
  ·simp only[e,e2,f,f2];exact fun h=>h
def B9 (hT:bF P T){d:Option Tmp}{s:TypeId}{x:Operand}{f:Nat}{ls:List Loc}{out:Out}(h:(rS T n d s x f).Runs g ls out):(mV P n d s x f).Runs g ls out:=by
 revert h;unfold rS mV
 rcases hT.fd s f with e|⟨ti,e,e2⟩
 ·simp only[e];exact fun h=>h.elim
 ·simp only[e,e2];exact fun h=>h
def Kv {α:Type}{l:Loc}{k' k:Val->Rd α}{x:α}{ls:List Loc}(hk:∀ v ls,(k' v).Runs g ls x->(k v).Runs g ls x)(h:(rd l k').Runs g ls x):(rd l k).Runs g ls x:=by
 unfold rd at*;simp only[Rd.Runs]at*;obtain⟨ls',e,h⟩:=h;refine⟨ls',e,?_⟩;cases hg:g l with
 |none=>simp[hg,Rd.Runs]at h
 |some v=>simp only[hg]at h ⊢;exact hk v _ h
def BE {α:Type}{d:Nat}{k' k:R->Rd α}{x:α}{ls:List Loc}(hk:∀ v ls,(k' v).Runs g ls x->(k v).Runs g ls x)(h:(G3 d k').Runs g ls x):(G3 d k).Runs g ls x:=by
 refine Kv ?_ h;intro v ls h;cases v with
 |r y=>exact hk _ _ h
 |h y=>exact h
 |m a b=>exact h
def du {α:Type}{r j:Nat}{k' k:Hv->Rd α}{x:α}{ls:List Loc}(hk:∀ v ls,(k' v).Runs g ls x->(k v).Runs g ls x)(h:(ig r j k').Runs g ls x):(ig r j k).Runs g ls x:=by
 refine Kv ?_ h;intro v ls h;cases v with
 |h y=>exact hk _ _ h
 |r y=>exact h
 |m a b=>exact h
def ze {α:Type}{y:Operand}{k' k:R->Rd α}{x:α}{ls:List Loc}(hk:∀ v ls,(k' v).Runs g ls x->(k v).Runs g ls x)(h:(ev y k').Runs g ls x):(ev y k).Runs g ls x:=by
 cases y with
 |tmp t=>exact BE hk h
 |const c=>exact hk _ _ h
 |_=>exact h
def eg {α:Type}{y:Operand}{k' k:A->Rd α}{x:α}{ls:List Loc}(hk:∀ v ls,(k' v).Runs g ls x->(k v).Runs g ls x)(h:(gT y k').Runs g ls x):(gT y k).Runs g ls x:=by
 refine ze ?_ h;intro v ls h;cases v with
 |one a=>exact hk _ _ h
 |agg as=>exact h
 |tup rs=>exact h
def td {α:Type}{y:Operand}{k' k:IntKind->Int->Rd α}{x:α}{ls:List Loc}(hk:∀ v w ls,(k' v w).Runs g ls x->(k v w).Runs g ls x)(h:(k8 y k').Runs g ls x):(k8 y k).Runs g ls x:=by
 refine eg ?_ h;intro v ls h;cases v with
 | v y=>cases y with
   |int kd m=>exact hk _ _ _ h
   |_=>exact h
 |_=>exact h
def uA {α:Type}{y:Option Operand}{dflt:Int}{k' k:Int->Rd α}{x:α}{ls:List Loc}(hk:∀ v ls,(k' v).Runs g ls x->(k v).Runs g ls x)(h:(hK y dflt k').Runs g ls x):(hK y dflt k).Runs g ls x:=by
 cases y with
 |none=>exact hk _ _ h
 |some y=>exact td (fun _ _ ls h=>hk _ ls h) h
def mP {α:Type}{c' c:Prop}{k' k:Rd α}{x:α}{ls:List Loc}(hc:c'->c)(hk:∀ ls,k'.Runs g ls x->k.Runs g ls x)(h:(Rd.req c' k').Runs g ls x):(Rd.req c k).Runs g ls x:=⟨hc h.1,hk _ h.2⟩
def cO {α:Type}{b:Prop}[Decidable b]{k' k:Rd α}{x:α}{ls:List Loc}(hk:∀ ls,k'.Runs g ls x->k.Runs g ls x)(h:(if b then k' else Rd.fail).Runs g ls x):(if b then k else Rd.fail).Runs g ls x:=by
 split at h
 ·rename_i hb;rw[VE hb];exact hk _ h
 ·exact h.elim
def Jg (hT:bF P T){d:Option Tmp}{t:TypeId}{x:Operand}{lo hi mx:Option Operand}{ls:List Loc}{out:Out}(h:(FV T ah n d t x lo hi mx).Runs g ls out):(Ce P n d t x lo hi mx).Runs g ls out:=by
 revert h
 unfold FV Ce;rcases hT.el t with e|⟨q,e,e2⟩
 ·simp only[e];exact fun h=>h.elim
 simp only[e,e2];intro h;cases mx with
 |some _=>exact h.elim
 | none=>
   ·
     obtain⟨e,ti,b⟩:=q;refine eg ?_ h;intro a ls h;cases a with
     | ro sz es=>
       refine cO (fun ls h=>?_) h;refine uA (fun l ls h=>?_) h;refine uA (fun u ls h=>?_) h;refine mP id (fun ls h=>?_) h;rw[show(es.take u.toNat).drop l.toNat=(es.drop l.toNat).take (u.toNat-l.toNat)from YL ..];exact h
     | vw r j ver lo m=>
       refine du ?_ h;intro hv ls h
       revert h
       generalize hv.c=c;intro h;cases c with
       | own l=>cases l with
         |s sz es=>exact h
         |v x=>exact h
         |g=>exact h
         |m _ _=>exact h
       |ro l=>exact h
       |gone=>exact h
     |_=>exact h
def BV {α:Type}{slot:Option Nat}{a:A}{k' k:L->Option Nat->List (Nat×Nat)->Rd α}{x:α}{ls:List Loc}(hk:∀ l og src ls,(k' l og src).Runs g ls x->(k l og src).Runs g ls x)(h:(take1 slot a k').Runs g ls x):(take1 slot a k).Runs g ls x:=by
 cases slot with
 | none=>
   cases a with
   |v y=>exact cO (fun ls h=>hk _ _ _ _ h) h
   |_=>exact h
 | some sz=>
   cases a with
   |nl=>exact hk _ _ _ _ h
   | vw r j ver lo m=>
     refine du ?_ h;intro hv ls h
     revert h
     generalize hv.c=c;intro h;cases c with
     | own l=>cases l with
       |s sz' es=>exact cO (fun ls h=>mP id (fun ls h=>hk _ _ _ _ h) h) h
       |v x=>exact h
       |g=>exact h
       |m _ _=>exact h
     |ro l=>exact h
     |gone=>exact h
   | mv r j ver=>
     refine du ?_ h;intro hv ls h
     revert h
     generalize hv.c=c;intro h;cases c with
     | own l=>cases l with
       |m kb es=>exact cO (fun ls h=>hk _ _ _ _ h) h
       |v x=>exact h
       |g=>exact h
       |s _ _=>exact h
     |ro l=>exact h
     |gone=>exact h
   |_=>exact h
def jf {α:Type}:∀ {sl:List (Option Nat)} {as:List A} {k' k:List (L×Option Nat)->List (Nat×Nat)->Rd α} {x:α} {ls:List Loc},(∀ l src ls,(k' l src).Runs g ls x->(k l src).Runs g ls x)->(dc sl as k').Runs g ls x->(dc sl as k).Runs g ls x
 |[],[],k',k,x,ls,hk,h=>hk _ _ _ h
 |[],_::_,k',k,x,ls,hk,h=>h
 |_::_,[],k',k,x,ls,hk,h=>h
 |s::sl,a::as,k',k,x,ls,hk,h=>BV (fun l og src ls h=>jf (fun _ _ ls h=>hk _ _ ls h) h) h
def Bc {α:Type}:∀ {xs:List (Nat×Nat)} {k' k:List W->Rd α} {x:α} {ls:List Loc},(∀ l ls,(k' l).Runs g ls x->(k l).Runs g ls x)->(jk xs k').Runs g ls x->(jk xs k).Runs g ls x
 |[],k',k,x,ls,hk,h=>hk _ _ h
 |(r,j)::xs,k',k,x,ls,hk,h=>du (fun v ls h=>Bc (fun _ ls h=>hk _ ls h) h) h
def rW {l:L}{p:List (Nat×Nat)}{sz:Nat}{es:ab}(h:lz l p=some (sz,es)):∃ rec o,bT l p=some (rec,o)/\rec[o]?=some (.s sz es):=by
 unfold lz at h;split at h
 ·rename_i rec o e;split at h
  ·rename_i sz' es' e';cases h;exact⟨rec,o,e,e'⟩
  ·cases h
 ·cases h
def Lr (hT:bF P T){d:Option Tmp}{t:TypeId}{x:Operand}{ls:List Loc}{out:Out}(h:(tD T ah n d t x).Runs g ls out):(Hz P n d t x).Runs g ls out:=by
 revert h
 unfold tD Hz;rcases hT.ty t with e|⟨ti,e,e2⟩
 ·simp only[e];exact fun h=>h.elim
 simp only[e,e2];intro h
 ·
   refine eg ?_ h;intro a ls h;cases a with
   |pt r j=>simp only[mO]at h;exact h
   | pn r j ver iv p=>
     refine du ?_ h;intro hv ls h;refine cO (fun ls h=>?_) h
     revert h
     generalize hv.c=c;intro h;cases c with
     | own l=>
       obtain⟨⟨rec,o,e1,e2,e3⟩,h⟩:=h;simp only[e1,Rd.Runs];refine⟨e2,?_⟩;rw[e3];rw[pc]at h;exact h
     |ro l=>exact h
     |gone=>exact h
   | rp rec j=>
     simp only at h ⊢;split at h
     ·rename_i hle;exact⟨hle,h⟩
     ·exact h.elim
   |_=>exact h
def Jh (hT:bF P T){t:TypeId}{x y:Operand}{ls:List Loc}{out:Out}(h:(FX T ah t x y).Runs g ls out):(Cf P t x y).Runs g ls out:=by
 revert h
 unfold FX Cf;rcases hT.ty t with e|⟨ti,e,e2⟩
 ·simp only[e];exact fun h=>h.elim
 simp only[e,e2];intro h
 ·
   refine eg ?_ h;intro a ls h;refine ze ?_ h;intro v ls h;generalize dK v=lv at h ⊢;cases lv with
   |none=>exact h.elim
   | some as=>
     cases a with
     |pt r j=>simp only[tu]at h;exact h
     | pn r j ver iv p=>
       simp only[j5]at h ⊢;refine jf ?_ h;intro lts srcs ls h;refine cO (fun ls h=>?_) h;refine Bc ?_ h;intro w1 ls h;refine du ?_ h;intro hv ls h;refine cO (fun ls h=>?_) h
       revert h
       generalize hv.c=c;intro h;cases c with
       | own l=>
         cases l with
         | s sz es=>
           obtain⟨⟨rec,o,e1,e2⟩,h⟩:=h;simp only[e1,Rd.Runs];refine⟨e2,?_⟩;simp only[Rd.Runs]at h;rw[h.1,h.2];refine⟨rfl,?_⟩;rw[Hd e1];rfl
         |v x=>exact h.elim
         |g=>exact h.elim
         |m _ _=>exact h.elim
       |ro l=>exact h.elim
       |gone=>exact h.elim
     |_=>exact h
def Ca (hT:bF P T){d:Option Tmp}{t:TypeId}{x y:Operand}{ls:List Loc}{out:Out}(h:(rT T ah n d t x y).Runs g ls out):(mW P n d t x y).Runs g ls out:=by
 revert h
 unfold rT mW;rcases hT.el t with e|⟨q,e,e2⟩
 ·simp only[e];exact fun h=>h.elim
 simp only[e,e2];intro h
 ·
   obtain⟨e,ti,b⟩:=q;refine eg ?_ h;intro a ls h;refine td ?_ h;intro kd i ls h;cases a with
   | ro sz es=>
     refine cO (fun ls h=>?_) h;obtain⟨⟨e1,e2,e3⟩,h⟩:=h;refine⟨⟨e1,e2⟩,?_⟩;rw[e3];exact h
   | vw r j ver lo m=>
     refine du ?_ h;intro hv ls h
     revert h
     generalize hv.c=c;intro h;cases c with
     |own l=>cases l<;>exact h
     |ro l=>exact h
     |gone=>exact h
   | vn r j ver iv p lo m=>
     refine du ?_ h;intro hv ls h
     revert h
     generalize hv.c=c;intro h;cases c with
     | own l=>
       refine cO (fun ls h=>?_) h;obtain⟨⟨e1,e2,es,e3⟩,h⟩:=h;obtain⟨rec,o,f1,f2⟩:=rW e3;simp only[f1,f2,beq_self_eq_true,if_true];exact⟨⟨e1,e2⟩,h⟩
     |ro l=>exact h
     |gone=>exact h
   |_=>exact h
end
end Go.V