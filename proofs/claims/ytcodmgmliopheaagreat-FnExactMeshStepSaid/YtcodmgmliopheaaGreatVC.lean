/-
  A condition generator for functions on trees of data, part 3 of 5: values in memory, contracts, soundness.
-/
import Derived.Test.YtcodmgmliopheaaGreatVB
set_option linter.all false
open Go
open Act renaming put->YZ
open BitVec renaming ofInt->Wq
open Bool renaming and_eq_true->AI,or_eq_true->Wo,eq_false_iff->YS
open Classical renaming byContradiction->ZE
open Deferred renaming ofValue->Xv
open Function renaming comp_apply->ZG
open Instr renaming findNow->Za,lookup->Yo,mapUpdate->X9,mapEntry->Yh,entryStore->YU
open List renaming all_eq_true->WX,mem_of_getElem?->VM,mem_cons->VN,mem_map->Wu,getElem?_eq_getElem->IN,getElem?_eq_some_iff->IT,getElem?_map->VZ,mem_append->BY,length_map->Yi,getElem?_of_mem->W6,getD->Wm,append_assoc->IS,drop_take->XB,take_take->XC,drop_drop->WF,length_drop->VR,append_nil->WU,ext_getElem?->V8,getElem?_set->XZ,getElem?_inj->YT,not_mem_nil->WW,length_append->By,length_take->VK,getElem?_append_left->Wa,getElem?_take->VV,getElem?_append_right->VY,getElem?_drop->VU,nodup_append->VP,take_append_drop->V2,getElem?_eq_none->Wb,nodup_nil->Wd,length_cons->V9,length_nil->Wy,map_cons->Wz,mem_cons_of_mem->YA,replicate->Wi,range->VW,getD_eq_getElem?_getD->If
open List.cons renaming injEq->WI
open MapKept renaming run_getObj_map->WJ,run_checkKey->W0,run_findKey->W5,run_setObj_map->Xc,run_keyThatStays->Yg,heap_set->YF
open Nat renaming eq_of_beq_eq_true->V0,beq_refl->Zp,le_of_ble_eq_true->W1,ble_eq_true_of_le->Yz,lt_or_ge->WM,le_refl->VJ,lt_succ_self->WP,zero_add->Wc,add_mul->VX,beq->WR,add_zero->VL,lt_irrefl->Zl,lt_of_lt_of_le->WB
open Obj renaming map->ZH
open Option renaming getD_some->Wk,map_eq_some_iff->VO,none->X1
open Option.some renaming injEq->Wn,inj->WT
open Region renaming wanted->Xz
open Result renaming andThen_ok->Wl,andThen->Wt
open Sem renaming run_bind->Wr,run_pure->Xg
open _root_.Array renaming toList_map->W9,toArray_toList->WQ,empty_append->Xw,getElem?_eq_some_iff->OF,getElem?_toList->V6,getElem?_modify->WY,length_toList->V3,size_push->YW
namespace Go.V
theorem vE :∀ {pts:List gN},jZ pts=true->∀ (i i':Nat) (p p':gN),i<i'->pts[i]?=some p->pts[i']?=some p'->Dz p p'=true
 |[],_,i,i',p,p',_,h,_=>by simp at h
 | q::ps,h,i,i',p,p',hi,h1,h2=>by
   simp only[jZ,AI,WX]at h;cases i with
   | zero=>
     simp at h1;subst h1;cases i' with
     |zero=>omega
     |succ i'=>simp at h2;exact h.1 p' (VM h2)
   | succ i=>
     cases i' with
     |zero=>omega
     |succ i'=>simp at h1 h2;exact vE h.2 i i' p p' (by omega) h1 h2
theorem xX {p q:gN}:Dz p q=true↔p.1≠q.1\/p.2.1+p.2.2.length<=q.2.1\/q.2.1+q.2.2.length<=p.2.1:=by
 have hb:∀ a b:Nat,a.beq b=true↔a=b:=fun a b=>⟨V0,fun e=>by subst e;exact Zp a⟩
 have hl:∀ a b:Nat,a.ble b=true↔a<=b:=fun a b=>⟨W1,Yz⟩
 unfold Dz;simp only[Wo,Bool.not_eq_true',hl];rw[YS,Ne,hb];simp[or_assoc]
theorem FM {s:Nat×Nat}{p:gN}:AD s p=true↔s.1=p.1/\p.2.1<=s.2/\s.2<p.2.1+p.2.2.length:=by
 have hb:∀ a b:Nat,a.beq b=true↔a=b:=fun a b=>⟨V0,fun e=>by subst e;exact Zp a⟩
 have hl:∀ a b:Nat,a.ble b=true↔a<=b:=fun a b=>⟨W1,Yz⟩
 unfold AD;simp only[AI,hb,hl]
 constructor
 ·rintro⟨h1,h2,h3⟩;exact⟨h1,h2,by omega⟩
 ·rintro⟨h1,h2,h3⟩;exact⟨h1,h2,by omega⟩
theorem vF {pts:List gN}(h:jZ pts=true){i i':Nat}{p p':gN}(hi:i≠i')(h1:pts[i]?=some p)(h2:pts[i']?=some p'):p.1≠p'.1\/p.2.1+p.2.2.length<=p'.2.1\/p'.2.1+p'.2.2.length<=p.2.1:=by
 rcases WM i i' with c|c
 ·exact xX.1 (vE h i i' p p' c h1 h2)
 ·have:=xX.1 (vE h i' i p' p (by omega) h2 h1);rcases this with q|q|q
  ·exact .inl (Ne.symm q)
  ·exact .inr (.inr q)
  ·exact .inr (.inl q)
section
variable {P : Program} {o : Oper} {cx : Cx} {G : Gh} {g : Gm} {a : Act} {w : World}
def D9 (G:Gh)(g:Gm)(p:gN):Prop:=
 (∃ b off,G.loc p.1=some (b,off))/\0<p.2.2.length/\∀ (i:Nat) c,p.2.2[i]?=some c->c≠ .gone/\∃ hv,g (.leaf p.1 (p.2.1+i))=some (.h hv)/\hv.c=c
inductive qb (G:Gh)(g:Gm)(w:World):List DV->List (Nat×Nat)->List gN->List Value->Prop where
 |nil:qb G g w [] [] [] []
 |dat {d v S src ds srcs pts vs} (hd:∀ hs,d≠ .mp hs) (h:j8 w d v S) (ht:∀ b∈S,G.ow b=some .ro\/∃ r j,(r,j)∈src/\G.ow b=some (.leaf r j)) (hs:qb G g w ds srcs pts vs):qb G g w (d::ds) (src++srcs) pts (v::vs)
 |ptr {p:gN} {b off ds srcs pts vs} (h:D9 G g p) (h0:G.loc p.1=some (b,off)) (hs:qb G g w ds srcs pts vs):qb G g w (.mp p.2.2::ds) srcs (p::pts) (.pointer (some ⟨b,off+p.2.1,none⟩)::vs)
theorem jo {α:Type}{r:Nat}:∀ (m j:Nat) (k:List H->Rd α) (ls:List Loc) (out:α),(ie r j m k).Runs g ls out->
 ∃ hs ls',hs.length=m/\(∀ (i:Nat) c,hs[i]?=some c->c≠ .gone/\∃ hv,g (.leaf r (j+i))=some (.h hv)/\hv.c=c)/\(k hs).Runs g ls' out
 |0,j,k,ls,out,h=>⟨[],ls,rfl,(fun i c e=>by simp at e),h⟩
 | m+1,j,k,ls,out,h=>by
   obtain⟨hv,ls2,_,q2,hk⟩:=ba (k:=fun h=>match h.c with
    | .own l=>ie r (j+1) m fun hs=>k (.own l::hs)
    | .ro l=>ie r (j+1) m fun hs=>k (.ro l::hs)
    | .gone=>.fail) h
   have fin:∀ c,c≠ .gone->hv.c=c->(ie r (j+1) m fun hs=>k (c::hs)).Runs g ls2 out->∃ hs ls',hs.length=m+1/\(∀ (i:Nat) c,hs[i]?=some c->c≠ .gone/\∃ hv,g (.leaf r (j+i))=some (.h hv)/\hv.c=c)/\(k hs).Runs g ls' out:=by
    intro c hc e hk;obtain⟨hs,ls3,e1,e2,e3⟩:=jo m (j+1) _ _ _ hk;refine⟨c::hs,ls3,by simp[e1],fun i c' e'=>?_,e3⟩;cases i with
    |zero=>simp at e';subst e';exact⟨hc,hv,q2,e⟩
    | succ i=>
      simp at e';have:=e2 i c' e';rw[show j+(i+1)=j+1+i from by omega];exact this
   cases hc:hv.c with
   |own l=>simp only[hc]at hk;exact fin _ (by simp) hc hk
   |ro l=>simp only[hc]at hk;exact fin _ (by simp) hc hk
   |gone=>simp[hc,Rd.Runs]at hk
theorem Cm (hS:aP cx G g a w){isP:TypeId->Bool}{t:TypeId}{x:Operand}{α:Type}{k:DV->List (Nat×Nat)->List gN->Rd α}{ls:List Loc}{out:α}(h:(zg dL (j3 P) (DL P) isP t x k).Runs g ls out):
 ∃ d src pt ls',(∀ ds srcs pts vs,qb G g w ds srcs pts vs->qb G g w (d::ds) (src++srcs) (pt++pts) (a.eval x::vs))/\(k d src pt).Runs g ls' out:=by
 unfold zg at h;cases hti:j3 P t with
 | none=>
   simp only[hti]at h;split at h
   case isFalse=>exact h.elim
   obtain⟨x0,ls1,hx,h⟩:=aW hS h;cases x0 with
   | pt r j=>
     simp only at h;split at h
     ·rename_i ti _;split at h
      ·rename_i hpos;obtain⟨hs,ls2,e1,e2,h⟩:=jo _ _ _ _ _ h;obtain⟨b,off,h0,h1⟩:=hx;refine⟨.mp hs,[],[(r,j,hs)],ls2,fun ds srcs pts vs hp=>?_,h⟩;have:=qb.ptr (p:=(r,j,hs)) (b:=b) (off:=off) ⟨⟨b,off,h0⟩,by rw[<-e1]at hpos;exact hpos,e2⟩ h0 hp;rw[h1];exact this
      ·exact h.elim
     ·exact h.elim
   |_=>exact h.elim
 | some ti=>
   simp only[hti]at h;obtain⟨r,ls1,hr,h⟩:=dr hS h;cases r with
   | one x0=>
     simp only[cg]at hr;simp only at h;split at h
     ·simp[Rd.Runs]at h
     ·obtain⟨l,S,ls2,k1,t1,h⟩:=oV hS _ [x0] [a.eval x] (by simp[bM,hr]) _ _ _ h;split at h
      ·rename_i l0;simp only[ak]at k1;obtain⟨v,vs',S1,S2,e1,k2,⟨e2,e3⟩,e4⟩:=k1;cases e1;refine⟨.one l0,EA x0,[],ls2,fun ds srcs pts vs hp=>qb.dat (S:=S1) (fun hs=>by simp) k2 (fun b hb=>?_) hp,h⟩
       simpa using t1 b (by rw[e4];simp[hb])
      ·simp[Rd.Runs]at h
   | agg as=>
     simp only[cg]at hr;obtain⟨vs,e,hr⟩:=hr;simp only at h;split at h
     ·obtain⟨l,S,ls2,k1,t1,h⟩:=oV hS _ as vs hr _ _ _ h;exact⟨.agg l,as.flatMap EA,[],ls2,fun ds srcs pts vs' hp=>qb.dat (S:=S) (fun hs=>by simp) ⟨vs,e,k1⟩ t1 hp,h⟩
     ·simp[Rd.Runs]at h
   |tup rs=>simp[Rd.Runs]at h
theorem kO (hS:aP cx G g a w){isP:TypeId->Bool}{α:Type}:∀ (ts:List TypeId) (xs:List Operand) (k:List DV->List (Nat×Nat)->List gN->Rd α) (ls:List Loc) (out:α),(oe dL (j3 P) (DL P) isP ts xs k).Runs g ls out->
 ∃ ds srcs pts ls',qb G g w ds srcs pts (xs.map a.eval)/\(k ds srcs pts).Runs g ls' out
 |[],[],k,ls,out,h=>⟨[],[],[],ls,.nil,h⟩
 |[],_::_,k,ls,out,h=>h.elim
 |_::_,[],k,ls,out,h=>h.elim
 | t::ts,x::xs,k,ls,out,h=>by
   simp only[oe]at h;obtain⟨d,src,pt,ls2,k1,h⟩:=Cm hS h;obtain⟨ds,srcs,pts,ls3,k2,h⟩:=kO hS ts xs _ _ _ h;exact⟨_,_,_,ls3,k1 _ _ _ _ k2,h⟩
open Classical in
noncomputable def paOf (G:Gh)(w:World)(p:gN):dX where
 b:=((G.loc p.1).getD (0,0)).1
 off:=((G.loc p.1).getD (0,0)).2+p.2.1
 hs:=p.2.2
 val:=fun i=>G.val p.1 (p.2.1+i)
 fp:=fun i=>match p.2.2[i]? with
  |some (.own _)=>G.fp p.1 (p.2.1+i)
  |some (.ro l)=>if h:∃ S,bC w l (G.val p.1 (p.2.1+i)) S/\∀ b∈S,G.ow b=some .ro then h.choose else[]
  |_=>[]
theorem qb.mem {ds:List DV}{srcs:List (Nat×Nat)}{pts:List gN}{vs:List Value}(h:qb G g w ds srcs pts vs):∀ p∈pts,D9 G g p:=by
 induction h with
 |nil=>intro p hp;cases hp
 |dat _ _ _ _ ih=>exact ih
 | ptr h _ _ ih=>
   intro p hp;rcases VN.1 hp with rfl|hp
   ·exact h
   ·exact ih p hp
theorem qb.args {ok:Nat->Prop}{ds:List DV}{srcs:List (Nat×Nat)}{pts:List gN}{vs:List Value}(h:qb G g w ds srcs pts vs)(hok:∀ b,(G.ow b=some .ro\/∃ r j,(r,j)∈srcs/\G.ow b=some (.leaf r j))->ok b):eg w ok ds vs (pts.map (paOf G w)):=by
 induction h with
 |nil=>exact⟨rfl,rfl⟩
 | @dat d v S src ds srcs pts vs hd h ht hs ih=>
   have h1:eg w ok ds vs (pts.map (paOf G w)):=ih (fun b hb=>hok b (by
    rcases hb with q|⟨r,j,q1,q2⟩
    ·exact .inl q
    ·exact .inr ⟨r,j,by simp[q1],q2⟩))
   have h2:∀ b∈S,ok b:=fun b hb=>hok b (by
    rcases ht b hb with q|⟨r,j,q1,q2⟩
    ·exact .inl q
    ·exact .inr ⟨r,j,by simp[q1],q2⟩)
   cases d with
   |mp hs=>exact absurd rfl (hd hs)
   |one l=>exact⟨v,vs,S,rfl,h,h2,h1⟩
   |agg l=>exact⟨v,vs,S,rfl,h,h2,h1⟩
   |ptr l=>exact⟨v,vs,S,rfl,h,h2,h1⟩
   |fn f l=>exact⟨v,vs,S,rfl,h,h2,h1⟩
 | @ptr p b off ds srcs pts vs h h0 hs ih=>
   refine⟨paOf G w p,_,vs,?_,rfl,rfl,ih hok⟩;simp[paOf,h0]
theorem oh (hS:aP cx G g a w){p:gN}(hp:D9 G g p){i:Nat}{l:L}(h:p.2.2[i]?=some (.own l)):
 (paOf G w p).fp i=G.fp p.1 (p.2.1+i)/\bC w l (G.val p.1 (p.2.1+i)) (G.fp p.1 (p.2.1+i))/\(G.fp p.1 (p.2.1+i)).Nodup/\∀ b∈G.fp p.1 (p.2.1+i),G.ow b=some (.leaf p.1 (p.2.1+i))/\dy w b:=by
 obtain⟨_,hv,e1,e2⟩:=hp.2.2 i _ h;have:=hS.hok (av.2 e1);simp only[cR,e2]at this;exact⟨by simp[paOf,h],this⟩
theorem ID (hS:aP cx G g a w){p:gN}(hp:D9 G g p){i:Nat}{l:L}(h:p.2.2[i]?=some (.ro l)):
 bC w l (G.val p.1 (p.2.1+i)) ((paOf G w p).fp i)/\∀ b∈(paOf G w p).fp i,G.ow b=some .ro:=by
 obtain⟨_,hv,e1,e2⟩:=hp.2.2 i _ h;have hx:=hS.hok (av.2 e1);simp only[cR,e2]at hx;have:(paOf G w p).fp i=hx.choose:=by simp only[paOf,h];rw[dif_pos hx]
 rw[this];exact hx.choose_spec
theorem sP (hS:aP cx G g a w){pts:List gN}(hp:∀ p∈pts,D9 G g p){b:Nat}(h:hL (pts.map (paOf G w)) b):
 ∃ p∈pts,∃ (i:Nat) (l:L),p.2.2[i]?=some (.own l)/\b∈G.fp p.1 (p.2.1+i)/\G.ow b=some (.leaf p.1 (p.2.1+i)):=by
 obtain⟨q,hq,i,l,h1,h2⟩:=h;obtain⟨p,hpm,rfl⟩:=Wu.1 hq;obtain⟨e1,e2,e3,e4⟩:=oh hS (hp p hpm) h1;rw[e1]at h2;exact⟨p,hpm,i,l,h1,h2,(e4 b h2).1⟩
theorem sT (hS:aP cx G g a w){pts:List gN}(hp:∀ p∈pts,D9 G g p){b:Nat}(h:lN (pts.map (paOf G w)) b):
 ∃ p∈pts,∃ off,G.loc p.1=some (b,off)/\G.ow b=some (.box (G.lead p.1)):=by
 obtain⟨q,hq,rfl⟩:=h;obtain⟨p,hpm,rfl⟩:=Wu.1 hq;obtain⟨⟨b,off,h0⟩,_⟩:=hp p hpm;obtain⟨k,hk⟩:=hS.noloc _ _ h0;obtain⟨b',off',cur,ty,f1,f2,_⟩:=hS.boxes _ k hk;rw[h0]at f1;cases f1;exact⟨p,hpm,off,by simp[paOf,h0],by simpa[paOf,h0]using f2⟩
theorem Ql (hS:aP cx G g a w){ds:List DV}{srcs:List (Nat×Nat)}{pts:List gN}{vs:List Value}(h:qb G g w ds srcs pts vs)(hr:jZ pts=true)(hs:∀ s∈srcs,∀ p∈pts,AD s p=false):
 K5 w ds vs (pts.map (paOf G w)):=by
 have hp:=h.mem;have lt:∀ p∈pts,∀ i:Nat,i<p.2.2.length->∃ hv,g (.leaf p.1 (p.2.1+i))=some (.h hv):=by
  intro p hpm i hi;obtain⟨_,hv,e,_⟩:=(hp p hpm).2.2 i _ (IN hi);exact⟨hv,e⟩
 have noBoth:∀ b,(G.ow b=some .ro\/∃ r j,(r,j)∈srcs/\G.ow b=some (.leaf r j))->¬ hL (pts.map (paOf G w)) b/\¬ lN (pts.map (paOf G w)) b:=by
  intro b hb;refine⟨fun ho=>?_,fun ho=>?_⟩
  ·obtain⟨p,hpm,i,l,h1,h2,h3⟩:=sP hS hp ho;rcases hb with q|⟨r,j,q1,q2⟩
   ·rw[q]at h3;cases h3
   ·rw[q2]at h3;cases h3;have:=hs _ q1 p hpm;rw[YS]at this;exact this (FM.2 ⟨rfl,by omega,by have:=(IT.1 h1).1;simp only;omega⟩)
  ·obtain⟨p,hpm,off,h1,h2⟩:=sT hS hp ho;rcases hb with q|⟨r,j,q1,q2⟩
   ·rw[q]at h2;cases h2
   ·rw[q2]at h2;cases h2
 refine⟨h.args noBoth,?_,?_,?_,?_,?_,?_,?_⟩
 ·intro q hq;obtain⟨p,hpm,rfl⟩:=Wu.1 hq;obtain⟨⟨b,off,h0⟩,hpos,_⟩:=hp p hpm;obtain⟨k,hk⟩:=hS.noloc _ _ h0;obtain⟨b',off',cur,ty,f1,f2,f3,f4,f5⟩:=hS.boxes _ k hk;rw[h0]at f1;cases f1;have hlt:∀ i,i<p.2.2.length->p.2.1+i<k:=by
   intro i hi;obtain⟨hv,e⟩:=lt p hpm i hi;obtain⟨_,k',bx,_,e2,e3,_⟩:=hS.leaf _ _ _ e;rw[hk]at e2;cases e2;exact e3
  refine⟨cur,ty,by simpa[paOf,h0]using f3,?_,fun j hj=>?_⟩
  ·have:=hlt (p.2.2.length-1) (by omega);simp only[paOf,h0,Wk];omega
  ·have:=f5 _ (hlt j hj);simp only[paOf,h0,Wk];rw[show off+p.2.1+j=off+(p.2.1+j)from by omega];exact this
 ·intro q hq j l hl;obtain⟨p,hpm,rfl⟩:=Wu.1 hq;obtain⟨e1,e2,e3,e4⟩:=oh hS (hp p hpm) hl;rw[e1];exact⟨e2,e3,fun b hb=>(e4 b hb).2⟩
 ·intro q hq j l hl;obtain⟨p,hpm,rfl⟩:=Wu.1 hq;obtain⟨e1,e2⟩:=ID hS (hp p hpm) hl;exact⟨e1,fun b hb=>noBoth b (.inl (e2 b hb))⟩
 ·intro q hq j hj;obtain⟨p,hpm,rfl⟩:=Wu.1 hq;exact((hp p hpm).2.2 j _ hj).1 rfl
 ·intro i j i' j' q q' l l' h1 h2 h3 h4 hne b hb hb';rw[VZ,VO]at h1 h2;obtain⟨p,m1,rfl⟩:=h1;obtain⟨p',m2,rfl⟩:=h2;obtain⟨e1,_,_,e4⟩:=oh hS (hp p (VM m1)) h3;obtain⟨e1',_,_,e4'⟩:=oh hS (hp p' (VM m2)) h4;rw[e1]at hb;rw[e1']at hb';have t1:=(e4 b hb).1;have t2:=(e4' b hb').1;rw[t1]at t2;simp only[Wn,Tok.leaf.injEq]at t2;have l1:=(IT.1 h3).1;have l2:=(IT.1 h4).1;simp only[paOf]at l1 l2;by_cases c:i=i'
  ·subst c;rw[m1]at m2;cases m2;exact hne (by rw[show j=j' from by omega])
  ·rcases vF hr c m1 m2 with k|k|k<;>omega
 ·intro i i' q q' hne h1 h2 hb;rw[VZ,VO]at h1 h2;obtain⟨p,m1,rfl⟩:=h1;obtain⟨p',m2,rfl⟩:=h2;obtain⟨⟨b,off,h0⟩,hpos,_⟩:=hp p (VM m1);obtain⟨⟨b',off',h0'⟩,hpos',_⟩:=hp p' (VM m2);simp only[paOf,h0,h0',Wk]at hb ⊢;subst hb;obtain⟨k,hk⟩:=hS.noloc _ _ h0;obtain⟨k',hk'⟩:=hS.noloc _ _ h0';have hlt:∀ (p:gN) (k:Nat),p∈pts->0<p.2.2.length->g (.meta_ p.1)=some (.m k true)->p.2.1+p.2.2.length<=k:=by
   intro p k hpm hpos hk;obtain⟨hv,e⟩:=lt p hpm (p.2.2.length-1) (by omega);obtain⟨_,k',bx,_,e2,e3,_⟩:=hS.leaf _ _ _ e;rw[hk]at e2;cases e2;omega
  have l1:=hlt p k (VM m1) hpos hk;have l2:=hlt p' k' (VM m2) hpos' hk';by_cases c:p.1=p'.1
  ·rw[c,h0']at h0;cases h0;rcases vF hr hne m1 m2 with q|q|q
   ·exact absurd c q
   ·left;omega
   ·right;omega
  ·rcases hS.sep _ _ k k' b off off' c hk hk' h0 h0' with q|q
   ·left;omega
   ·right;omega
 ·intro b hb ho;obtain⟨p,hpm,i,l,h1,h2,h3⟩:=sP hS hp ho;obtain⟨p',hpm',off,h4,h5⟩:=sT hS hp hb;rw[h3]at h5;cases h5
end
end Go.V
namespace Go.V
theorem qd :∀ (ws:List W) (g:Gm),(∀ x∈ws,∃ r j h,x=W.leaf r j h)->(∀ e,aS g ws (.reg e)=g (.reg e))/\(∀ r,aS g ws (.meta_ r)=g (.meta_ r))/\
 ∀ r j,(∃ h,W.leaf r j h∈ws/\aS g ws (.leaf r j)=some (.h h))\/((∀ h,W.leaf r j h∉ws)/\aS g ws (.leaf r j)=g (.leaf r j))
 |[],g,_=>⟨fun _=>rfl,fun _=>rfl,fun r j=>.inr ⟨by simp,rfl⟩⟩
 | x::ws,g,h=>by
   obtain⟨r0,j0,h0,rfl⟩:=h x (by simp);obtain⟨a1,a2,a3⟩:=qd ws ((W.leaf r0 j0 h0).app g) (fun y hy=>h y (by simp[hy]));simp only[aS];refine⟨fun e=>by rw[a1];simp[W.app],fun r=>by rw[a2];simp[W.app],fun r j=>?_⟩;rcases a3 r j with⟨h1,q1,q2⟩|⟨q1,q2⟩
   ·exact .inl ⟨h1,by simp[q1],q2⟩
   ·by_cases c:r=r0/\j=j0
    ·obtain⟨rfl,rfl⟩:=c;exact .inl ⟨h0,by simp,by rw[q2];simp[W.app]⟩
    ·refine .inr ⟨fun h' hm=>?_,by rw[q2];simp[W.app];intro e1 e2;exact absurd ⟨e1,e2⟩ c⟩;rcases VN.1 hm with e|e
     ·cases e;exact c ⟨rfl,rfl⟩
     ·exact q1 h' e
section
variable {P : Program} {o : Oper} {cx : Cx} {G : Gh} {g : Gm} {a : Act} {w : World}
theorem mE {α:Type}{r:Nat}:∀ (hs os:List H) (j:Nat) (k:List W->Rd α) (ls:List Loc) (out:α),(Hg r j hs os k).Runs g ls out->
 ∃ ws ls',(k ws).Runs g ls' out/\os.length=hs.length/\(∀ i:Nat,os[i]?≠some .gone)/\
  (∀ x∈ws,∃ i l hv,os[i]?=some (.own l)/\g (.leaf r (j+i))=some (.h hv)/\x=W.leaf r (j+i) ⟨hv.ver+1,hv.iv+1,none,.own l⟩)/\
  (∀ (i:Nat) l,os[i]?=some (.own l)->∃ hv,g (.leaf r (j+i))=some (.h hv)/\W.leaf r (j+i) ⟨hv.ver+1,hv.iv+1,none,.own l⟩∈ws)
 |[],[],j,k,ls,out,h=>⟨[],ls,h,rfl,by simp,by simp,by simp⟩
 |[],_::_,j,k,ls,out,h=>h.elim
 |_::_,[],j,k,ls,out,h=>h.elim
 | h0::hs,o0::os,j,k,ls,out,h=>by
   cases o0 with
   |gone=>exact h.elim
   | ro l0=>
     cases h0 with
     | ro l1=>
       obtain⟨ws,ls',e1,e2,e3,e4,e5⟩:=mE hs os (j+1) k ls out h;refine⟨ws,ls',e1,by simp[e2],fun i=>?_,fun x hx=>?_,fun i l hi=>?_⟩
       ·cases i with
        |zero=>simp
        |succ i=>simpa using e3 i
       ·obtain⟨i,l,hv,q1,q2,q3⟩:=e4 x hx;exact⟨i+1,l,hv,by simpa using q1,by rw[show j+(i+1)=j+1+i from by omega];exact q2,by rw[show j+(i+1)=j+1+i from by omega];exact q3⟩
       ·cases i with
        |zero=>simp at hi
        | succ i=>
          rw[show j+(i+1)=j+1+i from by omega];exact e5 i l (by simpa using hi)
     |own l1=>exact h.elim
     |gone=>exact h.elim
   | own l0=>
     obtain⟨hv,ls2,_,q2,hk⟩:=ba (k:=fun hv=>Hg r (j+1) hs os fun ws=>k (.leaf r j ⟨hv.ver+1,hv.iv+1,none,.own l0⟩::ws)) h;obtain⟨ws,ls',e1,e2,e3,e4,e5⟩:=mE hs os (j+1) _ _ _ hk;refine⟨_,ls',e1,by simp[e2],fun i=>?_,fun x hx=>?_,fun i l hi=>?_⟩
     ·cases i with
      |zero=>simp
      |succ i=>simpa using e3 i
     ·rcases VN.1 hx with rfl|hx
      ·exact⟨0,l0,hv,by simp,q2,rfl⟩
      ·obtain⟨i,l,hv,q1,q2,q3⟩:=e4 x hx;exact⟨i+1,l,hv,by simpa using q1,by rw[show j+(i+1)=j+1+i from by omega];exact q2,by rw[show j+(i+1)=j+1+i from by omega];exact q3⟩
     ·cases i with
      |zero=>simp at hi;subst hi;exact⟨hv,q2,by simp⟩
      | succ i=>
        rw[show j+(i+1)=j+1+i from by omega];obtain⟨hv',p1,p2⟩:=e5 i l (by simpa using hi);exact⟨hv',p1,by simp[p2]⟩
theorem vQ {α:Type}:∀ (pts:List gN) (outs:List (List H)) (k:List W->Rd α) (ls:List Loc) (out:α),(EC pts outs k).Runs g ls out->
 ∃ ws ls',(k ws).Runs g ls' out/\outs.length=pts.length/\
  (∀ x∈ws,∃ (n:Nat) (p:gN) (os:List H) (i:Nat) (l:L) (hv:Hv),pts[n]?=some p/\outs[n]?=some os/\os[i]?=some (.own l)/\g (.leaf p.1 (p.2.1+i))=some (.h hv)/\x=W.leaf p.1 (p.2.1+i) ⟨hv.ver+1,hv.iv+1,none,.own l⟩)/\
  (∀ (n:Nat) p os,pts[n]?=some p->outs[n]?=some os->∀ (i:Nat) l,os[i]?=some (.own l)->∃ hv,g (.leaf p.1 (p.2.1+i))=some (.h hv)/\W.leaf p.1 (p.2.1+i) ⟨hv.ver+1,hv.iv+1,none,.own l⟩∈ws)
 |[],[],k,ls,out,h=>⟨[],ls,h,rfl,by simp,by simp⟩
 |[],_::_,k,ls,out,h=>h.elim
 |_::_,[],k,ls,out,h=>h.elim
 | p::pts,os::oss,k,ls,out,h=>by
   obtain⟨w1,ls1,h1,_,_,e4,e5⟩:=mE _ _ _ _ _ _ h;obtain⟨w2,ls2,h2,e6,e7,e8⟩:=vQ pts oss _ _ _ h1;refine⟨_,ls2,h2,by simp[e6],fun x hx=>?_,fun n p' os' hn ho i l hi=>?_⟩
   ·rcases BY.1 hx with hx|hx
    ·obtain⟨i,l,hv,q1,q2,q3⟩:=e4 x hx;exact⟨0,p,os,i,l,hv,by simp,by simp,q1,q2,q3⟩
    ·obtain⟨n,p',os',i,l,hv,q0,q1,q2⟩:=e7 x hx;exact⟨n+1,p',os',i,l,hv,by simpa using q0,by simpa using q1,q2⟩
   ·cases n with
    | zero=>
      simp at hn ho;subst hn ho;obtain⟨hv,q1,q2⟩:=e5 i l hi;exact⟨hv,q1,by simp[q2]⟩
    | succ n=>
      simp at hn ho;obtain⟨hv,q1,q2⟩:=e8 n p' os' hn ho i l hi;exact⟨hv,q1,by simp[q2]⟩
def HI (g:Gm)(pts:List gN)(ps':List dX)(r j:Nat)(x:Hv×Value×List Nat):Prop:=
 ∃ (n:Nat) (p:gN) (q:dX) (i:Nat) (l:L) (hv:Hv),pts[n]?=some p/\ps'[n]?=some q/\r=p.1/\j=p.2.1+i/\i<p.2.2.length/\q.hs[i]?=some (.own l)/\g (.leaf r j)=some (.h hv)/\x=(⟨hv.ver+1,hv.iv+1,none,.own l⟩,q.val i,q.fp i)
theorem HI.same {pts:List gN}(hr:jZ pts=true){ps':List dX}{r j n n':Nat}{p p':gN}{i i':Nat}(h1:pts[n]?=some p)(h2:pts[n']?=some p')(e1:r=p.1)(e2:r=p'.1)(e3:j=p.2.1+i)(e4:j=p'.2.1+i')(l1:i<p.2.2.length)(l2:i'<p'.2.2.length):n=n'/\p=p'/\i=i':=by
 by_cases c:n=n'
 ·subst c;rw[h1]at h2;cases h2;exact⟨rfl,rfl,by omega⟩
 ·rcases vF hr c h1 h2 with q|q|q
  ·exact absurd (e1.symm.trans e2) q
  ·omega
  ·omega
theorem HI.unique {pts:List gN}(hr:jZ pts=true){ps':List dX}{r j:Nat}{x y:Hv×Value×List Nat}(h1:HI g pts ps' r j x)(h2:HI g pts ps' r j y):x=y:=by
 obtain⟨n,p,q,i,l,hv,a1,a2,a3,a4,a5,a6,a7,rfl⟩:=h1;obtain⟨n',p',q',i',l',hv',b1,b2,b3,b4,b5,b6,b7,rfl⟩:=h2;obtain⟨rfl,rfl,rfl⟩:=HI.same hr (ps':=ps') a1 b1 a3 b3 a4 b4 a5 b5;rw[a2]at b2;cases b2;rw[a6]at b6;cases b6;rw[a7]at b7;cases b7;rfl
open Classical in
noncomputable def uP (g:Gm)(pts:List gN)(ps':List dX):Uo:=fun r j=>if h:∃ x,HI g pts ps' r j x then some h.choose else none
theorem Jd {pts:List gN}(hr:jZ pts=true){ps':List dX}{r j:Nat}{x:Hv×Value×List Nat}:uP g pts ps' r j=some x↔HI g pts ps' r j x:=by
 unfold uP
 constructor
 ·intro e;split at e
  ·rename_i h;cases e;exact h.choose_spec
  ·cases e
 ·intro h;rw[dif_pos ⟨x,h⟩];exact congrArg some (HI.unique hr (Exists.choose_spec (⟨x,h⟩:∃ x,HI g pts ps' r j x)) h)
variable {ls : List Loc} {ws : List W} {K : Act -> World -> Prop} {Q : Exit -> Act -> World -> Prop}
def Bd (pr:(Unit->Prop)->Prop)(n:Nat)(d:Option Tmp)(ds:List DV)(srcs:List (Nat×Nat))(pts:List gN)(mk:PK)(rw:Nat->List DV->List W):Rd Out:=
 match mk ds with
 | some (pre,outs,res)=>if jZ pts&&srcs.all (fun s=>pts.all fun p=> !AD s p)then .req (pr pre) (EC pts outs fun ws=>match d with
    |some _=>fresh n d fun d=>.ret (.ws (ws++rw d res))
    |none=>.ret (.ws ws))else .fail
 |none=>.fail
theorem qD {f:FuncId}{ds:List DV}{srcs:List (Nat×Nat)}{pts:List gN}{vs:List Value}(hS:aP cx G g a w)(hargs:qb G g w ds srcs pts vs)(hex:(execOp a.eval o).run P w=.ok (.enter f vs.toArray) w){mk:PK} 
 (hc:∀ ds pre outs res,mk ds=some (pre,outs,res)->pre ()->ym P f ds outs res) (h:(Bd iW cx.n o.dst ds srcs pts mk dG).Runs g ls (.ws ws))
 (hk:∀ a' w',de cx (aS g ws) a' w'->K a' w'):o.wp P a w K Q:=by
 unfold Bd at h;split at h
 case h_2=>exact h.elim
 rename_i pre outs res hmk;split at h
 case isFalse=>exact h.elim
 rename_i hcond;simp only[AI]at hcond;obtain⟨hrng,hsrc⟩:=hcond;have hsrc':∀ s∈srcs,∀ p∈pts,AD s p=false:=by
  intro s hs p hp;have:=WX.1 (WX.1 hsrc s hs) p hp
  simpa using this
 obtain⟨hpre,h⟩:=h;obtain⟨w1,ls2,h,hol,u1,u2⟩:=vQ _ _ _ _ _ h;have hp:=hargs.mem;unfold Oper.wp;rw[hex];simp only[Oper.upon];have hcall:=hc ds pre outs res hmk hpre w vs _ (Ql hS hargs hrng hsrc');refine hcall.mono ?_;rintro e w' ⟨v,Sr,ps',rfl,hres,hpost⟩;have plen:ps'.length=pts.length:=by rw[hpost.len,Yi]
 have at_:∀ (n:Nat) p,pts[n]?=some p->∃ q,ps'[n]?=some q/\q.b=(paOf G w p).b/\q.off=(paOf G w p).off/\outs[n]?=some q.hs/\q.hs.length=p.2.2.length:=by
  intro n p hn;have hlt:n<ps'.length:=by rw[plen];exact(IT.1 hn).1
  have:=hpost.same n (paOf G w p) ps'[n] (by rw[VZ,hn];rfl) (IN hlt);exact⟨ps'[n],IN hlt,this⟩
 have uS:=fun {r j x}=>Jd (g:=g) hrng (ps':=ps') (r:=r) (j:=j) (x:=x)
 have hl1:∀ x∈w1,∃ r j h,x=W.leaf r j h:=by
  intro x hx;obtain⟨n,p,os,i,l,hv,_,_,_,_,rfl⟩:=u1 x hx;exact⟨_,_,_,rfl⟩
 obtain⟨a1,a2,a3⟩:=qd w1 g hl1;have a4:∀ r j,aS g w1 (.leaf r j)=match uP g pts ps' r j with
  |some x=>some (.h x.1)
  |none=>g (.leaf r j):=by
  intro r j;rcases a3 r j with⟨h0,q1,q2⟩|⟨q1,q2⟩
  ·obtain⟨n,p,os,i,l,hv,z1,z2,z3,z4,z5⟩:=u1 _ q1;cases z5;obtain⟨q,y1,y2,y3,y4,y5⟩:=at_ n p z1;rw[z2]at y4;cases y4;have hx:uP g pts ps' p.1 (p.2.1+i)=some (⟨hv.ver+1,hv.iv+1,none,.own l⟩,q.val i,q.fp i):=uS.2 ⟨n,p,q,i,l,hv,z1,y1,rfl,rfl,by rw[<-y5];exact(IT.1 z3).1,z3,z4,rfl⟩;rw[q2,hx]
  ·cases hx:uP g pts ps' r j with
   |none=>exact q2
   | some x=>
     exfalso;obtain⟨n,p,q,i,l,hv,z1,z2,z3,z4,z5,z6,z7,z8⟩:=uS.1 hx;obtain⟨q',y1,y2,y3,y4,y5⟩:=at_ n p z1;rw[z2]at y1;cases y1;obtain⟨hv',m1,m2⟩:=u2 n p q.hs z1 y4 i l z6;subst z3 z4;exact q1 _ m2
 obtain⟨vs,lv,hlv,hv⟩:∃ vs lv,Ae w' res vs lv Sr/\((∃ dv,res=[dv]/\vs=[v])\/v=.tuple vs.toArray/\∀ dv,res≠[dv]):=by
  cases res with
  |nil=>obtain⟨vs,e,h2⟩:=hres;obtain⟨lv,k⟩:=bQ.lv h2;exact⟨vs,lv,k,.inr ⟨e,fun dv e=>by cases e⟩⟩
  | cons d1 rest=>
    cases rest with
    | nil=>
      have h2:bQ w' [d1] [v] Sr:=by simp only[bQ];exact⟨v,[],Sr,[],rfl,hres,⟨rfl,rfl⟩,by simp⟩
      obtain⟨lv,k⟩:=bQ.lv h2;exact⟨[v],lv,k,.inl ⟨d1,rfl,rfl⟩⟩
    |cons d2 rest=>obtain⟨vs,e,h2⟩:=hres;obtain⟨lv,k⟩:=bQ.lv h2;exact⟨vs,lv,k,.inr ⟨e,fun dv e=>by cases e⟩⟩
 have hrec:=hlv.rec_;obtain⟨Ss,s1,s2,s3⟩:=hrec.items;have hnd:Ss.flatten.Nodup:=by rw[s1];exact hpost.res.1
 have own_tok:∀ b,hL (pts.map (paOf G w)) b->∃ r j x h l,uP g pts ps' r j=some x/\g (.leaf r j)=some (.h h)/\h.c=.own l/\b∈G.fp r j:=by
  intro b hb;obtain⟨p,hpm,i,l,h1,h2,h3⟩:=sP hS hp hb;obtain⟨_,hv,e1,e2⟩:=(hp p hpm).2.2 i _ h1;obtain⟨n,hn⟩:=W6 hpm;obtain⟨q,y1,y2,y3,y4,y5⟩:=at_ n p hn;have hi:i<p.2.2.length:=(IT.1 h1).1;have hq:i<q.hs.length:=by omega
  cases hc:q.hs[i]with
  |gone=>exact absurd (by rw[IN hq,hc]) (hpost.gone q (VM y1) i)
  | ro l'=>
    exfalso;have:=hpost.ro n (paOf G w p) q i l' (by rw[VZ,hn];rfl) y1 (by rw[IN hq,hc]);simp only[paOf]at this;rw[h1]at this;cases this.1
  | own l'=>
    exact⟨p.1,p.2.1+i,_,hv,l,uS.2 ⟨n,p,q,i,l',hv,hn,y1,rfl,rfl,hi,by rw[IN hq,hc],e1,rfl⟩,e1,e2,h2⟩
 have cellSame:∀ b cur cur' ty ty',w.heap[b]?=some (.cells cur ty (0,0))->w'.heap[b]?=some (.cells cur' ty' (0,0))->(∀ i,(∀ p∈pts.map (paOf G w),p.b=b->i<p.off\/p.off+p.hs.length<=i)->cur'[i]?=cur[i]?)->
  ∀ i0,(∀ (n:Nat) (p:gN) (q:dX) (i:Nat) (l:L),pts[n]?=some p->ps'[n]?=some q->(paOf G w p).b=b->q.hs[i]?=some (.own l)->i0≠(paOf G w p).off+i)->cur'[i0]?=cur[i0]?:=by
  intro b cur cur' ty ty' k1 k2 k4 i0 hi0;by_cases c:∃ (n:Nat) (p:gN),pts[n]?=some p/\(paOf G w p).b=b/\(paOf G w p).off<=i0/\i0<(paOf G w p).off+p.2.2.length
  ·obtain⟨n,p,hn,hb,c1,c2⟩:=c;obtain⟨q,y1,y2,y3,y4,y5⟩:=at_ n p hn;have hq:i0- (paOf G w p).off<q.hs.length:=by omega
   have hpa:paOf G w p∈pts.map (paOf G w):=Wu.2 ⟨p,VM hn,rfl⟩;cases hc:q.hs[i0- (paOf G w p).off]with
   |gone=>exact absurd (by rw[IN hq,hc]) (hpost.gone q (VM y1) _)
   |own l=>exact absurd (show i0=(paOf G w p).off+(i0- (paOf G w p).off)by omega) (hi0 n p q _ l hn y1 hb (by rw[IN hq,hc]))
   | ro l=>
     have hr:=hpost.ro n (paOf G w p) q _ l (by rw[VZ,hn];rfl) y1 (by rw[IN hq,hc]);obtain⟨cur2,ty2,m1,m2⟩:=hpost.cell q (VM y1);obtain⟨cur3,ty3,m3,_,m4⟩:=(Ql hS hargs hrng hsrc').cell _ hpa;rw[y2,hb,k2]at m1;cases m1;rw[hb,k1]at m3;cases m3;have e1:=m2 _ hq;have e2:=m4 (i0- (paOf G w p).off) (by show _<p.2.2.length;omega);rw[y3,show(paOf G w p).off+(i0- (paOf G w p).off)=i0 from by omega]at e1;rw[show(paOf G w p).off+(i0- (paOf G w p).off)=i0 from by omega]at e2;rw[e1,e2,hr.2]
  ·refine k4 i0 (fun q hq hb=>?_);obtain⟨p,hpm,rfl⟩:=Wu.1 hq;obtain⟨n,hn⟩:=W6 hpm;rcases WM i0 (paOf G w p).off with d|d
   ·exact .inl d
   ·refine .inr (Nat.le_of_not_lt fun d2=>c ⟨n,p,hn,hb,d,d2⟩)
 have main:∀ (nr:Option Nat) (hs:List Hv) (g':Gm),(∀ d,nr=some d->g (.meta_ d)=none/\hs=(res.flatMap aT).map fun l=>(⟨0,0,none,.own l⟩:Hv))->(nr=none->hs=[])->
  (∀ e,g' (.reg e)=g (.reg e))->(∀ r,g' (.meta_ r)=if nr=some r then some (.m hs.length false)else g (.meta_ r))->
  (∀ r j,g' (.leaf r j)=if nr=some r then(hs[j]?).map .h else match uP g pts ps' r j with
    |some x=>some (.h x.1)
    |none=>g (.leaf r j))->∃ G',aP cx G' g' a w'/\(∀ d,nr=some d->∀ j,G'.val d j=lv.getD j undef):=by
  intro nr hs g' hdn hnr hgr hgm hgl;have hlen:hs.length<=Ss.length:=by
   cases e:nr with
   |none=>rw[hnr e];simp
   |some d=>rw[(hdn d e).2,Yi,s2];exact VJ _
  have tokNF:∀ j,∀ b∈Ss.getD j [],b∈Sr:=fun j b hb=>by rw[<-s1];exact dA hb
  refine hS.callP (uP g pts ps') nr (fun d e=>(hdn d e).1) hs hnr w' g' hgr hgm hgl hpost.frame.os hpost.frame.tape hpost.frame.output hpost.frame.size ?_ ?_ ?_ ?_ (fun j=>lv.getD j undef) (fun j=>Ss.getD j []) ?_ ?_ ?_ ?_ ?_
  ·intro b hb h1 h2;refine ZE fun hne=>?_
   refine hne (hpost.frame.block b hb ⟨fun ho=>?_,fun ho=>?_⟩)
   ·obtain⟨r,j,x,h0,l,q1,q2,q3,q4⟩:=own_tok b ho;exact h1 r j x h0 l q1 q2 q3 q4
   ·obtain⟨p,hpm,off,q1,q2⟩:=sT hS hp ho;obtain⟨n,hn⟩:=W6 hpm;obtain⟨q,y1,y2,y3,y4,y5⟩:=at_ n p hn;by_cases c:∃ (n:Nat) (p:gN) (q:dX) (i:Nat) (l:L),pts[n]?=some p/\ps'[n]?=some q/\(paOf G w p).b=b/\q.hs[i]?=some (.own l)
    ·obtain⟨n,p,q,i,l,c1,c2,c3,c4⟩:=c;have hpm:=VM c1;obtain⟨⟨b',off',h0⟩,_⟩:=hp p hpm;have hb':b'=b:=by simpa[paOf,h0]using c3
     subst hb';obtain⟨q',y1,y2,y3,y4,y5⟩:=at_ n p c1;rw[c2]at y1;cases y1;have hi:i<p.2.2.length:=by rw[<-y5];exact(IT.1 c4).1
     obtain⟨_,hv,e1,e2⟩:=(hp p hpm).2.2 i _ (IN hi);exact h2 p.1 (p.2.1+i) _ off' (uS.2 ⟨n,p,q,i,l,hv,c1,c2,rfl,rfl,hi,c4,e1,rfl⟩) h0
    ·exfalso;obtain⟨cur,cur',ty,k1,k2,k3,k4⟩:=hpost.blk b ho;refine hne ?_;rw[k1,k2];have:cur'=cur:=Array.ext_getElem? fun i=>cellSame b cur cur' ty ty k1 k2 k4 i (fun n p q i l z1 z2 z3 z4=>absurd ⟨n,p,q,i,l,z1,z2,z3,z4⟩ c)
     rw[this]
  ·intro r j x hx;obtain⟨n,p,q,i,l,hv,z1,z2,z3,z4,z5,z6,z7,rfl⟩:=uS.1 hx;obtain⟨m1,m2⟩:=hpost.own q (VM z2) i l z6;exact⟨hv,l,z7,WP _,Nat.le_succ _,rfl,rfl,m1,m2⟩
  ·intro r j x hx;obtain⟨n,p,q,i,l,hv,z1,z2,z3,z4,z5,z6,z7,rfl⟩:=uS.1 hx;obtain⟨⟨b,off,h0⟩,_⟩:=hp p (VM z1);exact⟨_,by rw[z3];exact h0⟩
  ·intro b r j x off hx hl;obtain⟨n,p,q,i,l,hv,z1,z2,z3,z4,z5,z6,z7,rfl⟩:=uS.1 hx;subst z3 z4;have hPt:lN (pts.map (paOf G w)) b:=⟨paOf G w p,Wu.2 ⟨p,VM z1,rfl⟩,by simp[paOf,hl]⟩;obtain⟨cur,cur',ty,k1,k2,k3,k4⟩:=hpost.blk b hPt;refine⟨cur,cur',ty,k1,k2,k3,?_,?_⟩
   ·intro r' j' x' off' hx' hl';obtain⟨n',p',q',i',l',hv',z1',z2',rfl,rfl,z5',z6',z7',rfl⟩:=uS.1 hx';obtain⟨q'',y1,y2,y3,y4,y5⟩:=at_ n' p' z1';rw[z2']at y1;cases y1;obtain⟨cur2,ty2,m1,m2⟩:=hpost.cell q' (VM z2');have hb:q'.b=b:=by rw[y2];simp[paOf,hl']
    have hoff:q'.off=off'+p'.2.1:=by rw[y3];simp[paOf,hl']
    rw[hb,k2]at m1;cases m1;have:=m2 i' (by omega);rw[hoff]at this;rw[show off'+(p'.2.1+i')=off'+p'.2.1+i' from by omega];exact this
   ·intro i0 hi0;refine cellSame b cur cur' ty ty k1 k2 k4 i0 (fun n p q i l z1 z2 z3 z4=>?_);obtain⟨q',y1,y2,y3,y4,y5⟩:=at_ n p z1;rw[z2]at y1;cases y1;have hi:i<p.2.2.length:=by rw[<-y5];exact(IT.1 z4).1
    have hpm:=VM z1;obtain⟨⟨b',off',h0⟩,_⟩:=hp p hpm;have hb':b'=b:=by simpa[paOf,h0]using z3
    subst hb';obtain⟨_,hv,e1,e2⟩:=(hp p hpm).2.2 i _ (IN hi);have:=hi0 p.1 (p.2.1+i) _ off' (uS.2 ⟨n,p,q,i,l,hv,z1,z2,rfl,rfl,hi,z4,e1,rfl⟩) h0;simp only[paOf,h0,Wk];omega
  ·intro j h hj;cases e:nr with
   |none=>rw[hnr e]at hj;simp at hj
   | some d=>
     rw[(hdn d e).2,VZ,VO]at hj;obtain⟨l,e1,rfl⟩:=hj;obtain⟨u,q1,q2⟩:=s3 j l e1;exact⟨l,rfl,by simpa[Wm,q1]using q2,fu hnd j⟩
  ·intro b hb;have hb':b∈Sr\/hL ps' b:=by
    rcases hb with⟨j,_,hbj⟩|⟨r,j,x,hx,hbx⟩
    ·exact .inl (tokNF j b hbj)
    ·obtain⟨n,p,q,i,l,hv,z1,z2,z3,z4,z5,z6,z7,rfl⟩:=uS.1 hx;exact .inr ⟨q,VM z2,i,l,z6,hbx⟩
   obtain⟨k1,k2⟩:=hpost.tok b hb';refine⟨k1,?_⟩;rcases k2 with k2|k2
   ·exact .inl k2
   ·exact .inr (own_tok b k2)
  ·exact fun i j _ _ hij=>d6 hnd i j hij
  ·intro i r j x _ hx b hb hbx;obtain⟨n,p,q,i',l,hv,z1,z2,z3,z4,z5,z6,z7,rfl⟩:=uS.1 hx;exact hpost.res.2 b (tokNF i b hb) ⟨q,VM z2,i',l,z6,hbx⟩
  ·intro r j x r2 j2 x2 hx hx2 hne b hb;obtain⟨n,p,q,i,l,hv,z1,z2,rfl,rfl,z5,z6,z7,rfl⟩:=uS.1 hx;obtain⟨n',p',q',i',l',hv',z1',z2',rfl,rfl,z5',z6',z7',rfl⟩:=uS.1 hx2;refine hpost.disj n i n' i' q q' l l' z2 z2' z6 z6' (fun e=>?_) b hb;cases e;rw[z1]at z1';cases z1';exact hne rfl
 cases hd:o.dst with
 | none=>
   simp only[hd,Rd.Runs,Out.ws.injEq]at h;obtain⟨_,rfl⟩:=h;obtain⟨G',k1,_⟩:=main none [] (aS g ws) (fun d e=>by cases e) (fun _=>rfl) a1 (fun r=>by rw[a2];simp) (fun r j=>by rw[a4];simp);refine hk _ _ ⟨G',?_⟩
   simpa[YZ]using k1
 | some d0=>
   simp only[hd]at h;obtain⟨d,ls3,hd',hlt,hm,h⟩:=cf h;cases hd';simp only[Rd.Runs,Out.ws.injEq]at h;obtain⟨_,rfl⟩:=h;refine hk _ _ ?_;rw[bV];simp only[dG,aS];obtain⟨G',k1,k2⟩:=main (some d0) ((res.flatMap aT).map fun l=>⟨0,0,none,.own l⟩) ((W.root d0 false ((res.flatMap aT).map fun l=>⟨0,0,none,.own l⟩)).app (aS g w1)) (fun d e=>by cases e;exact⟨hm,rfl⟩) (fun e=>by cases e)
    (fun e=>by simp only[W.app];exact a1 e)
    (fun r=>by
      simp only[W.app,Wn,eq_comm (a:=d0)];split
      ·rfl
      ·exact a2 r)
    (fun r j=>by
      simp only[W.app,Wn,eq_comm (a:=d0)];split
      ·rfl
      ·exact a4 r j)
   refine⟨G',k1.put hlt ?_⟩;have hgl:∀ i l,(res.flatMap aT)[i]?=some l->gl ((W.root d0 false ((res.flatMap aT).map fun l=>⟨0,0,none,.own l⟩)).app (aS g w1)) d0 (0+i)=some ⟨0,0,none,.own l⟩:=by
    intro i l e;simp[gl,W.app,e]
   have hval:∀ i u,lv[i]?=some u->G'.val d0 (0+i)=u:=by
    intro i u e;rw[k2 d0 rfl,Wc];simp[Wm,e]
   have hall:=oy (G:=G') res 0 vs lv Sr hlv (fun i l e=>⟨none,hgl i l e⟩) hval;rcases hv with⟨dv,rfl,rfl⟩|⟨rfl,hne⟩
   ·simp only[gG];simp only[iP,fD]at hall;obtain⟨v',vs',e,h1,_⟩:=hall;cases e;exact h1
   ·have:gG d0 res=.tup (iP d0 0 res):=by
     unfold gG;split
     ·exact absurd rfl (hne _)
     ·rfl
    rw[this];simp only[cg];exact⟨vs,rfl,hall⟩
theorem zN {f:FuncId}{ts:Array TypeId}{args:Array Operand}(ho:o.op=.call {callee:=.value (.func f),args:=args,argTypes:=ts})(hS:aP cx G g a w){isP:TypeId->Bool}{mk:PK} 
 (hc:∀ ds pre outs res,mk ds=some (pre,outs,res)->pre ()->ym P f ds outs res)
 (h:(pT iW dL (j3 P) (DL P) isP cx.n o.dst (dm P f) ts args mk dG).Runs g ls (.ws ws))
 (hk:∀ a' w',de cx (aS g ws) a' w'->K a' w'):o.wp P a w K Q:=by
 unfold pT at h;split at h
 case isFalse=>exact h.elim
 rename_i hbody;obtain⟨ds,srcs,pts,ls1,hargs,h⟩:=kO hS _ _ _ _ _ h;have hex:(execOp a.eval o).run P w=.ok (.enter f (args.toList.map a.eval).toArray) w:=by
  have harr:(args.toList.map a.eval).toArray=args.map a.eval:=by rw[<-W9,WQ]
  rw[harr];unfold execOp;simp only[ho,resolve,Act.eval,Xv,Wr,Xg,Wl,invoke,Xw,Array.append_empty];exact eQ hbody _
 exact qD hS hargs hex hc h hk
def uu {α:Type}:List BC->(List DV->List gN->Rd α)->Rd α
 |[],k=>k [] []
 | .pt r j::cs,k=>.get (.meta_ r) fun
   |some (.m n true)=>if j<n then ie r j (n-j) fun hs=>uu cs fun ds pts=>k (.mp hs::ds) ((r,j,hs)::pts)else .fail
   |_=>.fail
 | .rp rec j::cs,k=>if j<rec.length then uu cs fun ds pts=>k (.ptr (rec.drop j)::ds) pts else .fail
def lJ (pr:(Unit->Prop)->Prop)(al:∀ {β:Type},List (Option Nat)->List A->(ay->Rd β)->Rd β)(ty pty:TypeId->Option TI)(isP:TypeId->Bool)(n:Nat)(d:Option Tmp)(body:FuncId->Bool)(t:Tmp)(ts:Array TypeId)(args:Array Operand)(pt:FuncId->Option PK)(rw:Nat->List DV->List W):Rd Out:=
 dN (.tmp t) fun
  | .fn f caps=>match pt f with
    |some mk=>if body f then oe al ty pty isP ts.toList args.toList fun ds srcs pts=>uu caps fun ds2 pts2=>Bd pr n d (ds++ds2) srcs (pts++pts2) mk rw else .fail
    |none=>.fail
  |_=>.fail
theorem qb.append {ds es:List DV}{srcs src2:List (Nat×Nat)}{pts pts2:List gN}{vs us:List Value}(h:qb G g w ds srcs pts vs)(k:qb G g w es src2 pts2 us):qb G g w (ds++es) (srcs++src2) (pts++pts2) (vs++us):=by
 induction h with
 |nil=>exact k
 |dat hd h ht hs ih=>rw[IS];exact qb.dat hd h ht ih
 |ptr h h0 hs ih=>exact qb.ptr h h0 ih
theorem kx (hS:aP cx G g a w){α:Type}:∀ (cs:List BC) (ps:List Value) (k:List DV->List gN->Rd α) (ls:List Loc) (out:α),dp G w cs ps->(uu cs k).Runs g ls out->
 ∃ ds pts ls',qb G g w ds [] pts ps/\(k ds pts).Runs g ls' out
 |[],ps,k,ls,out,hc,h=>by simp only[dp]at hc;subst hc;exact⟨[],[],ls,.nil,h⟩
 | .pt r j::cs,ps,k,ls,out,hc,h=>by
   obtain⟨v,vs',rfl,⟨b,off,h0,rfl⟩,hc⟩:=hc;obtain⟨ls1,_,h⟩:=h;simp only at h;split at h
   ·split at h
    ·rename_i hlt;obtain⟨hs,ls2,e1,e2,h⟩:=jo _ _ _ _ _ h;obtain⟨ds,pts,ls3,k1,k2⟩:=kx hS cs vs' _ _ _ hc h;refine⟨_,_,ls3,qb.ptr (p:=(r,j,hs)) (b:=b) (off:=off) ⟨⟨b,off,h0⟩,?_,e2⟩ h0 k1,k2⟩;show 0<hs.length;omega
    ·exact h.elim
   ·exact h.elim
 | .rp rec j::cs,ps,k,ls,out,hc,h=>by
   obtain⟨v,vs',rfl,⟨b,off,cur,ty,fz,S,rfl,q1,q2,q3,q4,q5⟩,hc⟩:=hc;simp only[uu]at h;split at h
   ·rename_i hlt;obtain⟨ds,pts,ls3,k1,k2⟩:=kx hS cs vs' _ _ _ hc h;obtain⟨S1,r1,r2⟩:=q4.sub j (rec.length-j);have hd:(rec.drop j).take (rec.length-j)=rec.drop j:=List.take_of_length_le (by simp);rw[hd]at r1;have e:(cur.toList.drop (off+j)).take (rec.drop j).length=(((cur.toList.drop off).take rec.length).drop j).take (rec.length-j):=by
     rw[XB,XC,WF,VR,Nat.min_self]
    have hrd:j8 w (.ptr (rec.drop j)) (.pointer (some ⟨b,off+j,none⟩)) (b::S1):=⟨b,off+j,cur,ty,fz,S1,rfl,q1,by simp;omega,by rw[e];exact r1,rfl⟩;refine⟨_,_,ls3,qb.dat (src:=[]) (S:=b::S1) (fun hs=>by simp) hrd (fun c hcb=>?_) k1,k2⟩;rcases VN.1 hcb with rfl|hcb
    ·exact .inl q2
    ·exact .inl (q5 c (r2 c hcb))
   ·exact h.elim
theorem xh {t:Tmp}{ts:Array TypeId}{args:Array Operand}(ho:o.op=.call {callee:=.value (.tmp t),args:=args,argTypes:=ts})(hS:aP cx G g a w){isP:TypeId->Bool}{pt:FuncId->Option PK} 
 (hc:∀ f mk,pt f=some mk->∀ ds pre outs res,mk ds=some (pre,outs,res)->pre ()->ym P f ds outs res)
 (h:(lJ iW dL (j3 P) (DL P) isP cx.n o.dst (dm P) t ts args pt dG).Runs g ls (.ws ws))
 (hk:∀ a' w',de cx (aS g ws) a' w'->K a' w'):o.wp P a w K Q:=by
 obtain⟨x0,ls1,hx,h⟩:=aW hS h;cases x0 with
 | fn f caps=>
   obtain⟨ps,e,hcap⟩:=hx;simp only at h;split at h
   case h_2=>exact h.elim
   rename_i mk hmk;split at h
   case isFalse=>exact h.elim
   rename_i hbody;obtain⟨ds,srcs,pts,ls2,hargs,h⟩:=kO hS _ _ _ _ _ h;obtain⟨ds2,pts2,ls3,hcaps,h⟩:=kx hS _ _ _ _ _ hcap h;have hall:=hargs.append hcaps;rw[WU]at hall;have hex:(execOp a.eval o).run P w=.ok (.enter f (args.toList.map a.eval++ps).toArray) w:=by
    have harr:(args.toList.map a.eval++ps).toArray=args.map a.eval++ps.toArray:=by rw[<-List.append_toArray, <-W9,WQ]
    rw[harr];unfold execOp;simp only[ho,resolve,e,Xv,Wr,Xg,Wl,invoke,Xw];exact eQ hbody _
   exact qD hS hall hex (hc f mk hmk) h hk
 |_=>exact h.elim
end
end Go.V
namespace Go.V
def N0 (X:Nat->Prop)(w:World):H->Value->Prop
 | .own l,v=>bC w l v []
 | .ro l,v=>∃ S,bC w l v S/\∀ c∈S,X c
 | .gone,_=>True
def RS (P:Program)(f:FuncId)(ds:List DV)(hs:List H):Prop:=
 ∀ (X:Nat->Prop) (w:World) (vs:List Value),ew X w ds vs->
  Calls P f vs.toArray w fun e w'=>∃ b off cur ty,∃ val:Nat->Value,e=.returned (.pointer (some ⟨b,off,none⟩))/\w.heap.size<=b/\w'.heap[b]?=some (.cells cur ty (0,0))/\off+hs.length<=cur.size/\
   (∀ j,j<hs.length->cur[off+j]?=some (val j))/\(∀ j h,hs[j]?=some h->N0 X w' h (val j))/\Same (fun _=>True) w w'
abbrev NK :=List DV->Option ((Unit->Prop)×List H)
section
variable {P : Program} {o : Oper} {cx : Cx} {G : Gh} {g : Gm} {a : Act} {w : World} {ls : List Loc} {ws : List W} {K : Act -> World -> Prop} {Q : Exit -> Act -> World -> Prop}
end
end Go.V
namespace Go.V
open Go.MapKept
def dc :aa->Int->Option (Nat×Value)
 |[],_=>none
 |[.v (.int _ k),.v x]::l,n=>if k=n then some (0,x)else(dc l n).map fun p=>(p.1+1,p.2)
 |_::_,_=>none
def mgbI (es:aa)(n:Int):Bool:=match dc es n with
 |some (_,.bool b)=>b
 |_=>false
def ft (es:aa)(n:Int):Int:=match dc es n with
 |some (_,.int _ i)=>i
 |_=>0
def iV (es:aa)(n:Int)(l:L):aa:=match dc es n with
 |some (j,_)=>es.set j [.i n,l]
 |none=>es++[[.i n,l]]
def oc :Bool->Value
 |true=>.bool false
 |false=>.int .i64 0
def zd (P:Program)(t:TypeId):Option Bool:=match P.underlying t with
 | some (.map kt et)=>match P.underlying kt,P.info? et with
   | some (.int .i64),some i=>match i.zero with
     |some (.bool false)=>some true
     |some (.int .i64 0)=>some false
     |_=>none
   |_,_=>none
 |_=>none
section
variable {P : Program} {w : World}
theorem nZ {t:TypeId}{kb:Bool}(h:zd P t=some kb):∃ kt et,P.underlying t=some (.map kt et)/\P.underlying kt=some (.int .i64)/\(zeroValue et).run P w=.ok (oc kb) w:=by
 unfold zd at h;split at h
 ·rename_i kt et hm;split at h
  ·rename_i i hk hi;split at h
   ·rename_i hz;cases h;exact⟨kt,et,hm,hk,by simp[zeroValue,typeInfo,hi,hz,oc]⟩
   ·rename_i hz;cases h;exact⟨kt,et,hm,hk,by simp[zeroValue,typeInfo,hi,hz,oc]⟩
   ·cases h
  ·cases h
 ·cases h
theorem dd.find {kb:Bool}{n:Int}:∀ {l:List MapEntry} {es:aa} (i:Nat),dd kb l es->Za (.int .i64) (.int .i64 n) l i=some ((dc es n).map fun p=>(i+p.1,p.2))
 |[],es,i,h=>by simp only[dd]at h;subst h;rfl
 | e::l,es,i,h=>by
   obtain⟨k,r,rfl,hk,hm,h⟩:=h;have ih:=dd.find (n:=n) (i+1) h;simp only[Za,hk,Instr.sameNow,if_true,dc];by_cases c:k=n
   ·subst c;simp
   ·have:(n==k)=false:=by simpa using fun e=>c e.symm
    simp only[this,if_neg c,ih,Option.map_map]
    congr 2
    funext p
    simp only[ZG]
    congr 1;omega
theorem dd.keys {kb:Bool}:∀ {l:List MapEntry} {es:aa},dd kb l es->∀ x∈l,IsKey (.int .i64) x.key/\EM kb x.val=true
 |[],es,h,x,hx=>by cases hx
 | e::l,es,h,x,hx=>by
   obtain⟨k,r,rfl,hk,hm,h⟩:=h;rcases VN.1 hx with rfl|hx
   ·rw[hk];exact⟨rfl,hm⟩
   ·exact dd.keys h x hx
theorem dd.at {kb:Bool}{n:Int}:∀ {l:List MapEntry} {es:aa},dd kb l es->∀ j x,dc es n=some (j,x)->∃ e,l[j]?=some e/\e.key=.int .i64 n/\e.val=x
 |[],es,h,j,x,hf=>by simp only[dd]at h;subst h;cases hf
 | e::l,es,h,j,x,hf=>by
   obtain⟨k,r,rfl,hk,hm,h⟩:=h;simp only[dc]at hf;split at hf
   ·rename_i c;subst c;cases hf;exact⟨e,rfl,hk,rfl⟩
   ·simp only[VO]at hf;obtain⟨⟨j',x'⟩,hf,e2⟩:=hf;cases e2;obtain⟨e',q1,q2⟩:=dd.at h j' x' hf;exact⟨e',by simpa using q1,q2⟩
theorem dd.none {kb:Bool}{n:Int}:∀ {l:List MapEntry} {es:aa},dd kb l es->dc es n=X1->∀ x∈l,x.key≠ .int .i64 n
 |[],es,h,hf,x,hx=>by cases hx
 | e::l,es,h,hf,x,hx=>by
   obtain⟨k,r,rfl,hk,hm,h⟩:=h;simp only[dc]at hf;split at hf
   ·cases hf
   ·rename_i c;simp only[Option.map_eq_none_iff]at hf;rcases VN.1 hx with rfl|hx
    ·rw[hk];intro q;cases q;exact c rfl
    ·exact dd.none h hf x hx
theorem dd.push {kb:Bool}{e:MapEntry}{n:Int}(he:e.key=.int .i64 n)(hv:EM kb e.val=true):∀ {l:List MapEntry} {es:aa},dd kb l es->dd kb (l++[e]) (es++[[.i n,.v e.val]])
 |[],es,h=>by simp only[dd]at h;subst h;exact⟨n,[],rfl,he,hv,rfl⟩
 | e0::l,es,h=>by
   obtain⟨k,r,rfl,hk,hm,h⟩:=h;exact⟨k,_,rfl,hk,hm,dd.push he hv h⟩
theorem dd.set {kb:Bool}{e:MapEntry}{n:Int}(he:e.key=.int .i64 n)(hv:EM kb e.val=true):∀ {l:List MapEntry} {es:aa} (j:Nat),dd kb l es->dd kb (l.set j e) (es.set j [.i n,.v e.val])
 |[],es,j,h=>by simp only[dd]at h;subst h;simp[dd]
 | e0::l,es,j,h=>by
   obtain⟨k,r,rfl,hk,hm,h⟩:=h;cases j with
   |zero=>exact⟨n,r,rfl,he,hv,h⟩
   |succ j=>exact⟨k,_,rfl,hk,hm,dd.set he hv j h⟩
theorem dd.kind {kb:Bool}{n:Int}{l:List MapEntry}{es:aa}(h:dd kb l es):(match dc es n with|some (_,x)=>x|X1=>oc kb)=(if kb then .bool (mgbI es n)else .int .i64 (ft es n)):=by
 unfold mgbI ft;cases hf:dc es n with
 |none=>cases kb<;>rfl
 | some p=>
   obtain⟨j,x⟩:=p;obtain⟨e,q1,q2,q3⟩:=h.at j x hf;have hk:=(h.keys e (VM q1)).2;rw[q3]at hk;cases kb<;>cases x<;>simp_all [EM]
   rename_i k i;cases k<;>simp_all [EM]
theorem Cc {t:TypeId}{kb:Bool}(ht:zd P t=some kb){b:Nat}{ents:Array MapEntry}{clock:Nat}(hb:w.heap[b]?=some (.map ents clock)){es:aa}(hr:dd kb ents.toList es)(n:Int):
 (Yo t (.map (some b)) (.int .i64 n) false).run P w=.ok (if kb then .bool (mgbI es n)else .int .i64 (ft es n)) w:=by
 obtain⟨kt,et,hm,hk,hz⟩:=nZ (w:=w) ht;have hf:=dd.find (n:=n) 0 hr;rw[<-hr.kind];cases hmf:dc es n with
 | none=>
   rw[hmf]at hf;simp[Yo,run_underlying hm,WJ hb,W0 hk (k:=.int .i64 n) rfl,W5 hk hf,hz,Wt]
 | some p=>
   rw[hmf]at hf;simp[Yo,run_underlying hm,WJ hb,W0 hk (k:=.int .i64 n) rfl,W5 hk hf,Wt]
theorem Cz {t:TypeId}{kb:Bool}(ht:zd P t=some kb){b:Nat}{ents:Array MapEntry}{clock:Nat}(hb:w.heap[b]?=some (.map ents clock))(hs:Stamped ents clock){es:aa}(hr:dd kb ents.toList es)(n:Int){x:Value}(hx:EM kb x=true):
 ∃ ents' clock',(X9 t (.map (some b)) (.int .i64 n) x).run P w=.ok () {w with heap:=w.heap.setIfInBounds b (.map ents' clock')}/\Stamped ents' clock'/\dd kb ents'.toList (iV es n (.v x)):=by
 obtain⟨kt,et,hm,hk,_⟩:=nZ (w:=w) ht;have hf:=dd.find (n:=n) 0 hr;unfold iV;cases hmf:dc es n with
 | none=>
   rw[hmf]at hf;refine⟨ents.push {key:=.int .i64 n,val:=x,born:=clock},clock+1,?_,stamped_push hs (hr.none hmf),?_⟩
   ·simp[X9,run_underlying hm,WJ hb,W0 hk (k:=.int .i64 n) rfl,W5 hk hf,Xc _ hb,Wt]
   ·simpa using hr.push (e:={key:=.int .i64 n,val:=x,born:=clock}) rfl hx
 | some p=>
   obtain⟨j,y⟩:=p;rw[hmf]at hf;obtain⟨e,q1,q2,q3⟩:=hr.at j y hmf;have hj:ents[j]?=some e:=by simpa using q1
   have hlt:j<ents.size:=(OF.1 hj).1;refine⟨ents.modify j fun e=>{e with key:=.int .i64 n,val:=x},clock,?_,?_,?_⟩
   ·simp[X9,run_underlying hm,WJ hb,W0 hk (k:=.int .i64 n) rfl,W5 hk hf,hj,q2,Yg (d:=.int .i64) (k:=.int .i64 n) rfl,Xc _ hb,Wt]
   ·exact stamped_modify hs _ _ (fun _ _=>rfl) (fun e' _ he'=>by rw[hj]at he';cases he';exact q2.symm)
   ·have:(ents.modify j fun e=>{e with key:=.int .i64 n,val:=x}).toList=ents.toList.set j {e with key:=.int .i64 n,val:=x}:=by
     apply V8;intro i;simp only[V6,WY,XZ];by_cases c:j=i
     ·subst c;have:=(OF.1 hj).2;simp[hlt,this]
     ·simp[c]
    rw[this];exact hr.set (e:={e with key:=.int .i64 n,val:=x}) rfl hx j
def AP (es:aa)(n:Int):Bool->Value
 |true=>.bool (mgbI es n)
 |false=>.int .i64 (ft es n)
theorem Ed {t:TypeId}{kb:Bool}(ht:zd P t=some kb){b:Nat}{ents:Array MapEntry}{clock:Nat}(hb:w.heap[b]?=some (.map ents clock))(hs:Stamped ents clock){es:aa}(hr:dd kb ents.toList es)(n:Int):
 ∃ (ents':Array MapEntry) (clock' i:Nat) (e:MapEntry),(Yh t (.map (some b)) (.int .i64 n)).run P w=.ok (.tuple #[AP es n kb,goInt e.born]) {w with heap:=w.heap.setIfInBounds b (.map ents' clock')}/\Stamped ents' clock'/\dd kb ents'.toList (iV es n (.v (AP es n kb)))/\ents'[i]?=some e/\e.key=.int .i64 n:=by
 obtain⟨kt,et,hm,hk,hz⟩:=nZ (w:=w) ht;have hf:=dd.find (n:=n) 0 hr;have hc:AP es n kb=(match dc es n with|some (_,x)=>x|X1=>oc kb):=by
  rw[hr.kind];cases kb<;>rfl
 unfold iV;cases hmf:dc es n with
 | none=>
   rw[hmf]at hf hc;simp only at hc;have hx:EM kb (oc kb)=true:=by cases kb<;>rfl
   refine⟨ents.push {key:=.int .i64 n,val:=oc kb,born:=clock},clock+1,ents.size,{key:=.int .i64 n,val:=oc kb,born:=clock},?_,stamped_push hs (hr.none hmf),?_,by simp,rfl⟩
   ·rw[hc];simp[Yh,run_underlying hm,WJ hb,W0 hk (k:=.int .i64 n) rfl,W5 hk hf,hz,Xc _ hb,Wt]
   ·rw[hc]
    simpa using hr.push (e:={key:=.int .i64 n,val:=oc kb,born:=clock}) rfl hx
 | some p=>
   obtain⟨j,y⟩:=p;rw[hmf]at hf hc;simp only at hc;obtain⟨e,q1,q2,q3⟩:=hr.at j y hmf;have hj:ents[j]?=some e:=by simpa using q1
   have hlt:j<ents.size:=(OF.1 hj).1;refine⟨ents.modify j fun e=>{e with key:=.int .i64 n},clock,j,{e with key:=.int .i64 n},?_,?_,?_,?_,rfl⟩
   ·rw[hc];simp[Yh,run_underlying hm,WJ hb,W0 hk (k:=.int .i64 n) rfl,W5 hk hf,hj,q2,Yg (d:=.int .i64) (k:=.int .i64 n) rfl,Xc _ hb,Wt]
   ·exact stamped_modify hs _ _ (fun _ _=>rfl) (fun e' _ he'=>by rw[hj]at he';cases he';exact q2.symm)
   ·have:(ents.modify j fun e=>{e with key:=.int .i64 n}).toList=ents.toList.set j {e with key:=.int .i64 n}:=by
     apply V8;intro i;simp only[V6,WY,XZ];by_cases c:j=i
     ·subst c;have:=(OF.1 hj).2;simp[hlt,this]
     ·simp[c]
    rw[this,hc];have hv:EM kb e.val=true:=(hr.keys e (VM q1)).2;subst q3;exact hr.set (e:={e with key:=.int .i64 n}) (n:=n) rfl hv j
   ·simp[WY,hj]
theorem H4 {es:aa}{n:Int}:∀ {l:List MapEntry} {kb:Bool},dd kb l es->(l.map (·.key)).Nodup->∀ {i:Nat} {e:MapEntry},l[i]?=some e->e.key=.int .i64 n->dc es n=some (i,e.val):=by
 intro l kb hr hn i e hi hk;cases hmf:dc es n with
 |none=>exact absurd hk (hr.none hmf e (VM hi))
 | some p=>
   obtain⟨j,y⟩:=p;obtain⟨e2,q1,q2,q3⟩:=hr.at j y hmf;have hj:(l.map (·.key))[j]?=some (.int .i64 n):=by rw[VZ,q1];simp[q2]
   have hi':(l.map (·.key))[i]?=some (.int .i64 n):=by rw[VZ,hi];simp[hk]
   have hlt:j<(l.map (·.key)).length:=(IT.1 hj).1;have e1:j=i:=(YT hlt hn).1 (hj.trans hi'.symm);subst e1;rw[hi]at q1;cases q1;rw[q3]
theorem uC {t:TypeId}{kb:Bool}{b:Nat}{ents:Array MapEntry}{clock:Nat}(hb:w.heap[b]?=some (.map ents clock))(hs:Stamped ents clock){es:aa}(hr:dd kb ents.toList es){n:Int}{i:Nat}{e:MapEntry}(hi:ents[i]?=some e)(hk:e.key=.int .i64 n){x:Value}(hx:EM kb x=true):
 ∃ ents':Array MapEntry,(YU t (.map (some b)) (goInt e.born) x).run P w=.ok () {w with heap:=w.heap.setIfInBounds b (.map ents' clock)}/\Stamped ents' clock/\dd kb ents'.toList (iV es n (.v x)):=by
 have hi':ents.toList[i]?=some e:=by simpa using hi
 have hlt:i<ents.size:=(OF.1 hi).1;have hmf:=H4 hr hs.2.2 hi' hk;have hidx:ents.findIdx? (fun e'=>(e'.born:Int)==(e.born:Int))=some i:=by
  rw[Array.findIdx?_eq_some_iff_getElem];refine⟨hlt,?_,fun j hj=>?_⟩
  ·have:=(OF.1 hi).2;simp[this]
  ·intro hq;simp only[beq_iff_eq,Int.ofNat_inj]at hq;have hjl:j<ents.size:=by omega
   have h1:(ents.toList.map (·.born))[j]?=some e.born:=by rw[VZ];simp[hjl,hq]
   have h2:(ents.toList.map (·.born))[i]?=some e.born:=by rw[VZ,hi'];rfl
   have:=(YT (by simpa using hjl) hs.2.1).1 (h1.trans h2.symm);omega
 refine⟨ents.modify i fun e=>{e with val:=x},?_,?_,?_⟩
 ·simp[YU,WJ hb,goInt,asInt,asIntOf,hidx,Xc _ hb,Wt]
 ·exact stamped_modify hs _ _ (fun _ _=>rfl) (fun e' _ _=>rfl)
 ·have:(ents.modify i fun e=>{e with val:=x}).toList=ents.toList.set i {e with val:=x}:=by
   apply V8;intro j;simp only[V6,WY,XZ];by_cases c:i=j
   ·subst c;have:=(OF.1 hi).2;simp[hlt,this]
   ·simp[c]
  rw[this];unfold iV;rw[hmf];exact hr.set (e:={e with val:=x}) hk hx i
end
end Go.V
namespace Go.V
open Go.MapKept
def iT (mp:TypeId->Option Bool)(n:Nat)(d:Option Tmp)(t:TypeId)(res:Option Operand):Rd Out:=
 match res with
 |some _=>.fail
 | none=>match mp t with
   |none=>.fail
   |some kb=>fresh n d fun d=>.ret (.ws [.root d false [⟨0,0,none,.own (.m kb [])⟩],.reg d (.one (.mv d 0 0))])
def lK (mgb:aa->Int->Bool)(mgi:aa->Int->Int)(mp:TypeId->Option Bool)(n:Nat)(d:Option Tmp)(t:TypeId)(x i:Operand)(ok:Bool):Rd Out:=
 match ok with
 |true=>.fail
 | false=>match mp t with
   |none=>.fail
   | some kb=>dN x fun
     | .mv r j ver=>fQ i fun k m=>if k==.i64 then ez r j fun h=>match h.c with
       | .own (.m kb' es)=>if h.ver==ver&&kb'==kb then bh n d (.one (.v (match kb with
          |true=>.bool (mgb es m)
          |false=>.int .i64 (mgi es m))))else .fail
       |_=>.fail else .fail
     |_=>.fail
def lL (mu:aa->Int->L->aa)(mp:TypeId->Option Bool)(t:TypeId)(m k v:Operand):Rd Out:=
 match mp t with
 |none=>.fail
 | some kb=>dN m fun
   | .mv r j ver=>fQ k fun kd i=>if kd==.i64 then dN v fun
     | .v x=>if EM kb x then ez r j fun h=>match h.c with
       | .own (.m kb' es)=>if h.ver==ver&&kb'==kb then .ret (.ws [.leaf r j ⟨h.ver,h.iv+1,h.org,.own (.m kb (mu es i (.v x)))⟩])else .fail
       |_=>.fail else .fail
     |_=>.fail else .fail
   |_=>.fail
def ga (mgb:aa->Int->Bool)(mgi:aa->Int->Int)(mu:aa->Int->L->aa)(mp:TypeId->Option Bool)(n:Nat)(d:Option Tmp)(t:TypeId)(m k:Operand):Rd Out:=
 match mp t,d with
 | some kb,some d=>if d<n then dN m fun
    | .mv r j ver=>fQ k fun kd i=>if kd==.i64 then ez r j fun h=>match h.c with
      | .own (.m kb' es)=>if h.ver==ver&&kb'==kb then(match kb with
         |true=>.ret (.ws [.leaf r j ⟨h.ver,h.iv+1,h.org,.own (.m true (mu es i (.v (.bool (mgb es i)))))⟩,.reg d (.tup [.k (mgb es i),.one (.st r j h.ver (h.iv+1) i)])])
         |false=>.ret (.ws [.leaf r j ⟨h.ver,h.iv+1,h.org,.own (.m false (mu es i (.i (mgi es i))))⟩,.reg d (.tup [.j (mgi es i),.one (.st r j h.ver (h.iv+1) i)])]))else .fail
      |_=>.fail else .fail
    |_=>.fail else .fail
 |_,_=>.fail
def eL (mu:aa->Int->L->aa)(mp:TypeId->Option Bool)(t:TypeId)(m s x:Operand):Rd Out:=
 match mp t with
 |none=>.fail
 | some kb=>dN m fun
   | .mv r j ver=>dN s fun
     | .st r2 j2 ver2 iv2 i=>dN x fun
       | .v y=>if EM kb y then ez r j fun h=>match h.c with
         | .own (.m kb' es)=>if h.ver==ver&&kb'==kb&&r2==r&&j2==j&&eD h ver2 iv2 then .ret (.ws [.leaf r j ⟨h.ver,h.iv+1,h.org,.own (.m kb (mu es i (.v y)))⟩])else .fail
         |_=>.fail else .fail
       |_=>.fail
     |_=>.fail
   |_=>.fail
section
variable {P : Program} {o : Oper} {cx : Cx} {G : Gh} {g : Gm} {a : Act} {w : World} {ls : List Loc} {ws : List W} {K : Act -> World -> Prop} {Q : Exit -> Act -> World -> Prop}
theorem vZ {t:TypeId}{res:Option Operand}(ho:o.op=.makeMap t res)(hS:aP cx G g a w)(h:(iT (zd P) cx.n o.dst t res).Runs g ls (.ws ws)) 
 (hk:∀ a' w',de cx (aS g ws) a' w'->K a' w'):o.wp P a w K Q:=by
 unfold iT at h;split at h
 ·exact h.elim
 ·split at h
  ·exact h.elim
  ·rename_i kb hmp;obtain⟨d,ls2,hd,hlt,hm,h⟩:=cf h;simp only[Rd.Runs,Out.ws.injEq]at h;obtain⟨_,rfl⟩:=h;have hnew:=heap_alloc_new w (.map #[] 0);obtain⟨G',k1,k2,_⟩:=hS.newRoot hm false [⟨0,0,none,.own (.m kb [])⟩] (w.alloc (.map #[] 0)) (jE w _) (fun _=>.map (some w.heap.size)) (fun _=>[w.heap.size])
    (by
      intro j hv hj;cases j with
      |succ j=>simp at hj
      | zero=>
        simp at hj;subst hj;simp only[EH];refine⟨⟨w.heap.size, #[],0,rfl,hnew,stamped_empty 0,rfl,rfl⟩,by simp,fun b hb=>?_⟩;simp only[VN,WW,or_false]at hb;subst hb;exact⟨.inr ⟨_,_,hnew⟩,.inl (VJ _)⟩)
    (by
      intro j hv hj;cases j with
      |succ j=>simp at hj
      |zero=>simp at hj;subst hj;exact dj.none)
    (fun i j hi hj hij=>by simp at hi hj;omega) 0 0 (by simp)
   refine cK (v:=.map (some w.heap.size)) (w':=w.alloc (.map #[] 0)) ?_ (hk _ _ ?_)
   ·unfold execOp;simp[ho,Instr.makeMap,Wt]
   ·simp only[aS];rw[hd];refine⟨G',k1.put hlt ?_⟩;simp only[cg,eZ];exact⟨⟨0,0,none,.own (.m kb [])⟩,by simp[gl,W.app],VJ _,fun _ kb' es' _=>(k2 0).symm⟩
theorem xj {t:TypeId}{x i:Operand}{ok:Bool}(ho:o.op=.lookup t x i ok)(hS:aP cx G g a w)(h:(lK mgbI ft (zd P) cx.n o.dst t x i ok).Runs g ls (.ws ws)) 
 (hk:∀ a' w',de cx (aS g ws) a' w'->K a' w'):o.wp P a w K Q:=by
 unfold lK at h;split at h
 ·exact h.elim
 ·split at h
  ·exact h.elim
  ·rename_i kb hmp;obtain⟨x0,ls1,hx,h⟩:=aW hS h;cases x0 with
   | mv r j ver=>
     obtain⟨kd,n,ls2,hi,h⟩:=cZ hS h;split at h
     case isFalse=>exact h.elim
     rename_i hkd;simp only[beq_iff_eq]at hkd;subst hkd;obtain⟨hv,ls3,q1,q2,h⟩:=ba h;split at h
     case h_2=>exact h.elim
     rename_i kb' es hc;split at h
     case isFalse=>exact h.elim
     rename_i hb;simp only[AI,beq_iff_eq]at hb;obtain⟨hb,rfl⟩:=hb;obtain⟨h2,f1,f2,f3⟩:=hx;rw[q1]at f1;cases f1;have e:=f3 hb _ _ hc;have hok:=hS.hok q1;simp only[cR,hc,bC]at hok;obtain⟨⟨b,ents,clock,g1,g2,g3,g4,g5⟩,_⟩:=hok;refine aX hS h (v:=if kb' then .bool (mgbI es n)else .int .i64 (ft es n)) (by cases kb'<;>simp[cg,eZ]) ?_ hk;unfold execOp;simp[ho,e,g1,hi,Cc hmp g2 g4 n]
   |_=>exact h.elim
theorem xq {t:TypeId}{m k v:Operand}(ho:o.op=.mapUpdate t m k v)(hdst:o.dst=none)(hS:aP cx G g a w)(h:(lL iV (zd P) t m k v).Runs g ls (.ws ws)) 
 (hk:∀ a' w',de cx (aS g ws) a' w'->K a' w'):o.wp P a w K Q:=by
 unfold lL at h;split at h
 ·exact h.elim
 ·rename_i kb hmp;obtain⟨x0,ls1,hx,h⟩:=aW hS h;cases x0 with
  | mv r j ver=>
    obtain⟨kd,n,ls2,hi,h⟩:=cZ hS h;split at h
    case isFalse=>exact h.elim
    rename_i hkd;simp only[beq_iff_eq]at hkd;subst hkd;obtain⟨y,ls3,hy,h⟩:=aW hS h;cases y with
    | v y=>
      simp only at h;split at h
      case isFalse=>exact h.elim
      rename_i hmk;obtain⟨hv,ls4,q1,q2,h⟩:=ba h;split at h
      case h_2=>exact h.elim
      rename_i kb' es hc;split at h
      case isFalse=>exact h.elim
      rename_i hb;simp only[AI,beq_iff_eq]at hb;obtain⟨hb,rfl⟩:=hb;simp only[Rd.Runs,Out.ws.injEq]at h;obtain⟨_,rfl⟩:=h;obtain⟨h2,f1,f2,f3⟩:=hx;rw[q1]at f1;cases f1;have e:=f3 hb _ _ hc;have hok:=hS.hok q1;simp only[cR,hc,bC]at hok;obtain⟨⟨b,ents,clock,g1,g2,g3,g4,g5⟩,hnd,htok⟩:=hok;have hy:a.eval v=y:=hy;obtain⟨ents',clock',u1,u2,u3⟩:=Cz hmp g2 g3 g4 n hmk;have hset:=YF (o':=ZH ents' clock') g2;have hbb:b∈G.fp r j:=by rw[g5];simp
      have hob:=(htok b hbb).1;obtain⟨G',k1,_⟩:=hS.upd q2 ⟨hv.ver,hv.iv+1,hv.org,.own (.m kb' (iV es n (.v y)))⟩ (G.val r j) (G.fp r j) {w with heap:=w.heap.setIfInBounds b (.map ents' clock')}
       (.inr ⟨rfl,WP _,rfl,.inr ⟨kb',es,_,hc,rfl⟩⟩) rfl rfl rfl (by simp)
       (fun c _ _ h3=>hset.2 c (fun e=>h3 _ hc (e▸hbb)))
       (fun c off hl=>by
         obtain⟨kk,hk2⟩:=hS.noloc r _ hl;obtain⟨b',off',cur,ty,m1,m2,m3,m4,m5⟩:=hS.boxes r kk hk2;rw[hl]at m1;cases m1;have hne:c≠b:=by intro e;subst e;rw[hob]at m2;cases m2
         refine⟨cur,cur,ty,m3,by rw[hset.2 c hne];exact m3,rfl,fun hlt=>?_,fun _ _=>rfl⟩;obtain⟨_,k3,bx,_,e3,e4,_⟩:=hS.leaf r j _ q2;rw[hk2]at e3;cases e3;exact m5 j e4)
       (fun l _ c hcb=>by
         rw[g5]at hcb;simp only[VN,WW,or_false]at hcb;subst hcb;exact .inr ⟨_,_,hset.1⟩)
       (by
         refine⟨⟨b,ents',clock',g1,hset.1,u2,u3,g5⟩,hnd,fun c hcb=>⟨?_,.inr ⟨_,hc,hcb⟩⟩⟩;rw[g5]at hcb;simp only[VN,WW,or_false]at hcb;subst hcb;exact .inr ⟨_,_,hset.1⟩)
       (by
         intro i hi';exact hS.anc r j hv q1 i hi')
      refine gM hdst (w':={w with heap:=w.heap.setIfInBounds b (.map ents' clock')}) ?_ (hk _ _ ?_)
      ·unfold execOp;simp[ho,e,g1,hi,hy,u1]
      ·simp only[aS];exact⟨G',k1⟩
    |_=>exact h.elim
  |_=>exact h.elim
theorem Dp (hS:aP cx G g a w){r j:Nat}{hv:Hv}(q2:g (.leaf r j)=some (.h hv)){kb:Bool}{es es':aa}(hc:hv.c=.own (.m kb es)){b:Nat}{ents':Array MapEntry}{clock':Nat}(g1:G.val r j=.map (some b))(u2:Stamped ents' clock')(u3:dd kb ents'.toList es'):
 ∃ G',aP cx G' ((W.leaf r j ⟨hv.ver,hv.iv+1,hv.org,.own (.m kb es')⟩).app g) a {w with heap:=w.heap.setIfInBounds b (.map ents' clock')}/\G'.val r j=.map (some b)/\({w with heap:=w.heap.setIfInBounds b (.map ents' clock')}:World).heap[b]?=some (.map ents' clock'):=by
 have hok:=hS.hok (av.2 q2);simp only[cR,hc,bC]at hok;obtain⟨⟨b0,ents,clock,g1',g2,g3,g4,g5⟩,hnd,htok⟩:=hok;rw[g1]at g1';cases g1';have hset:=YF (o':=ZH ents' clock') g2;have hbb:b∈G.fp r j:=by rw[g5];simp
 have hob:=(htok b hbb).1;obtain⟨G',k1,_,k3,_⟩:=hS.upd q2 ⟨hv.ver,hv.iv+1,hv.org,.own (.m kb es')⟩ (G.val r j) (G.fp r j) {w with heap:=w.heap.setIfInBounds b (.map ents' clock')}
  (.inr ⟨rfl,WP _,rfl,.inr ⟨kb,es,_,hc,rfl⟩⟩) rfl rfl rfl (by simp)
  (fun c _ _ h3=>hset.2 c (fun e=>h3 _ hc (e▸hbb)))
  (fun c off hl=>by
    obtain⟨kk,hk2⟩:=hS.noloc r _ hl;obtain⟨b',off',cur,ty,m1,m2,m3,m4,m5⟩:=hS.boxes r kk hk2;rw[hl]at m1;cases m1;have hne:c≠b:=by intro e;subst e;rw[hob]at m2;cases m2
    refine⟨cur,cur,ty,m3,by rw[hset.2 c hne];exact m3,rfl,fun hlt=>?_,fun _ _=>rfl⟩;obtain⟨_,k3,bx,_,e3,e4,_⟩:=hS.leaf r j _ q2;rw[hk2]at e3;cases e3;exact m5 j e4)
  (fun l _ c hcb=>by
    rw[g5]at hcb;simp only[VN,WW,or_false]at hcb;subst hcb;exact .inr ⟨_,_,hset.1⟩)
  (by
    refine⟨⟨b,ents',clock',g1,hset.1,u2,u3,g5⟩,hnd,fun c hcb=>⟨?_,.inr ⟨_,hc,hcb⟩⟩⟩;rw[g5]at hcb;simp only[VN,WW,or_false]at hcb;subst hcb;exact .inr ⟨_,_,hset.1⟩)
  (by
    intro i hi';exact hS.anc r j hv (av.2 q2) i hi')
 exact⟨G',k1,by rw[k3,if_pos ⟨rfl,rfl⟩];exact g1,hset.1⟩
theorem sr {t:TypeId}{m k:Operand}(ho:o.op=.mapEntry t m k)(hS:aP cx G g a w)(h:(ga mgbI ft iV (zd P) cx.n o.dst t m k).Runs g ls (.ws ws)) 
 (hk:∀ a' w',de cx (aS g ws) a' w'->K a' w'):o.wp P a w K Q:=by
 unfold ga at h;split at h
 case h_2=>exact h.elim
 rename_i kb d hmp hd;split at h
 case isFalse=>exact h.elim
 rename_i hlt;obtain⟨x0,ls1,hx,h⟩:=aW hS h;cases x0 with
 | mv r j ver=>
   obtain⟨kd,n,ls2,hi,h⟩:=cZ hS h;split at h
   case isFalse=>exact h.elim
   rename_i hkd;simp only[beq_iff_eq]at hkd;subst hkd;obtain⟨hv,ls4,q1,q2,h⟩:=ba h;split at h
   case h_2=>exact h.elim
   rename_i kb' es hc;split at h
   case isFalse=>exact h.elim
   rename_i hb;simp only[AI,beq_iff_eq]at hb;obtain⟨hb,rfl⟩:=hb;obtain⟨h2,f1,f2,f3⟩:=hx;rw[q1]at f1;cases f1;have e:=f3 hb _ _ hc;have hok:=hS.hok q1;simp only[cR,hc,bC]at hok;obtain⟨⟨b,ents,clock,g1,g2,g3,g4,g5⟩,hnd,htok⟩:=hok;obtain⟨ents',clock',i,en,u1,u2,u3,u4,u5⟩:=Ed hmp g2 g3 g4 n;obtain⟨G',k1,k2,k3⟩:=Dp hS q2 hc g1 u2 u3;have hws:ws=[.leaf r j ⟨hv.ver,hv.iv+1,hv.org,.own (.m kb' (iV es n (.v (AP es n kb'))))⟩,.reg d (.tup [.one (.v (AP es n kb')),.one (.st r j hv.ver (hv.iv+1) n)])]:=by
    cases kb'<;>(simp only[Rd.Runs,Out.ws.injEq]at h;exact h.2)
   subst hws;refine cK (v:=.tuple #[AP es n kb',goInt en.born]) (w':={w with heap:=w.heap.setIfInBounds b (.map ents' clock')}) ?_ (hk _ _ ?_)
   ·unfold execOp;simp[ho,e,g1,hi,u1,Wt]
   ·simp only[aS];rw[hd];refine⟨G',k1.put hlt ?_⟩;simp only[cg];refine⟨[AP es n kb',goInt en.born],rfl,?_⟩;simp only[fD,cg];refine⟨_,_,rfl,?_,_,_,rfl,?_,rfl⟩
    ·simp only[eZ]
    ·simp only[eZ];refine⟨⟨hv.ver,hv.iv+1,hv.org,.own (.m kb' (iV es n (.v (AP es n kb'))))⟩,by simp[gl,W.app],VJ _,VJ _,fun _ kb2 es2 q=>?_⟩;exact⟨b,ents',clock',i,en,k2,k3,u4,u5,rfl⟩
 |_=>exact h.elim
theorem oI {t:TypeId}{m s x:Operand}(ho:o.op=.entryStore t m s x)(hdst:o.dst=none)(hS:aP cx G g a w)(h:(eL iV (zd P) t m s x).Runs g ls (.ws ws)) 
 (hk:∀ a' w',de cx (aS g ws) a' w'->K a' w'):o.wp P a w K Q:=by
 unfold eL at h;split at h
 ·exact h.elim
 ·rename_i kb hmp;obtain⟨x0,ls1,hx,h⟩:=aW hS h;cases x0 with
  | mv r j ver=>
    obtain⟨s0,ls2,hs,h⟩:=aW hS h;cases s0 with
    | st r2 j2 ver2 iv2 n=>
      obtain⟨y0,ls3,hy,h⟩:=aW hS h;cases y0 with
      | v y=>
        simp only at h;split at h
        case isFalse=>exact h.elim
        rename_i hmk;obtain⟨hv,ls4,q1,q2,h⟩:=ba h;split at h
        case h_2=>exact h.elim
        rename_i kb' es hc;split at h
        case isFalse=>exact h.elim
        rename_i hb;simp only[AI,beq_iff_eq]at hb;obtain⟨⟨⟨⟨hb,rfl⟩,rfl⟩,rfl⟩,hgd⟩:=hb;simp only[Rd.Runs,Out.ws.injEq]at h;obtain⟨_,rfl⟩:=h;obtain⟨h2,f1,f2,f3⟩:=hx;rw[q1]at f1;cases f1;have e:=f3 hb _ _ hc;obtain⟨h3,s1,s2,s3,s4⟩:=hs;rw[q1]at s1;cases s1;obtain⟨b,ents,clock,i,en,t1,t2,t3,t4,t5⟩:=s4 hgd _ _ hc;have hok:=hS.hok q1;simp only[cR,hc,bC]at hok;obtain⟨⟨b',ents0,clock0,g1,g2,g3,g4,g5⟩,hnd,htok⟩:=hok;rw[t1]at g1;cases g1;rw[t2]at g2;cases g2;have hy:a.eval x=y:=hy;obtain⟨ents',u1,u2,u3⟩:=uC (P:=P) (t:=t) t2 g3 g4 t3 t4 hmk;obtain⟨G',k1,_⟩:=Dp hS q2 hc t1 u2 u3;refine gM hdst (w':={w with heap:=w.heap.setIfInBounds b (.map ents' clock)}) ?_ (hk _ _ ?_)
        ·unfold execOp;simp[ho,e,t1,t5,hy,u1]
        ·simp only[aS];exact⟨G',k1⟩
      |_=>exact h.elim
    |_=>exact h.elim
  |_=>exact h.elim
end
end Go.V
namespace Go.V
section
variable {P : Program} {o : Oper} {cx : Cx} {G : Gh} {g : Gm} {a : Act} {w : World} {ls : List Loc} {ws : List W} {K : Act -> World -> Prop} {Q : Exit -> Act -> World -> Prop}
theorem vK {sz:Nat}{es:aa}{p:List (Nat×Nat)}{new:ay}{y:ay×Nat}(h:bL (.s sz es) p=some y):fY (.s sz es) p new=.s sz (rowOf (fY (.s sz es) p new)):=by
 match p with
 |[]=>simp[bL]at h
 |[(i,j)]=>rfl
 |(i,j)::q::p=>rfl
theorem aP.storeAt (hS:aP cx G g a w){r j:Nat}{h0:Hv}{l:L}(q3:g (.leaf r j)=some (.h h0))(hc:h0.c=.own l){p:List (Nat×Nat)}{b o0:Nat}(g1:bz w l (G.val r j) p b o0){rec:ay}{jj:Nat}(hg:bL l p=some (rec,jj)) 
 (ls0:ay) (vs:List Value) (S2:List Nat) (hlen:jj+ls0.length<=rec.length) (hvl:ls0.length=vs.length) (hone:∀ u∈vs,u.oneCell'=true) (hrd2:ak w ls0 vs S2) (hnd2:S2.Nodup)
 (hsub:∀ (cur:Array Value) (ty:TypeId) (fz:Nat×Nat) (Sy:List Nat),w.heap[b]?=some (.cells cur ty fz)->ak w ((rec.drop jj).take vs.length) ((cur.toList.drop o0).take vs.length) Sy->∀ c∈S2,c∈Sy):
 ∃ w',(storeCells ⟨b,o0,none⟩ vs 0).run P w=.ok () w'/\de cx ((W.leaf r j ⟨h0.ver,h0.iv+1,h0.org,.own (fY l p ls0)⟩).app g) a w':=by
 have hok:=hS.hok (av.2 q3);simp only[cR,hc]at hok;obtain⟨cur,ty,fz,base,Sa,S1,Sb,m1,m2,m3,m4,m5,m6,m7⟩:=focus p l _ _ b o0 rec jj hok.1 hok.2.1 g1 hg;have hbS:b∈G.fp r j:=by rw[m2];simp[m3]
 obtain⟨how,hunf⟩:=hok.2.2 b hbS;have hfz:=hunf.cells m1;subst hfz
 let cur':=(cur.toList.take o0++vs++cur.toList.drop (o0+vs.length)).toArray
 let w':=w.setRow b cur'
 have hsz:cur'.size=cur.size:=by
  simp only[cur',List.size_toArray,By,VK,VR,V3];rw[m4];omega
 have hst:(storeCells ⟨b,o0,none⟩ vs 0).run P w=.ok () w':=by
  have:=run_storeCells_at P b o0 ty vs 0 cur w m1 (by omega) (hone)
  simpa[w',cur']using this
 have hoth:∀ b',b'≠b->w'.heap[b']?=w.heap[b']?:=fun b' hb'=>setRow_other w b b' _ hb'
 have hnew0:w'.heap[b]?=some (.cells cur' ty (0,0)):=setRow_heap w b cur _ ty _ m1;have hcell:∀ i,cur'[i]?=if o0<=i/\i<o0+vs.length then vs[i-o0]? else cur[i]?:=by
  intro i;simp only[cur',List.getElem?_toArray];have l1:(cur.toList.take o0).length=o0:=by simp only[VK,V3];omega
  rcases WM i o0 with hi|hi
  ·rw[if_neg (by omega),IS,Wa (by omega),VV,if_pos hi];simp
  ·rcases WM i (o0+vs.length)with hi2|hi2
   ·rw[if_pos ⟨hi,hi2⟩,IS,VY (by omega),l1,Wa (by omega)]
   ·rw[if_neg (by omega),IS,VY (by omega),l1,VY (by omega),VU];have:o0+vs.length+(i-o0-vs.length)=i:=by omega
    rw[this];simp
 have hndb:b∉S1/\b∉Sb:=by
  have hn:=hok.2.1;rw[m2]at hn;rw[VP]at hn;obtain⟨n1,n2,n3⟩:=hn;rw[VP]at n1;exact⟨fun hb=>n1.2.2 b m3 b hb rfl,fun hb=>n3 b (by simp[m3]) b hb rfl⟩
 have hlen':jj+vs.length<=rec.length:=by omega
 have m6':ak w (rec.take jj++((rec.drop jj).take vs.length++(rec.drop jj).drop vs.length)) ((cur.toList.drop base).take rec.length) S1:=by
  rw[V2,V2];exact m6
 obtain⟨Sx,Sr,rfl,x1,x2⟩:=ak.split m6';obtain⟨Sy,Sz,rfl,x3,x4⟩:=ak.split x2;have lj:(rec.take jj).length=jj:=by simp only[VK];omega
 have ly:((rec.drop jj).take vs.length).length=vs.length:=by simp only[VK,VR];omega
 have ey:(((cur.toList.drop base).take rec.length).drop (rec.take jj).length).take ((rec.drop jj).take vs.length).length=(cur.toList.drop o0).take vs.length:=by
  rw[lj,ly,XB,XC,WF,m4]
  congr 1;omega
 have hS2:∀ c∈S2,c∈Sy:=hsub cur ty (0,0) Sy m1 (by rw[<-ey];exact x3);have hnb:∀ c∈S2,c≠b:=by
  rintro c hc0 rfl;exact hndb.1 (by simp[hS2 c hc0])
 have rd1:ak w' (rec.take jj) (((cur'.toList.drop base).take rec.length).take jj) Sx:=by
  have:=ak.keep (w':=w') _ _ _ x1 (fun c hc0=>hoth c (by rintro rfl;exact hndb.1 (by simp[hc0])));rw[lj]at this;have e:(((cur'.toList.drop base).take rec.length).take jj)=(((cur.toList.drop base).take rec.length).take jj):=by
   apply V8;intro i;simp only[VV,VU,V6];by_cases ci:i<jj
   ·have hci:=hcell (base+i);rw[if_neg (by omega)]at hci;rw[hci]
   ·simp[ci]
  rw[e];simpa using this
 have rd2:ak w' ls0 vs S2:=ak.keep _ _ _ hrd2 (fun c hc0=>hoth c (hnb c hc0));have rd3:ak w' ((rec.drop jj).drop vs.length) (((cur'.toList.drop base).take rec.length).drop (jj+vs.length)) Sz:=by
  have:=ak.keep (w':=w') _ _ _ x4 (fun c hc0=>hoth c (by rintro rfl;exact hndb.1 (by simp[hc0])));rw[lj,ly]at this;have e:(((cur'.toList.drop base).take rec.length).drop (jj+vs.length))=(((cur.toList.drop base).take rec.length).drop (jj+vs.length)):=by
   apply V8;intro i;simp only[VV,VU,V6];by_cases ci:jj+vs.length+i<rec.length
   ·have hci:=hcell (base+(jj+vs.length+i));rw[if_neg (by omega)]at hci;rw[hci]
   ·simp[ci]
  rw[e, <-WF];exact this
 have hmid:(cur'.toList.drop base).take rec.length=((cur'.toList.drop base).take rec.length).take jj++(vs++((cur'.toList.drop base).take rec.length).drop (jj+vs.length)):=by
  have e3:((cur'.toList.drop base).take rec.length).drop jj=vs++((cur'.toList.drop base).take rec.length).drop (jj+vs.length):=by
   rw[<-WF]
   conv=>lhs;rw[<-V2 vs.length (((cur'.toList.drop base).take rec.length).drop jj)]
   congr 1
   apply V8;intro i;simp only[VV,VU,V6];by_cases ci:i<vs.length
   ·have hci:=hcell (base+(jj+i));rw[if_pos (by omega)]at hci;rw[if_pos ci,if_pos (by omega),hci]
    congr 1;omega
   ·rw[if_neg ci,Wb (by omega)]
  rw[<-e3,V2]
 have rdall:ak w' (rec.take jj++ls0++rec.drop (jj+ls0.length)) ((cur'.toList.drop base).take rec.length) (Sx++(S2++Sz)):=by
  rw[hmid,IS,hvl, <-WF];exact rd1.append (rd2.append rd3)
 have hrd:=m7 w' cur' _ _ hnew0 hsz (by
  intro i hi;rw[hcell,if_neg (by omega)]) (by
  simp only[By,VK,VR,hvl];omega) rdall
  (fun c hc0 hcb=>hoth c hcb)
 rw[<-hD p l rec jj _ hg]at hrd;have hS':(Sa++(Sx++(S2++Sz))++Sb).Nodup:=by
  have hn:=hok.2.1;rw[m2]at hn;have e4:Sa++(Sx++(S2++Sz))++Sb=(Sa++Sx)++S2++(Sz++Sb):=by simp
  have e5:Sa++(Sx++(Sy++Sz))++Sb=(Sa++Sx)++Sy++(Sz++Sb):=by simp
  rw[e4];rw[e5]at hn;refine mr hn hnd2 (fun c hc0 hcA=>?_) (fun c hc0 hcB=>?_)
  ·exact(il hn).2 c (hS2 c hc0)|>.1 hcA
  ·exact(il hn).2 c (hS2 c hc0)|>.2 hcB
 have hlsz:∃ sz es,l=.s sz es:=by
  cases l with
  |s sz es=>exact⟨sz,es,rfl⟩
  |v y=>cases p<;>simp[bL]at hg
  |g=>cases p<;>simp[bL]at hg
  |m _ _=>cases p<;>simp[bL]at hg
 obtain⟨sz,es,hls⟩:=hlsz;obtain⟨es',hes1,hes2⟩:=vy l p (rec.take jj++ls0++rec.drop (jj+ls0.length)) sz es hls;rw[<-hD p l rec jj _ hg]at hes1;obtain⟨G',s1,_⟩:=hS.upd q3 ⟨h0.ver,h0.iv+1,h0.org,.own (fY l p ls0)⟩ (G.val r j) (Sa++(Sx++(S2++Sz))++Sb) w'
  (.inr ⟨rfl,WP _,rfl,.inl ⟨sz,es,es',by rw[hc,hls],by simp only[hes1],hes2⟩⟩) rfl rfl rfl (by simp[w'])
  (fun b' _ _ h2=>hoth b' (by rintro rfl;exact h2 l hc hbS))
  (by
    intro b1 off1 hl1;obtain⟨mm,hm⟩:=hS.noloc r _ hl1;obtain⟨b2,off2,c2,t2,u1,u2,u3,u4,u5⟩:=hS.boxes r mm hm;rw[hl1]at u1;cases u1;have hne:b1≠b:=by rintro rfl;rw[how]at u2;cases u2
    obtain⟨_,mm',bx,_,p2,p3,_⟩:=hS.leaf r j _ q3;rw[hm]at p2;cases p2;exact⟨c2,c2,t2,u3,by rw[hoth b1 hne];exact u3,rfl,fun _=>u5 j p3,fun _ _=>rfl⟩)
  (by
    intro l' hc' b1 hb1;by_cases hb:b1=b
    ·subst hb;exact .inl ⟨cur',ty,hnew0⟩
    ·exact(hok.2.2 b1 hb1).2.keep (hoth b1 hb))
  (by
    simp only;refine⟨hrd,hS',fun b1 hb1=>?_⟩;have q:b1∈G.fp r j:=by
     rw[m2];simp only[BY]at hb1 ⊢;rcases hb1 with(q|q|q|q)|q
     ·exact .inl (.inl q)
     ·exact .inl (.inr (.inl q))
     ·exact .inl (.inr (.inr (.inl (hS2 b1 q))))
     ·exact .inl (.inr (.inr (.inr q)))
     ·exact .inr q
    refine⟨?_,.inr ⟨l,hc,q⟩⟩;by_cases hb:b1=b
    ·subst hb;exact .inl ⟨cur',ty,hnew0⟩
    ·exact(hok.2.2 b1 q).2.keep (hoth b1 hb))
  (fun i e1=>hS.anc r j h0 (av.2 q3) i e1)
 exact⟨w',hst,G',s1⟩
theorem cF.part {hv:Value}{sz lo0 m:Nat}{base':Option Addr}{cap':Nat}(hw:cF hv sz lo0 m (.slice base' m cap')){es:aa}{S:List Nat}(hr:bC w (.s sz es) hv S)(hlm:lo0+m<=es.length){l hh:Int}(h0:0<=l)(h1:l<=hh)(h2:hh<=m):
 cF hv sz (lo0+l.toNat) (hh.toNat-l.toNat) (.slice (if cap'=l.toNat then base' else base'.map (·.add (l.toNat*sz))) (hh.toNat-l.toNat) (cap'-l.toNat)):=by
 obtain⟨base,len,cap,base'',cap'',g1,g2,g3,g4,g5,g6⟩:=hw;cases g2;have hcm:(cap'-l.toNat)*sz+l.toNat*sz=cap'*sz:=by rw[<-VX];congr 1;omega
 refine⟨base,len,cap,_,_,g1,rfl,by omega,by omega,?_,?_⟩
 ·intro e1 e2;have e3:l.toNat=0:=by omega
  have e4:lo0=0:=by omega
  have e5:m=len:=by
   simp only[bC]at hr;obtain⟨b0,n0,c0,r1,r2,_⟩:=hr;rw[g1]at r1;cases r1;omega
  have:=g5 e4 e5;rw[<-this];have e6:hh.toNat=m:=by omega
  rw[e3,e6];have:(if cap'=0 then base' else base'.map (·.add (0*sz)))=base':=by
   split
   ·rfl
   ·cases base'<;>simp[Addr.add]
  simp only[this,Nat.sub_zero]
 ·rcases g6 with⟨r1,r3⟩|⟨b,off,off',r1,r2,r3,r4⟩
  ·exact .inl ⟨r1,by omega⟩
  ·subst r1 r2;by_cases c:cap'=l.toNat
   ·rw[if_pos c];exact .inr ⟨b,off,off',rfl,rfl,by rw[c];simp;rw[c]at r3;omega,fun hp=>by omega⟩
   ·rw[if_neg c];refine .inr ⟨b,off,off'+l.toNat*sz,rfl,by simp[add_lit],by omega,fun hp=>?_⟩;have:=r4 (by omega);rw[this,VX];omega
theorem cF.rd {v:Value}{sz lo m:Nat}{es:aa}{hv:Value}{S:List Nat}(hr:bC w (.s sz es) hv S)(hlo:lo+m<=es.length)(hw:cF hv sz lo m v):∃ S1,bC w (.s sz ((es.drop lo).take m)) v S1/\∀ b∈S1,b∈S:=by
 obtain⟨base,len,cap,base',cap',g1,g2,g3,g4,g5,g6⟩:=hw;have hr0:=hr;simp only[bC]at hr;obtain⟨base0,len0,cap0,q1,q2,q3,q4,q5⟩:=hr;rw[g1]at q1;cases q1;have hlen:((es.drop lo).take m).length=m:=by simp only[VK,VR];omega
 rcases q5 with⟨e1,e3⟩|⟨b,off,cur,ty,fz,S',f1,f2,f3,f4,f5⟩
 ·refine⟨[],?_,fun b hb=>by cases hb⟩;simp only[bC];exact⟨base',m,cap',g2,hlen.symm,g3,by omega,.inl ⟨by omega,trivial⟩⟩
 ·rcases g6 with⟨r1,r3⟩|⟨b1,off1,off',r1,r2,r3,r4⟩
  ·refine⟨[],?_,fun b hb=>by cases hb⟩;simp only[bC];exact⟨base',m,cap',g2,hlen.symm,g3,by omega,.inl ⟨r3,trivial⟩⟩
  rw[r1]at f1;cases f1;obtain⟨S1,k1,k2⟩:=f4.sub lo m;by_cases hm:0<m
  ·have ho:=r4 hm;refine⟨b::S1,?_,fun c hc=>by rw[f5];rcases VN.1 hc with rfl|hc;exact .head _;exact .tail _ (k2 c hc)⟩;simp only[bC];refine⟨base',m,cap',g2,hlen.symm,g3,by omega,.inr ⟨b,off',cur,ty,fz,S1,r2,f2,by omega,?_,rfl⟩⟩;have hl2:m*sz+lo*sz<=len*sz:=by rw[<-VX];exact Nat.mul_le_mul_right _ (by omega)
   have:(cur.toList.drop off').take (m*sz)=(((cur.toList.drop off).take (len*sz)).drop (lo*sz)).take (((es.drop lo).take m).length*sz):=by
    apply V8;intro k;rw[hlen,ho];simp only[VV,VU];by_cases ck:k<m*sz
    ·simp only[ck,if_true];rw[if_pos (by omega)];congr 1;omega
    ·simp[ck]
   rw[this];exact k1
  ·have hm0:m=0:=by omega
   subst hm0;refine⟨[b],?_,fun c hc=>by rw[f5];rcases VN.1 hc with rfl|hc;exact .head _;cases hc⟩;simp only[bC,List.take_zero];exact⟨base',0,cap',g2,rfl,g3,by omega,.inr ⟨b,off',cur,ty,fz,[],r2,f2,by omega,by simp[bg],rfl⟩⟩
theorem bz.det :∀ (p:List (Nat×Nat)) (l:L) (hv:Value) (b o b' o':Nat),bz w l hv p b o->bz w l hv p b' o'->b'=b/\o'=o
 |[],l,hv,b,o,b',o',h,_=>by cases l<;>simp[bz]at h
 | (i,j)::p,l,hv,b,o,b',o',h,h'=>by
  cases l with
  | s sz es=>
    simp only[bz]at h h';obtain⟨b1,off,len,cap,y1,y2,y3⟩:=h;obtain⟨b2,off2,len2,cap2,z1,z2,z3⟩:=h';rw[y1]at z1;cases z1;cases p with
    |nil=>obtain⟨rfl,rfl⟩:=y3;exact z3
    | cons q p=>
      obtain⟨l1,v1,u1,u2,u3⟩:=y3;obtain⟨l2,v2,w1,w2,w3⟩:=z3;rw[u1]at w1;cases w1;rw[u2]at w2;cases w2;exact bz.det (q::p) _ _ _ _ _ _ u3 w3
  |_=>simp[bz]at h
theorem A7 {k:Nat}{es:aa}{b off len cap:Nat}{S:List Nat}(h:bC w (.s k es) (.slice (some ⟨b,off,none⟩) len cap) S)(hs:bT es)(hc:cap≠0):S=[b]:=by
 simp only[bC]at h;obtain⟨base,len',cap',e,_,_,_,h⟩:=h;cases e;rcases h with⟨q,_⟩|⟨b',off',cur,ty,fz,S',e,_,_,q,rfl⟩
 ·exact absurd q hc
 ·cases e;rw[jF hs q]
theorem cF.own {v hv:Value}{k lo m:Nat}{es:aa}{S:List Nat}(hw:cF hv k lo m v)(hr:bC w (.s k es) hv S)(hlo:lo+m<=es.length)(hsc:bT es)(hst:bT ((es.drop lo).take m)):
 ∃ S2,bC w (.s k ((es.drop lo).take m)) v S2/\S2.Nodup/\∀ S3,bC w (.s k es) hv S3->∀ c∈S2,c∈S3:=by
 obtain⟨S1,k1,_⟩:=cF.rd hr hlo hw;obtain⟨base,len,cap,base',cap',g1,g2,g3,g4,g5,g6⟩:=id hw;subst g1 g2;by_cases hc:cap'=0
 ·subst hc;refine⟨[],?_,Wd,fun S3 _ c hc=>by cases hc⟩;simp only[bC]at k1 ⊢;obtain⟨base0,len0,cap0,q1,q2,q3,q4,_⟩:=k1;cases q1;exact⟨_,_,_,rfl,q2,q3,q4,.inl ⟨rfl,trivial⟩⟩
 ·rcases g6 with⟨_,q⟩|⟨b,off,off',r1,r2,r3,r4⟩
  ·exact absurd q hc
  ·subst r1 r2;have e:=A7 k1 hst hc;subst e;refine⟨[b],k1,by simp,fun S3 h3 c hc3=>?_⟩;rw[A7 h3 hsc (by omega)];exact hc3
theorem lD :∀ {es:aa} {m:Nat},bT es->bT (es.take m)
 |[],m,_=>by simp[bT]
 |e::es,0,_=>by simp[bT]
 |e::es,m+1,h=>⟨h.1,lD h.2⟩
theorem lC :∀ {es:aa} {m:Nat},bT es->bT (es.drop m)
 |[],m,_=>by simp[bT]
 |e::es,0,h=>h
 |e::es,m+1,h=>lC (es:=es) h.2
theorem nested (hS:aP cx G g a w){r j ver iv lo m:Nat}{p:List (Nat×Nat)}{v:Value}(hx:eZ (gl g) G w (.vn r j ver iv p lo m) v){h:Hv}(q1:gl g r j=some h)(hgd:eD h ver iv=true){l:L}(hc:h.c=.own l){k:Nat}{es:aa}(hs:eY l p=some (k,es)):
 ∃ rec o bb oo hv S,bL l p=some (rec,o)/\rec[o]?=some (.s k es)/\bz w l (G.val r j) p bb oo/\w.cell? ⟨bb,oo,none⟩=some hv/\lo+m<=es.length/\cF hv k lo m v/\bC w (.s k es) hv S/\S.Nodup:=by
 obtain⟨h2,f1,f2,f2',fne,f3⟩:=hx;rw[q1]at f1;cases f1;unfold eY at hs;cases hg:bL l p with
 |none=>simp[hg]at hs
 | some pr=>
   obtain⟨rec,j0⟩:=pr;simp only[hg]at hs;split at hs
   case h_2=>cases hs
   rename_i sz es' hrec;cases hs;obtain⟨bb,oo,hvv,f4,f5,f6,f7⟩:=f3 hgd l rec j0 k es hc hg hrec;have hok:=hS.hok q1;simp only[cR,hc]at hok;obtain⟨cur,ty,fz,base,Sa,S1,Sb,m1,m2,m3,m4,m5,m6,_⟩:=focus p l _ _ bb oo rec j0 hok.1 hok.2.1 f4 hg;obtain⟨Sp,Sx,Sq,v',k1,k2,k3⟩:=m6.at j0 _ hrec;have hvv':v'=hvv:=by
    have:=dx m1 k2;rw[<-m4,f5]at this;exact(WT this).symm
   subst hvv';have hn:=hok.2.1;rw[m2]at hn;have hn1:=(il hn).1;rw[k1]at hn1;exact⟨rec,j0,bb,oo,v',Sx,rfl,hrec,f4,f5,f6,f7,k3,(il hn1).1⟩
end
def sO (pr:(Unit->Prop)->Prop)(ad:Nat->Int->Nat)(df:Int->Int->Nat)(zi:Nat->Int)(el:TypeId->Option (TypeId×TI×Nat))(n:Nat)(d:Option Tmp)(t:TypeId)(x:Operand)(low high max:Option Operand):Rd Out:=
 match el t,max with
 | some (_,ti,_),none=>dN x fun
   | .vn r j ver iv p lo m=>ez r j fun h=>match h.c with
     | .own l=>if eD h ver iv then dk low 0 fun a=>dk high (zi m) fun b=>
        .req (pr fun _=>0<=a/\a<=b/\b<=m/\∃ es,eY l p=some (ti.zero.length,es)) (bh n d (.one (.vn r j ver iv p (ad lo a) (df b a))))else .fail
     |_=>.fail
   |_=>.fail
 |_,_=>.fail
def oN (pr:(Unit->Prop)->Prop)(ps:K6)(sub:aa->Nat->Nat->aa)(up:RF)(ty:TypeId->Option TI)(t:TypeId)(x y:Operand):Rd Out:=
 match ty t with
 |none=>.fail
 | some ti=>match ti.slots with
   | [some k]=>dN x fun
     | .pn r j ver iv p=>dN y fun
       | .vn r2 j2 ver2 iv2 p2 lo m=>if WR r r2&&WR j j2 then ez r j fun h=>if uQ h ver iv p&&eD h ver2 iv2 then match h.c with
         | .own (.s sz es)=>.req (pr fun _=>p=p2/\eY (.s sz es) p=some (k,ps (.s sz es) p)/\bT (ps (.s sz es) p))
            (.ret (.ws [.leaf r j ⟨h.ver,h.iv+1,h.org,.own (.s sz (up (.s sz es) p [.s k (sub (ps (.s sz es) p) lo m)]))⟩]))
         |_=>.fail else .fail else .fail
       |_=>.fail
     |_=>.fail
   |_=>.fail
section
variable {P : Program} {o : Oper} {cx : Cx} {G : Gh} {g : Gm} {a : Act} {w : World} {ls : List Loc} {ws : List W} {K : Act -> World -> Prop} {Q : Exit -> Act -> World -> Prop}
theorem xr {t:TypeId}{x:Operand}{lo hi mx:Option Operand}(ho:o.op=.slice t x lo hi mx)(hS:aP cx G g a w)(h:(sO iW (fun lo i=>lo+i.toNat) (fun h l=>h.toNat-l.toNat) (fun n=>n) (yH P) cx.n o.dst t x lo hi mx).Runs g ls (.ws ws)) 
 (hk:∀ a' w',de cx (aS g ws) a' w'->K a' w'):o.wp P a w K Q:=by
 unfold sO at h;split at h
 ·rename_i e ti bytes hel;obtain⟨x0,ls',hx,h⟩:=aW hS h;cases x0 with
  | vn r j ver iv p lo0 m=>
    simp only at h;obtain⟨hv,ls3,q1,_,h⟩:=ba h;split at h
    ·rename_i l hc;split at h
     ·rename_i hgd;obtain⟨la,ls2,h,hl⟩:=dH hS h;obtain⟨hh,ls3,h,hhi⟩:=dH hS h;obtain⟨⟨h0,h1,h2,es,hes⟩,h⟩:=h;obtain⟨rec,o0,bb,oo,hvv,S,n1,n2,n3,n4,n5,n6,n7,n8⟩:=nested hS hx q1 hgd hc hes;obtain⟨_,f1,f2,f3,fne,_⟩:=hx;rw[q1]at f1;cases f1;obtain⟨base,len,cap,base',cap',g1,g2,g3,g4,g5,g6⟩:=id n6;rw[g2]at n6;have hw:=n6.part n7 n5 h0 h1 h2;refine aX hS h ?_ (pJ hel base' m cap' g2 la hh hl hhi h0 h1 (by omega) ho) hk;simp only[cg];refine⟨hv,q1,f2,f3,fne,fun _ l' rec' o' sz' es' hc' hr' hr2=>?_⟩;rw[hc]at hc';cases hc';rw[n1]at hr';cases hr';rw[n2]at hr2;cases hr2;exact⟨bb,oo,hvv,n3,n4,by omega,hw⟩
     ·exact h.elim
    ·exact h.elim
  |_=>exact h.elim
 ·exact h.elim
theorem xt {t:TypeId}{x y:Operand}(ho:o.op=.store t x y)(hdst:o.dst=none)(hS:aP cx G g a w)(h:(oN iW jy (fun es lo m=>(es.drop lo).take m) wg (j3 P) t x y).Runs g ls (.ws ws)) 
 (hk:∀ a' w',de cx (aS g ws) a' w'->K a' w'):o.wp P a w K Q:=by
 unfold oN at h;split at h
 ·exact h.elim
 ·rename_i ti hti;split at h
  case h_2=>exact h.elim
  rename_i k hsl;obtain⟨x0,ls1,hx,h⟩:=aW hS h;cases x0 with
  | pn r j ver iv p=>
    obtain⟨y0,ls2,hy,h⟩:=aW hS h;cases y0 with
    | vn r2 j2 ver2 iv2 p2 lo m=>
      simp only at h;split at h
      case isFalse=>exact h.elim
      rename_i hrj;simp only[AI]at hrj;have e1:=V0 hrj.1;have e2:=V0 hrj.2;subst e1 e2;obtain⟨h0,ls3,q1,q2,hq⟩:=ba h;split at hq
      case isFalse=>exact hq.elim
      rename_i hgd;simp only[AI]at hgd;split at hq
      case h_2=>exact hq.elim
      rename_i sz es hc;obtain⟨⟨rfl,hes,hsc⟩,hq⟩:=hq;simp only[Rd.Runs,Out.ws.injEq]at hq;obtain⟨_,rfl⟩:=hq;obtain⟨rec,o0,bb,oo,hvv,S,n1,n2,n3,n4,n5,n6,n7,n8⟩:=nested hS hy q1 hgd.2 hc hes;obtain⟨h1,f1,f2,f3,f4,f5⟩:=hx;rw[q1]at f1;cases f1;obtain⟨b,o1,g1,g2⟩:=f5 hgd.1 _ hc;obtain⟨e3,e4⟩:=bz.det _ _ _ _ _ _ _ g1 n3;subst e3 e4;obtain⟨S2,k1,knd,k2⟩:=n6.own n7 n5 hsc (lD (lC hsc));have hlt:o0<rec.length:=(IT.1 n2).1;obtain⟨w',s1,s2⟩:=hS.storeAt (P:=P) q2 hc g1 n1 [.s k (((jy (.s sz es) p).drop lo).take m)] [a.eval y] S2 (by simp;omega) rfl (by simpa using bC.one k1) (by simp only[ak];exact⟨_,[],S2,[],rfl,k1,⟨rfl,rfl⟩,by simp⟩)
       knd (by
        intro cur ty fz Sy m1 m2 c hc2;have er:(rec.drop o0).take [a.eval y].length=[.s k (jy (.s sz es) p)]:=by
         simp only[V9,Wy,Wc];rw[List.take_one,List.head?_drop,n2];rfl
        rw[er]at m2;simp only[ak]at m2;obtain⟨v0,vs0,S3,S4,x1,x2,⟨x3,x4⟩,x5⟩:=m2;have e0:v0=hvv:=by
         have hx1:((cur.toList.drop oo).take 1)[0]?=some v0:=by rw[show(cur.toList.drop oo).take 1=_ from x1];rfl
         rw[VV,if_pos (by omega),VU,VL,V6]at hx1;have:=n4;simp only[World.cell?,m1]at this;rw[hx1]at this;exact WT this
        subst e0;rw[x5,x4,WU];exact k2 S3 x2 c hc2)
      obtain⟨iti,z,ei1,ei2,ei3,ei4,ei5⟩:=dW hti;have hzl:=(d9 ei4).2.2;refine gM hdst (jD hti ho g2 (iE (vs:=[a.eval y]) (.inr rfl) (by simpa using bC.one k1)) (by rw[<-hzl,hsl];rfl) s1) (hk _ _ ?_);simp only[aS];have eu:(L.s sz (wg (.s sz es) p [.s k (((jy (.s sz es) p).drop lo).take m)]))=fY (.s sz es) p [.s k (((jy (.s sz es) p).drop lo).take m)]:=(vK n1).symm;rw[eu];exact s2
    |_=>exact h.elim
  |_=>exact h.elim
end
end Go.V
namespace Go.V
def RU (P:Program)(f:FuncId)(ds res:List DV):Prop:=
 ∀ (w:World) (vs:List Value) (S:List Nat),bQ w ds vs S->S.Nodup->(∀ b∈S,dy w b)->
  Calls P f vs.toArray w fun e w'=>∃ v Sr,e=.returned v/\iy w' res v Sr/\Sr.Nodup/\(∀ b∈Sr,dy w' b/\(w.heap.size<=b\/b∈S))/\Same (fun b=>b∉S) w w'
abbrev RV :=List DV->Option ((Unit->Prop)×List DV)
section
variable (tk : ∀ {β : Type}, List (Option Nat) -> List A -> (List (L × Option Nat) -> List (Nat × Nat) -> Rd β) -> Rd β) (ty : TypeId -> Option TI)
end
section
variable {P : Program} {o : Oper} {cx : Cx} {G : Gh} {g : Gm} {a : Act} {w : World} {ls : List Loc} {ws : List W} {K : Act -> World -> Prop} {Q : Exit -> Act -> World -> Prop}
end
end Go.V
namespace Go.V
open Go.MapKept
open Go.ChangeMaps (setBlock)
def RO :Value->Int
 | .int _ n=>n
 |_=>0
def jm (es:aa):List Int:=es.map fun e=>RO (match e with
 | .v x::_=>x
 |_=>.bool false)
theorem yX {kb:Bool}:∀ {l:List MapEntry} {es:aa},dd kb l es->(∀ e∈l,∃ k∈jm es,e.key=.int .i64 k)/\(∀ k∈jm es,∃ e∈l,e.key=.int .i64 k)/\l.length=es.length
 | [],es,h=>by
   have h:es=[]:=h;subst h;exact⟨(fun e he=>by cases he),(fun k hk=>by cases hk),rfl⟩
 | e::l,es,h=>by
   obtain⟨k,r,e1,e2,e3,e4⟩:=h;subst e1;obtain⟨h1,h2,h3⟩:=yX e4;refine⟨fun x hx=>?_,fun k' hk=>?_,by simp[h3]⟩
   ·rcases VN.1 hx with rfl|hx
    ·exact⟨k,by simp[jm,RO],e2⟩
    ·obtain⟨k',q1,q2⟩:=h1 x hx;exact⟨k',by simp only[jm,Wz,VN];exact .inr q1,q2⟩
   ·simp only[jm,Wz,VN,RO]at hk;rcases hk with rfl|hk
    ·exact⟨e,by simp,e2⟩
    ·obtain⟨e',q1,q2⟩:=h2 k' hk;exact⟨e',by simp[q1],q2⟩
def pY (mp:TypeId->Option Bool)(n:Nat)(d:Option Tmp)(t:TypeId)(x:Operand):Rd Out:=
 match mp t,d with
 | some kb,some d=>if d<n then dN x fun
    | .mv r j ver=>ez r j fun h=>match h.c with
      | .own (.m kb' es)=>if h.ver==ver&&kb'==kb then .ret (.ws [.leaf r j ⟨h.ver+1,h.iv,none,.gone⟩,.reg d (.one (.it es []))])else .fail
      |_=>.fail
    |_=>.fail else .fail
 |_,_=>.fail
def vV (n:Nat)(d:Option Tmp)(x:Operand):Rd Out:=
 dN x fun
  | .it _ (k::_)=>bh n d (.tup [.j k,.one .un])
  |_=>.fail
def pV (cm:TypeId->Option (List Bool))(n:Nat)(d:Option Tmp)(t:TypeId)(x:Operand)(f:Nat):Rd Out:=
 match cm t with
 |none=>.fail
 | some ks=>ev x fun
   | .agg as=>match as[f]?,ks[f]? with
     |some y,some _=>bh n d (.one y)
     |_,_=>.fail
   |_=>.fail
theorem Fe {P:Program}:∀ {fs:List Field} {j:Nat} {ks:List Bool} {f:Nat} {k:Bool},Of P j fs=some ks->ks[f]?=some k->∃ fd,fs[f]?=some fd/\fd.offset=j+f/\(P.underlying fd.type=some .bool\/∃ ik,P.underlying fd.type=some (.int ik))
 |[],j,ks,f,k,h,hk=>by simp only[Of,Wn]at h;subst h;simp at hk
 | fd::fs,j,ks,f,k,h,hk=>by
   simp only[Of]at h;split at h
   ·rename_i hc;simp only[AI,beq_iff_eq]at hc;split at h
    ·rename_i k0 ks0 e1 e2;cases h;cases f with
     | zero=>
       refine⟨fd,rfl,hc.2,?_⟩;unfold cmL at e1;split at e1
       ·rename_i ik e;exact .inr ⟨ik,e⟩
       ·rename_i e;exact .inl e
       ·cases e1
     | succ f=>
       simp at hk;obtain⟨fd',g1,g2,g3⟩:=Fe e2 hk;exact⟨fd',by simpa using g1,by omega,g3⟩
    ·cases h
   ·cases h
theorem bM.at {γ:Nat->Nat->Option Hv}{G:Gh}{w:World}:∀ {as:List A} {vs:List Value} {f:Nat} {y:A},bM γ G w as vs->as[f]?=some y->∃ v,vs[f]?=some v/\eZ γ G w y v
 |[],_,f,y,_,h=>by simp at h
 | a::as,_,f,y,hx,h=>by
   obtain⟨v,vs',e,h1,h2⟩:=hx;subst e;cases f with
   |zero=>simp at h;subst h;exact⟨v,rfl,h1⟩
   |succ f=>simp at h;obtain⟨v',g1,g2⟩:=bM.at h2 h;exact⟨v',by simpa using g1,g2⟩
section
variable {P : Program} {o : Oper} {cx : Cx} {G : Gh} {g : Gm} {a : Act} {w : World} {ls : List Loc} {ws : List W} {K : Act -> World -> Prop} {Q : Exit -> Act -> World -> Prop}
theorem aP.iter (hS:aP cx G g a w){bm r j:Nat}{h:Hv}(hh:g (.leaf r j)=some (.h h))(hc:h.c=.gone)(ho:G.ow bm=some (.leaf r j))(ob:Obj):
 aP cx {G with ow:=fun b=>if b=bm\/b=w.heap.size then some .fz else G.ow b} g a (w.alloc ob):=by
 let G2:Gh:={G with ow:=fun b=>if b=bm\/b=w.heap.size then some .fz else G.ow b}
 have keep:∀ b t,G.ow b=some t->t≠ .leaf r j->G2.ow b=some t:=by
  intro b t ht hn;have h1:¬ (b=bm\/b=w.heap.size):=by
   rintro(rfl|rfl)
   ·rw[ho]at ht;cases ht;exact hn rfl
   ·exact absurd (hS.lt _ _ ht) (Zl _)
  show(if b=bm\/b=w.heap.size then some Tok.fz else G.ow b)=some t;rw[if_neg h1];exact ht
 have old:∀ b t,G.ow b=some t->(w.alloc ob).heap[b]?=w.heap[b]?:=fun b t ht=>heap_alloc_old w ob (hS.lt b t ht)
 have lf:∀ r' j' h' l,gl g r' j'=some h'->h'.c=.own l->Tok.leaf r' j'≠ .leaf r j:=by
  intro r' j' h' l e hl q;cases q;rw[av,hh]at e;cases e;rw[hc]at hl;cases hl
 have st:Step g G w g G2 (w.alloc ob):=by
  refine⟨fun r1 j1 h1 e=>⟨h1,e,.inl ⟨rfl,rfl,fun l hl b hb=>?_⟩⟩,fun b hb=>⟨keep b _ hb (by simp),old b _ hb⟩,fun b hb=>⟨?_,old b _ hb⟩,fun _ _ h=>h⟩
  ·have:=hS.hok e;simp only[cR,hl]at this;exact old b _ (this.2.2 b hb).1
  ·exact keep b _ hb (by simp)
 have fro:∀ b,(b=bm\/b=w.heap.size)->b<cx.w0.heap.size->cx.fr b->False:=by
  rintro b (rfl|rfl) h1 h2
  ·rcases hS.frow _ h1 h2 with q|q<;>(rw[ho]at q;cases q)
  ·exact absurd (WB h1 hS.frame.size) (Zl _)
 have hsz:w.heap.size<=(w.alloc ob).heap.size:=by show w.heap.size<=(w.heap.push ob).size;rw[YW];omega
 refine⟨hS.defers,hS.tm,?_,?_,?_,hS.metas,hS.noloc,?_,?_,?_,hS.anc,hS.aloc,?_,hS.sep,hS.newb,?_⟩
 ·intro d x hx;obtain⟨h1,r1,e,h2⟩:=hS.reg d x hx;exact⟨h1,r1,e,cg.step hS st r1 _ h2⟩
 ·intro r1 k hk;obtain⟨b,off,cur,ty,f1,f2,f3,f4⟩:=hS.boxes r1 k hk;exact⟨b,off,cur,ty,f1,keep b _ f2 (by simp),by rw[old b _ f2];exact f3,f4⟩
 ·intro r1 j1 x hx;obtain⟨h1,k,box,e1,e2,e3,e4⟩:=hS.leaf r1 j1 x hx;refine⟨h1,k,box,e1,e2,e3,?_⟩;unfold cR at e4 ⊢;split at e4
  ·rename_i l hl;subst e1;have hne:=lf r1 j1 h1 l (av.2 hx) hl;exact⟨bC.keep _ _ _ e4.1 (fun b hb=>old b _ (e4.2.2 b hb).1),e4.2.1,fun b hb=>⟨keep b _ (e4.2.2 b hb).1 hne,(e4.2.2 b hb).2.keep (old b _ (e4.2.2 b hb).1)⟩⟩
  ·obtain⟨S,q1,q2⟩:=e4;exact⟨S,bC.keep _ _ _ q1 (fun b hb=>old b _ (q2 b hb)),fun b hb=>keep b _ (q2 b hb) (by simp)⟩
  ·trivial
 ·intro b t ht;have ht:(if b=bm\/b=w.heap.size then some Tok.fz else G.ow b)=some t:=ht;have hs:(w.alloc ob).heap.size=w.heap.size+1:=by show(w.heap.push ob).size=_;rw[YW]
  split at ht
  ·rename_i c;rcases c with rfl|rfl
   ·have:=hS.lt _ _ ho;omega
   ·omega
  ·have:=hS.lt b t ht;omega
 ·exact⟨hS.frame.os,hS.frame.tape,hS.frame.output,Nat.le_trans hS.frame.size hsz,fun b h1 h2=>by rw[heap_alloc_old w ob (WB h1 hS.frame.size)];exact hS.frame.block b h1 h2⟩
 ·intro b h1 h2;show(if b=bm\/b=w.heap.size then some Tok.fz else G.ow b)=none\/(if b=bm\/b=w.heap.size then some Tok.fz else G.ow b)=some .ro;rw[if_neg (fun c=>fro b c h1 h2)];exact hS.frow b h1 h2
 ·intro r1 b off e;have q:=hS.afr r1 b off e;obtain⟨c0,c,ty,h1,h2,h3⟩:=id q;exact q.keep (heap_alloc_old w ob (OF.1 h2).1)
 ·intro b hb;have hb:(if b=bm\/b=w.heap.size then some Tok.fz else G.ow b)=some .ro:=hb;split at hb
  ·cases hb
  ·exact hS.roX b hb
theorem zU {t:TypeId}{x:Operand}(ho:o.op=.range t x)(hS:aP cx G g a w)(h:(pY (zd P) cx.n o.dst t x).Runs g ls (.ws ws)) 
 (hk:∀ a' w',de cx (aS g ws) a' w'->K a' w'):o.wp P a w K Q:=by
 unfold pY at h;split at h
 case h_2=>exact h.elim
 rename_i kb d hmp hd;split at h
 case isFalse=>exact h.elim
 rename_i hlt;obtain⟨x0,ls1,hx,h3⟩:=aW hS h;cases x0 with
 | mv r j ver=>
   obtain⟨hv,ls4,q1,q2,h4⟩:=ba h3;split at h4
   case h_2=>exact h4.elim
   rename_i kb' es hc;split at h4
   case isFalse=>exact h4.elim
   rename_i hb;simp only[AI,beq_iff_eq]at hb;obtain⟨hb,rfl⟩:=hb;simp only[Rd.Runs,Out.ws.injEq]at h4;obtain⟨_,rfl⟩:=h4;obtain⟨h2,f1,f2,f3⟩:=hx;rw[q1]at f1;cases f1;have e:=f3 hb _ _ hc;have hok:=hS.hok q1;simp only[cR,hc,bC]at hok;obtain⟨⟨b,ents,clock,g1,g2,g3,g4,g5⟩,hnd,htok⟩:=hok;have hob:=(htok b (by rw[g5];simp)).1;have S1:=hS.gone q2;have hl1:(W.leaf r j ⟨hv.ver+1,hv.iv,none,.gone⟩).app g (.leaf r j)=some (.h ⟨hv.ver+1,hv.iv,none,.gone⟩):=by simp[W.app]
   have S2:=S1.iter hl1 rfl hob (.mapIter (some b) clock #[] clock);obtain⟨k',e',ht,_⟩:=nZ (w:=w) hmp;refine cK (v:=.pointer (some ⟨w.heap.size,0,none⟩)) (w':=w.alloc (.mapIter (some b) clock #[] clock)) ?_ (hk _ _ ?_)
   ·unfold execOp;simp only[ho,e,g1];simp only[Wr,run_range_map w t k' e' b ents clock ht g2,Wt];rfl
   ·simp only[aS];rw[hd];refine⟨_,S2.put hlt ?_⟩;simp only[cg,eZ];have hbl:b<w.heap.size:=(OF.1 g2).1;obtain⟨s1,s2,s3⟩:=(stamped_iff ents clock).1 g3;refine⟨w.heap.size,b,kb',rfl,by simp,by simp,clock,clock,clock, #[],ents,heap_alloc_new w _,by rw[heap_alloc_old w _ hbl];exact g2,g3,g4,s1,VJ _,VJ _,(fun x _ hx=>by simp at hx),?_,(fun k vs' h=>by cases h)⟩;have hlen:=(yX g4).2.2;unfold leftOf;have hf:=Array.size_filter_le (p:=fun e:MapEntry=> !(#[]:Array Nat).contains e.born) (xs:=ents);rw[V3]at hlen;simp only[Wy,VL];omega
 |_=>exact h3.elim
theorem zQ {t:TypeId}{x:Operand}{f:Nat}(ho:o.op=.field t x f)(hS:aP cx G g a w)(h:(pV (Og P) cx.n o.dst t x f).Runs g ls (.ws ws)) 
 (hk:∀ a' w',de cx (aS g ws) a' w'->K a' w'):o.wp P a w K Q:=by
 unfold pV at h;split at h
 ·exact h.elim
 ·rename_i ks hcm;obtain⟨r,ls1,hx,h3⟩:=dr hS h;cases r with
  | agg as=>
    simp only at h3;split at h3
    ·rename_i y k e1 e2;simp only[cg]at hx;obtain⟨vs,ev,hx⟩:=hx;obtain⟨v,g1,g2⟩:=hx.at e1;unfold Og at hcm;split at hcm
     ·rename_i fs hu;split at hcm
      ·obtain⟨fd,q1,q2,q3⟩:=Fe hcm e2;rw[V6]at q1;refine aX hS h3 (v:=v) (by simp only[cg];exact g2) ?_ hk;have hag:(isAgg fd.type).run P w=.ok false w:=by
        rcases q3 with q3|⟨ik,q3⟩<;>simp[isAgg,run_underlying q3]
       unfold execOp;simp only[ho,ev,Instr.field,Wr,run_underlying hu,Wt,q1];simp[asAgg,part,hag,q2,g1]
      ·cases hcm
     ·cases hcm
    ·exact h3.elim
  |one y=>exact h3.elim
  |tup rs=>exact h3.elim
theorem zP {x:Operand}(ho:o.op=.entry x)(hS:aP cx G g a w)(h:(vV cx.n o.dst x).Runs g ls (.ws ws)) 
 (hk:∀ a' w',de cx (aS g ws) a' w'->K a' w'):o.wp P a w K Q:=by
 unfold vV at h;obtain⟨x0,ls1,hx,h⟩:=aW hS h;split at h
 case h_2=>exact h.elim
 rename_i es k vs;obtain⟨r,bm,kb,e1,e2,e3,since,c0,clock,seen,ents,i1,i2,i3,i4,i5,i6,i7,i8,i9,i10⟩:=hx;obtain⟨e,m1,seen',rfl,m2,rfl⟩:=i10 k vs rfl;have hrun:=run_entry_at (P:=P) w r bm since seen' ents c0 e i1 i2 m1 ((stamped_iff ents c0).1 i3).2.1;refine aX hS h (v:=.tuple #[e.key,e.val]) ?_ ?_ hk
 ·simp only[cg];refine⟨[e.key,e.val],rfl,?_⟩;simp only[fD,cg];exact⟨_,_,rfl,m2,_,_,rfl,trivial,rfl⟩
 ·unfold execOp;simp only[ho,e1];simp only[Wr,hrun,Wt];rfl
end
end Go.V
namespace Go.V
open Go.MapKept
open Go.ChangeMaps (setBlock)
def Dv :A->Bool
 | .it _ _=>false
 |_=>true
mutual
def qq :R->Bool
 | .one a=>Dv a
 | .agg as=>as.all Dv
 | .tup rs=>ze rs
def ze :List R->Bool
 |[]=>true
 |r::rs=>qq r&&ze rs
end
def pK (it:Nat):VS->Bool
 |[]=>true
 | .reg d x::σ=>(WR d it||qq x)&&pK it σ
 |_::σ=>pK it σ
theorem gI {it:Nat}:∀ {σ:VS},pK it σ=true->∀ d x,get σ (.reg d)=some (.r x)->d≠it->qq x=true
 |[],_,d,x,h,_=>by simp[get]at h
 | .reg d' y::σ,hs,d,x,h,hd=>by
   simp only[pK,AI,Wo]at hs;simp only[get,W.app]at h;split at h
   ·rename_i e;cases e;cases h;rcases hs.1 with q|q
    ·exact absurd (V0 q) hd
    ·exact q
   ·exact gI hs.2 d x h hd
 | .leaf _ _ _::σ,hs,d,x,h,hd=>by
   simp only[get,W.app]at h;rw[if_neg (by simp)]at h;exact gI (σ:=σ) hs d x h hd
 | .gap _ _ _::σ,hs,d,x,h,hd=>by
   simp only[get,W.app]at h;rw[if_neg (by simp)]at h;exact gI (σ:=σ) hs d x h hd
 | .root _ _ _::σ,hs,d,x,h,hd=>by
   simp only[get,W.app]at h;exact gI (σ:=σ) hs d x h hd
section
variable {P : Program} {cx : Cx} {G : Gh} {g : Gm} {a : Act} {w : World}
theorem Dw {γ:Nat->Nat->Option Hv}{G1:Gh}(hl:G1.loc=G.loc)(hv:G1.val=G.val)(hr:∀ b,G.ow b=some .ro->G1.ow b=some .ro):∀ (y:A) (v:Value),Dv y=true->eZ γ G w y v->eZ γ G1 w y v:=by
 intro y v hn h;cases y with
 |it es vs=>cases hn
 |ro sz es=>obtain⟨S,h1,h2⟩:=h;exact⟨S,h1,fun b hb=>hr b (h2 b hb)⟩
 |rp rec j=>obtain⟨b,off,cur,ty,fz,S,e1,e2,e3,e4,e5,e6⟩:=h;exact⟨b,off,cur,ty,fz,S,e1,e2,hr b e3,e4,e5,fun c hc=>hr c (e6 c hc)⟩
 |pt r j=>obtain⟨b,off,e1,e2⟩:=h;exact⟨b,off,by rw[hl];exact e1,e2⟩
 | fn f caps=>
   obtain⟨ps,e,h⟩:=h;have key:∀ (caps:List BC) (ps:List Value),dp G w caps ps->dp G1 w caps ps:=by
    intro caps
    induction caps with
    |nil=>intro ps h;exact h
    | cons c cs ih=>
      intro ps h;obtain⟨v,vs',e,h1,h2⟩:=h;refine⟨v,vs',e,?_,ih vs' h2⟩;cases c with
      |pt r j=>obtain⟨b,off,e1,e2⟩:=h1;exact⟨b,off,by rw[hl];exact e1,e2⟩
      |rp rec j=>obtain⟨b,off,cur,ty,fz,S,e1,e2,e3,e4,e5,e6⟩:=h1;exact⟨b,off,cur,ty,fz,S,e1,e2,hr b e3,e4,e5,fun c hc=>hr c (e6 c hc)⟩
   exact⟨ps,e,key caps ps h⟩
 |v x=>exact h
 |nl=>exact h
 |un=>exact h
 |pn r j ver iv p=>unfold eZ at h ⊢;rw[hv];exact h
 |vw r j ver lo n=>unfold eZ at h ⊢;rw[hv];exact h
 |vn r j ver iv p lo n=>unfold eZ at h ⊢;rw[hv];exact h
 |mv r j ver=>unfold eZ at h ⊢;rw[hv];exact h
 |st r j ver iv k=>unfold eZ at h ⊢;rw[hv];exact h
theorem AS {γ:Nat->Nat->Option Hv}{G1:Gh}(hl:G1.loc=G.loc)(hv:G1.val=G.val)(hr:∀ b,G.ow b=some .ro->G1.ow b=some .ro):∀ (ys:List A) (vs:List Value),ys.all Dv=true->bM γ G w ys vs->bM γ G1 w ys vs
 |[],vs,_,h=>h
 | y::ys,vs,hn,h=>by
   simp only[List.all_cons,AI]at hn;obtain⟨v,vs',e,h1,h2⟩:=h;exact⟨v,vs',e,Dw hl hv hr y v hn.1 h1,AS hl hv hr ys vs' hn.2 h2⟩
mutual
theorem Gx {γ:Nat->Nat->Option Hv}{G1:Gh}(hl:G1.loc=G.loc)(hv:G1.val=G.val)(hr:∀ b,G.ow b=some .ro->G1.ow b=some .ro):∀ (y:R) (v:Value),qq y=true->cg γ G w y v->cg γ G1 w y v
 | .one y,v,hn,h=>by simp only[cg,qq]at*;exact Dw hl hv hr y v hn h
 | .agg ys,v,hn,h=>by simp only[cg,qq]at*;obtain⟨vs,e,h⟩:=h;exact⟨vs,e,AS hl hv hr ys vs hn h⟩
 | .tup rs,v,hn,h=>by simp only[cg,qq]at*;obtain⟨vs,e,h⟩:=h;exact⟨vs,e,Dx hl hv hr rs vs hn h⟩
theorem Dx {γ:Nat->Nat->Option Hv}{G1:Gh}(hl:G1.loc=G.loc)(hv:G1.val=G.val)(hr:∀ b,G.ow b=some .ro->G1.ow b=some .ro):∀ (ys:List R) (vs:List Value),ze ys=true->fD γ G w ys vs->fD γ G1 w ys vs
 |[],vs,_,h=>by simpa only[fD]using h
 | y::ys,vs,hn,h=>by
   simp only[fD,ze,AI]at*;obtain⟨v,vs',e,h1,h2⟩:=h;exact⟨v,vs',e,Gx hl hv hr y v hn.1 h1,Dx hl hv hr ys vs' hn.2 h2⟩
end
theorem aP.drop (hS:aP cx G g a w){g1:Gm}{it r:Nat}(hg:∀ l,g1 l=if l=.reg it then none else g l)(hn:∀ d x,g (.reg d)=some (.r x)->d≠it->qq x=true)(hr:G.ow r=some .fz):
 aP cx {G with ow:=fun b=>if b=r then none else G.ow b} g1 a w:=by
 have keep:∀ b t,G.ow b=some t->t≠ .fz->(if b=r then none else G.ow b)=some t:=by
  intro b t ht hne;rw[if_neg (by rintro rfl;rw[hr]at ht;cases ht;exact hne rfl)];exact ht
 have keep':∀ b t,(if b=r then none else G.ow b)=some t->G.ow b=some t:=by
  intro b t ht;split at ht
  ·cases ht
  ·exact ht
 have hm:∀ r,g1 (.meta_ r)=g (.meta_ r):=fun r=>by rw[hg,if_neg (by simp)]
 have hl:∀ r j,g1 (.leaf r j)=g (.leaf r j):=fun r j=>by rw[hg,if_neg (by simp)]
 have hgl:gl g1=gl g:=by funext r j;simp[gl,hl]
 refine⟨hS.defers,hS.tm,?_,?_,?_,?_,?_,?_,hS.frame,?_,?_,?_,hS.afr,?_,hS.newb,?_⟩
 ·intro d x hx;rw[hg]at hx;split at hx
  ·cases hx
  ·rename_i hne;obtain⟨h1,r1,e,h2⟩:=hS.reg d x hx;subst e;rw[hgl];exact⟨h1,r1,rfl,Gx (G:=G) (G1:={G with ow:=fun b=>if b=r then none else G.ow b}) rfl rfl (fun b hb=>keep b _ hb (by simp)) r1 _ (hn d r1 hx (by rintro rfl;exact hne rfl)) h2⟩
 ·intro r1 k hk;rw[hm]at hk;obtain⟨b,off,cur,ty,f1,f2,f3,f4⟩:=hS.boxes r1 k hk;exact⟨b,off,cur,ty,f1,keep b _ f2 (by simp),f3,f4⟩
 ·intro r1 j1 x hx;rw[hl]at hx;obtain⟨h1,k,box,e1,e2,e3,e4⟩:=hS.leaf r1 j1 x hx;refine⟨h1,k,box,e1,by rw[hm];exact e2,e3,?_⟩;unfold cR at e4 ⊢;split at e4
  ·exact⟨e4.1,e4.2.1,fun b hb=>⟨keep b _ (e4.2.2 b hb).1 (by simp),(e4.2.2 b hb).2⟩⟩
  ·obtain⟨S,q1,q2⟩:=e4;exact⟨S,q1,fun b hb=>keep b _ (q2 b hb) (by simp)⟩
  ·trivial
 ·intro r1 x hx;rw[hm]at hx;exact hS.metas r1 x hx
 ·intro r1 b hb;obtain⟨k,hk⟩:=hS.noloc r1 b hb;exact⟨k,by rw[hm];exact hk⟩
 ·intro b t ht;exact hS.lt b t (keep' b t ht)
 ·intro b h1 h2;show(if b=r then none else G.ow b)=none\/(if b=r then none else G.ow b)=some .ro;by_cases c:b=r
  ·rw[if_pos c];exact .inl rfl
  ·rw[if_neg c];exact hS.frow b h1 h2
 ·intro r1 j1 h e;rw[hgl]at e;exact hS.anc r1 j1 h e
 ·intro r1 x e;rw[hm];exact hS.aloc r1 x e
 ·intro r1 r2 k1 k2 b o1 o2 hne h1 h2 q1 q2;rw[hm]at h1 h2;exact hS.sep r1 r2 k1 k2 b o1 o2 hne h1 h2 q1 q2
 ·intro b hb;exact hS.roX b (keep' b _ hb)
theorem aP.other (hS:aP cx G g a w){r:Nat}(hr:G.ow r=none)(hfr:¬ (r<cx.w0.heap.size/\cx.fr r))(hnc:∀ cur ty fz,w.heap[r]?≠some (.cells cur ty fz)){w':World} 
 (hos:w'.os=w.os) (htape:w'.tape=w.tape) (hout:w'.output=w.output) (hsz:w'.heap.size=w.heap.size) (hh:∀ b,b≠r->w'.heap[b]?=w.heap[b]?):aP cx G g a w':=by
 have ne:∀ b t,G.ow b=some t->b≠r:=by rintro b t ht rfl;rw[hr]at ht;cases ht
 have old:∀ b t,G.ow b=some t->w'.heap[b]?=w.heap[b]?:=fun b t ht=>hh b (ne b t ht)
 have st:Step g G w g G w':=by
  refine⟨fun r1 j1 h1 e=>⟨h1,e,.inl ⟨rfl,rfl,fun l hl b hb=>?_⟩⟩,fun b hb=>⟨hb,old b _ hb⟩,fun b hb=>⟨hb,old b _ hb⟩,fun _ _ h=>h⟩;have:=hS.hok e;simp only[cR,hl]at this;exact old b _ (this.2.2 b hb).1
 refine⟨hS.defers,hS.tm,?_,?_,?_,hS.metas,hS.noloc,?_,?_,hS.frow,hS.anc,hS.aloc,?_,hS.sep,hS.newb,hS.roX⟩
 ·intro d x hx;obtain⟨h1,r1,e,h2⟩:=hS.reg d x hx;exact⟨h1,r1,e,cg.step hS st r1 _ h2⟩
 ·intro r1 k hk;obtain⟨b,off,cur,ty,f1,f2,f3,f4⟩:=hS.boxes r1 k hk;exact⟨b,off,cur,ty,f1,f2,by rw[old b _ f2];exact f3,f4⟩
 ·intro r1 j1 x hx;obtain⟨h1,k,box,e1,e2,e3,e4⟩:=hS.leaf r1 j1 x hx;refine⟨h1,k,box,e1,e2,e3,?_⟩;unfold cR at e4 ⊢;split at e4
  ·exact⟨bC.keep _ _ _ e4.1 (fun b hb=>old b _ (e4.2.2 b hb).1),e4.2.1,fun b hb=>⟨(e4.2.2 b hb).1,(e4.2.2 b hb).2.keep (old b _ (e4.2.2 b hb).1)⟩⟩
  ·obtain⟨S,q1,q2⟩:=e4;exact⟨S,bC.keep _ _ _ q1 (fun b hb=>old b _ (q2 b hb)),q2⟩
  ·trivial
 ·intro b t ht;rw[hsz];exact hS.lt b t ht
 ·exact⟨hos.trans hS.frame.os,htape.trans hS.frame.tape,hout.trans hS.frame.output,by rw[hsz];exact hS.frame.size,fun b h1 h2=>by rw[hh b (by rintro rfl;exact hfr ⟨h1,h2⟩)];exact hS.frame.block b h1 h2⟩
 ·intro r1 b off e;have q:=hS.afr r1 b off e;obtain⟨c0,c,ty,h1,h2,h3⟩:=id q;exact q.keep (hh b (by rintro rfl;exact hnc _ _ _ h2))
theorem aP.hold (hS:aP cx G g a w){r:Nat}(hr:G.ow r=none)(hlt:r<w.heap.size)(hfr:¬ (r<cx.w0.heap.size/\cx.fr r)):
 aP cx {G with ow:=fun b=>if b=r then some .fz else G.ow b} g a w:=by
 have keep:∀ b t,G.ow b=some t->(if b=r then some Tok.fz else G.ow b)=some t:=by
  intro b t ht;rw[if_neg (by rintro rfl;rw[hr]at ht;cases ht)];exact ht
 have st:Step g G w g {G with ow:=fun b=>if b=r then some .fz else G.ow b} w:=
  ⟨fun r1 j1 h1 e=>⟨h1,e,.inl ⟨rfl,rfl,fun _ _ _ _=>rfl⟩⟩,fun b hb=>⟨keep b _ hb,rfl⟩,fun b hb=>⟨keep b _ hb,rfl⟩,fun _ _ h=>h⟩
 refine⟨hS.defers,hS.tm,?_,?_,?_,hS.metas,hS.noloc,?_,hS.frame,?_,hS.anc,hS.aloc,hS.afr,hS.sep,hS.newb,?_⟩
 ·intro d x hx;obtain⟨h1,r1,e,h2⟩:=hS.reg d x hx;exact⟨h1,r1,e,cg.step hS st r1 _ h2⟩
 ·intro r1 k hk;obtain⟨b,off,cur,ty,f1,f2,f3,f4⟩:=hS.boxes r1 k hk;exact⟨b,off,cur,ty,f1,keep b _ f2,f3,f4⟩
 ·intro r1 j1 x hx;obtain⟨h1,k,box,e1,e2,e3,e4⟩:=hS.leaf r1 j1 x hx;refine⟨h1,k,box,e1,e2,e3,?_⟩;unfold cR at e4 ⊢;split at e4
  ·exact⟨e4.1,e4.2.1,fun b hb=>⟨keep b _ (e4.2.2 b hb).1,(e4.2.2 b hb).2⟩⟩
  ·obtain⟨S,q1,q2⟩:=e4;exact⟨S,q1,fun b hb=>keep b _ (q2 b hb)⟩
  ·trivial
 ·intro b t ht;have ht:(if b=r then some Tok.fz else G.ow b)=some t:=ht;split at ht
  ·rename_i c;rw[c];exact hlt
  ·exact hS.lt b t ht
 ·intro b h1 h2;show(if b=r then some Tok.fz else G.ow b)=none\/(if b=r then some Tok.fz else G.ow b)=some .ro;rw[if_neg (by rintro rfl;exact hfr ⟨h1,h2⟩)];exact hS.frow b h1 h2
 ·intro b hb;have hb:(if b=r then some Tok.fz else G.ow b)=some .ro:=hb;split at hb
  ·cases hb
  ·exact hS.roX b hb
theorem aP.know (hS:aP cx G g a w){d:Nat}{x:R}(hd:d<cx.n)(hx:cg (gl g) G w x (a.tmps.getD d undef)):aP cx G ((W.reg d x).app g) a w:=by
 have h:=hS.put hd hx;have e:a.put (some d) (a.tmps.getD d undef)=a:=by
  have ht:=hS.tm;cases a with
  | mk tmps defers=>
    unfold YZ;simp only at ht ⊢
    congr 1
    refine Array.ext (by simp) (fun i h1 h2=>?_);rw[Array.getElem_setIfInBounds];split
    ·rename_i c;subst c;rw[Array.getD_eq_getD_getElem?,Array.getElem?_eq_getElem h2];rfl
    ·rfl
 rw[e]at h;exact h
theorem Ch {σ:VS}{it d1 d2:Nat}{es:aa}{vs:List Int}{o1 o2:Oper}{ops:Array Oper}{Q:Exit->Act->World->Prop}(hS:de cx (get σ) a w) 
 (hit:get σ (.reg it)=some (.r (.one (.it es vs)))) (hs:pK it σ=true) (h1:d1<cx.n) (h2:d2<cx.n) (n1:d1≠it) (n2:d2≠it)
 (p1:o1.op=.next (.tmp it) false) (p2:o1.dst=some d1) (p3:o1.guard=none) (p4:o2.op=.extract (.tmp d1) 0) (p5:o2.dst=some d2) (p6:o2.guard=none)
 (hT:∀ k,k∈jm es->vs.length<es.length->∀ a' w',de cx (get (.reg d2 (.k true):: .reg d1 (.one .un):: .reg it (.one (.it es (k::vs)))::σ)) a' w'->Q .normal a' w')
 (hF:(∀ k∈jm es,k∈vs)->∀ a' w',de cx (get (.reg d2 (.k false):: .reg d1 (.one .un)::σ)) a' w'->Q .normal a' w'):
 wpList P ops Q [o1,o2] a w:=by
 obtain⟨G,hS⟩:=hS;obtain⟨hn,y,e0,hx⟩:=hS.reg it _ hit;cases e0;simp only[cg]at hx;obtain⟨r,bm,kb,e1,e2,e3,since,c0,clock,seen,ents,i1,i2,i3,i4,i5,i6,i7,i8,i9,i10⟩:=hx;have hev:a.eval (.tmp it)=.pointer (some ⟨r,0,none⟩):=e1;have w1':Xz o1 (yielded ops a.tmps)=true:=by simp[Xz,p3]
 have w2':∀ a':Act,Xz o2 (yielded ops a'.tmps)=true:=fun a'=>by simp[Xz,p6]
 have hrb:r≠bm:=by rintro rfl;rw[i1]at i2;cases i2
 have hrl:r<w.heap.size:=(OF.1 i1).1;have hfr:¬ (r<cx.w0.heap.size/\cx.fr r):=by
  rintro⟨q1,q2⟩;rcases hS.frow r q1 q2 with q|q<;>(rw[e2]at q;cases q)
 have step2:∀ (b:Bool) (vv:Array Value) (G':Gh) (g':Gm) (w':World) (a1:Act),aP cx G' g' a1 w'->(∀ a' w'',de cx ((W.reg d2 (.k b)).app ((W.reg d1 (.one .un)).app g')) a' w''->Q .normal a' w'')->vv[0]?=some (.bool b)->
  wpList P ops Q [o2] (a1.put (some d1) (.tuple vv)) w':=by
  intro b vv G' g' w' a1 hS' hQ hv;simp only[wpList];rw[if_pos (w2' _)];refine .inl ?_;have S1:=hS'.put (x:=.one .un) (v:=.tuple vv) h1 (by simp only[cg,eZ]);have ht:(a1.put (some d1) (.tuple vv)).eval (.tmp d1)=.tuple vv:=by
   show(a1.put (some d1) (.tuple vv)).tmps.getD d1 undef=_;rw[Az (by rw[hS'.tm];exact h1),if_pos rfl]
  refine cK (v:=.bool b) (w':=w') ?_ ?_
  ·unfold execOp;simp only[p4,ht,Instr.extract,hv];rfl
  ·rw[p5];exact hQ _ _ ⟨G',S1.put h2 (by simp only[cg,eZ])⟩
 simp only[wpList];rw[if_pos w1'];refine .inl ?_;rcases run_next_at (P:=P) w o1.type r bm since c0 seen ents clock i1 i2 i5 i6 with⟨q1,q2⟩|⟨e,m1,w1,m2,q2⟩
 ·refine cK (v:=.tuple #[.bool false]) (w':=w) ?_ ?_
  ·unfold execOp;simp only[p1,hev];simp only[Wr,q2,Wt];rfl
  ·rw[p2];refine step2 false _ G (get σ) w a hS (fun a' w'' hs'=>hF (fun k hk=>?_) a' w'' hs') rfl;obtain⟨e,f1,f2⟩:=(yX i4).2.1 k hk;obtain⟨k',f3,f4⟩:=i8 e f1 (all_seen ents seen q1 e f1);rw[f2]at f4;cases f4;exact f3
 ·obtain⟨me,mc⟩:=mem_left m1;obtain⟨k,k1,k2⟩:=(yX i4).1 e me;have hlt:vs.length<es.length:=by
   have:0<(leftOf ents seen).size:=by
    rw[<-V3];exact List.length_pos_of_mem m1
   omega
  have hw1:w1.os=w.os/\w1.tape=w.tape/\w1.output=w.output/\w1.heap=w.heap:=by
   rcases m2 with rfl|rfl
   ·exact⟨rfl,rfl,rfl,rfl⟩
   ·exact⟨rfl,rfl,rfl,rfl⟩
  refine cK (v:=.tuple #[.bool true,e.key,e.val]) (w':=setBlock w1 r (.mapIter (some bm) since (seen.push e.born) clock)) ?_ ?_
  ·unfold execOp;simp only[p1,hev];simp only[Wr,q2,Wt];rfl
  ·rw[p2];have hset:=heap_set (w:=w) (o':=.mapIter (some bm) since (seen.push e.born) clock) i1;have hheap:(setBlock w1 r (.mapIter (some bm) since (seen.push e.born) clock)).heap=w.heap.setIfInBounds r (.mapIter (some bm) since (seen.push e.born) clock):=by
    show w1.heap.setIfInBounds _ _=_;rw[hw1.2.2.2]
   have S1:=hS.drop (g1:=fun l=>if l=.reg it then none else get σ l) (it:=it) (fun l=>rfl) (fun d x h hd=>gI hs d x h hd) e2;have S2:=S1.other (r:=r) (w':=setBlock w1 r (.mapIter (some bm) since (seen.push e.born) clock)) (by simp) hfr (fun cur ty fz c=>by rw[i1]at c;cases c) hw1.1 hw1.2.1 hw1.2.2.1 (by rw[hheap];simp) (fun b hb=>by rw[hheap];exact hset.2 b hb);have S3:=S2.hold (r:=r) (by simp) (by rw[hheap];simpa using hrl) hfr;have S4:=S3.know (d:=it) (x:=.one (.it es (k::vs))) hn (by
    simp only[cg];rw[e1];refine⟨r,bm,kb,rfl,by simp,?_,since,clock,clock,seen.push e.born,ents,by rw[hheap];exact hset.1,by rw[hheap,hset.2 bm (Ne.symm hrb)];exact i2,i3,i4,i5,i7,i7,?_,?_,?_⟩
    ·simp only[if_neg (Ne.symm hrb)];exact e3
    ·intro x hx hc;rw[contains_push,Wo]at hc;rcases hc with hc|hc
     ·obtain⟨k',f1,f2⟩:=i8 x hx hc;exact⟨k',YA _ f1,f2⟩
     ·have hb:x.born=e.born:=by simpa using hc
      have:x=e:=by
       have nd:=((stamped_iff ents clock).1 i3).2.1;have f1:=find_born e ents.toList nd me;have f2:=find_born x ents.toList nd hx;rw[hb,f1]at f2;cases f2;rfl
      subst this;exact⟨k,by simp,k2⟩
    ·have sh:=left_shrinks ents seen e m1;simp only[V9];omega
    ·intro k' vs' hkv;cases hkv;exact⟨e,me,seen,rfl,k2,rfl⟩)
   have hg:(W.reg it (.one (.it es (k::vs)))).app (fun l=>if l=.reg it then none else get σ l)=get (.reg it (.one (.it es (k::vs)))::σ):=by
    funext l
    simp only[get,W.app];split
    ·rfl
    ·rfl
   rw[hg]at S4;exact step2 true _ _ _ _ a S4 (fun a' w'' hs'=>hT k k1 hlt a' w'' hs') rfl
end
end Go.V
namespace Go.V
def oG (pr:(Unit->Prop)->Prop)(ps:K6)(sub:aa->Nat->Nat->aa)(up:RF)(cat:aa->aa->aa)(own:Nat->Nat->aa->List W)(se:TI->A->(aa->List (Nat×Nat)->Rd Out)->Rd Out)(el:TypeId->Option (TypeId×TI×Nat))(n:Nat)(d:Option Tmp)(t t':TypeId)(s x:Operand):Rd Out:=
 match el t with
 |none=>.fail
 | some (_,ti,bytes)=>if t==t' then dN s fun
    | .vn r j ver iv p lo m=>ez r j fun h=>match h.c with
      | .own (.s sz es)=>if eD h ver iv then dN x fun b=>se ti b fun es2 src2=>match src2 with
        | []=>.req (pr fun _=>eY (.s sz es) p=some (ti.zero.length,ps (.s sz es) p)/\bT (ps (.s sz es) p)/\(m+es2.length)*bytes<=70368744177664/\m+es2.length<=70368744177664)
           (fresh n d fun d=>.ret (.ws (.gap r j ⟨h.ver,h.iv+1,h.org,.own (.s sz (up (.s sz es) p [.g]))⟩::own d ti.zero.length (cat (sub (ps (.s sz es) p) lo m) es2))))
        |_=>.fail else .fail
      |_=>.fail
    |_=>.fail
   else .fail
section
variable {P : Program} {o : Oper} {cx : Cx} {G : Gh} {g : Gm} {a : Act} {w : World} {ls : List Loc} {ws : List W} {K : Act -> World -> Prop} {Q : Exit -> Act -> World -> Prop}
theorem aP.shedN (hS:aP cx G g a w){r j:Nat}{h:Hv}(hh:g (.leaf r j)=some (.h h)){sz:Nat}{es0:aa}(hc:h.c=.own (.s sz es0)){p:List (Nat×Nat)}{bb oo o:Nat}{rec:ay}{k:Nat}{es:aa}{hv:Value} 
 (hg:bL (.s sz es0) p=some (rec,o)) (hr:rec[o]?=some (.s k es)) (hT:bz w (.s sz es0) (G.val r j) p bb oo) (hcell:w.cell? ⟨bb,oo,none⟩=some hv) {S2:List Nat} (hsub:∀ S3,bC w (.s k es) hv S3->∀ c∈S2,c∈S3):
 ∃ G',aP cx G' ((W.gap r j ⟨h.ver,h.iv+1,h.org,.own (.s sz (rowOf (fY (.s sz es0) p [.g])))⟩).app g) a w/\∀ b∈S2,dy w b/\∃ J,G'.ow b=some (.leaf r J)/\g (.leaf r J)=none/\J≠j:=by
 have hok:=hS.hok (av.2 hh);simp only[cR,hc]at hok;obtain⟨hrd,hnd,htok⟩:=hok;obtain⟨h0,k0,box,e0,em,ej,_⟩:=hS.leaf r j _ hh;cases e0;have hJ:g (.leaf r k0)=none:=by
  cases q:g (.leaf r k0)with
  |none=>rfl
  | some x=>
    obtain⟨_,k2,b2,_,m2,l2,_⟩:=hS.leaf r k0 _ q;rw[em]at m2;cases m2;omega
 obtain⟨cur,ty,fz,base,Sa,S1,Sb,m1,m2,m3,m4,m5,m6,m7⟩:=focus p _ _ _ bb oo rec o hrd hnd hT hg;obtain⟨Sp,Sx,Sq,v',k1,k2,k3,k4⟩:=m6.upd o _ hr;have hvv':v'=hv:=by
  have:=dx m1 k2;rw[<-m4,hcell]at this;exact(WT this).symm
 subst hvv';have hS2:=hsub _ k3;have hlt:o<rec.length:=(IT.1 hr).1;have hone:=bC.one k3;have hrec:=k4 w .g [] (by simp only[bC];exact⟨hone,trivial⟩) (fun _ _=>rfl);have hset:rec.set o L.g=rec.take o++[.g]++rec.drop (o+[L.g].length):=by
  rw[List.set_eq_take_append_cons_drop,if_pos hlt];simp
 rw[hset]at hrec;have hn:=hnd;rw[m2,k1]at hn;have hrd':=m7 w cur (rec.take o++[.g]++rec.drop (o+[L.g].length)) (Sp++[]++Sq) m1 rfl (fun _ _=>rfl) (by simp only[By,VK,VR,V9,Wy];omega) hrec (fun _ _ _=>rfl);rw[<-hD p _ rec o _ hg]at hrd';have hn':(Sa++(Sp++[]++Sq)++Sb).Nodup/\∀ c∈Sx,c∉Sa++(Sp++[]++Sq)++Sb:=by
  have e5:Sa++(Sp++Sx++Sq)++Sb=(Sa++Sp)++Sx++(Sq++Sb):=by simp
  have e6:Sa++(Sp++[]++Sq)++Sb=(Sa++Sp)++[]++(Sq++Sb):=by simp
  rw[e5]at hn;rw[e6];refine⟨mr hn Wd (fun c hc=>by cases hc) (fun c hc=>by cases hc),fun c hc hq=>?_⟩;have:=(il hn).2 c hc;rw[WU,BY]at hq;exact hq.elim this.1 this.2
 have hmem:∀ c∈Sa++(Sp++[]++Sq)++Sb,c∈G.fp r j:=by
  intro c hc;rw[m2,k1];simp only[BY,WW,or_false]at hc ⊢;rcases hc with(q|q|q)|q
  ·exact .inl (.inl q)
  ·exact .inl (.inr (.inl (.inl q)))
  ·exact .inl (.inr (.inr q))
  ·exact .inr q
 obtain⟨es',hes1,hes2⟩:=vy (.s sz es0) p (rec.take o++[.g]++rec.drop (o+[L.g].length)) sz es0 rfl;rw[<-hD p _ rec o _ hg]at hes1;have hrow:L.s sz (rowOf (fY (.s sz es0) p [.g]))=fY (.s sz es0) p [.g]:=(vK hg).symm;have hro:rowOf (fY (.s sz es0) p [.g])=es':=by rw[hes1];rfl
 obtain⟨G1,u1,_,u2,u3,u4,u5,u6⟩:=hS.upd' hh ⟨h.ver,h.iv+1,h.org,.own (.s sz (rowOf (fY (.s sz es0) p [.g])))⟩ (G.val r j) (Sa++(Sp++[]++Sq)++Sb) w
  (.inr ⟨rfl,WP _,rfl,.inl ⟨sz,es0,es',hc,by simp only[hro],hes2⟩⟩) rfl rfl rfl (VJ _) (fun _ _ _ _=>rfl)
  (fun b off hl=>by
    obtain⟨kk,hk2⟩:=hS.noloc r _ hl;obtain⟨b',off',cur,ty,m1,m2,m3,m4,m5⟩:=hS.boxes r kk hk2;rw[hl]at m1;cases m1;refine⟨cur,cur,ty,m3,m3,rfl,fun hlt=>?_,fun _ _=>rfl⟩;rw[hk2]at em;cases em;exact m5 j ej)
  (fun l _ b hb=>(htok b hb).2)
  (by
    simp only[hrow];exact⟨hrd',hn'.1,fun b hb=>⟨(htok b (hmem b hb)).2,.inr ⟨_,hc,hmem b hb⟩⟩⟩)
  (fun i e=>hS.anc r j h (av.2 hh) i e)
 have hfx:∀ b∈S2,b∈G.fp r j:=fun b hb=>by rw[m2,k1];simp[hS2 b hb]
 have hro2:∀ b∈S2,G1.ow b=some (.leaf r j):=fun b hb=>by rw[u5 b (fun _=>hn'.2 b (hS2 b hb))];exact(htok b (hfx b hb)).1
 have u7:=u1.reown (J:=k0) hro2 (fun b hb=>by rw[u6,if_pos ⟨rfl,rfl⟩];exact hn'.2 b (hS2 b hb));exact⟨_,u7,fun b hb=>⟨(htok b (hfx b hb)).2,k0,if_pos hb,hJ,by omega⟩⟩
theorem vS {t t':TypeId}{s x:Operand}(ho:o.op=.call {callee:=.builtin .append,args:= #[s,x],argTypes:= #[t,t']})(hS:aP cx G g a w) 
 (h:(oG iW jy (fun es lo m=>(es.drop lo).take m) wg (· ++ ·) ownRow kT (yH P) cx.n o.dst t t' s x).Runs g ls (.ws ws))
 (hk:∀ a' w',de cx (aS g ws) a' w'->K a' w'):o.wp P a w K Q:=by
 unfold oG at h;split at h
 ·exact h.elim
 rename_i e ti bytes hel;split at h
 case isFalse=>exact h.elim
 rename_i htt;simp only[beq_iff_eq]at htt;subst htt;obtain⟨x0,ls1,hx,h⟩:=aW hS h;cases x0 with
 | vn r j ver iv p lo m=>
   simp only at h;obtain⟨h0,ls3,q1,_,h⟩:=ba h;split at h
   case h_2=>exact h.elim
   rename_i sz es hc;split at h
   case isFalse=>exact h.elim
   rename_i hgd;obtain⟨xb,ls2,hxb,h⟩:=aW hS h;obtain⟨es2,src2,base2,m2,c2,news,S3,ls4,hsrc,h⟩:=kU hS hxb h;split at h
   case h_2=>exact h.elim
   obtain⟨⟨hgs,hsc,hb1,hb2⟩,h⟩:=h;obtain⟨d,ls6,hd,hlt,hm,h⟩:=cf h;simp only[Rd.Runs,Out.ws.injEq]at h;obtain⟨_,rfl⟩:=h;obtain⟨rec,o0,bb,oo,hvv,S,n1,n2,n3,n4,n5,n6,n7,n8⟩:=nested hS hx q1 hgd hc hgs;obtain⟨S2,k1,knd,k2⟩:=n6.own n7 n5 hsc (lD (lC hsc));have hS3:S3=[]:=by
    cases S3 with
    |nil=>rfl
    | cons b S3=>
      obtain⟨_,r',j',hq,_⟩:=hsrc.tok b (by simp);cases hq
   subst hS3;obtain⟨G',hS1,z⟩:=hS.shedN (av.1 q1) hc n1 n2 n3 n4 k2;have hml:((((jy (.s sz es) p).drop lo).take m)).length=m:=by simp only[VK,VR];omega
   refine kf ho hS1 hd hlt (by simpa[W.app]using hm) hel k1 knd (fun b hb=>?_) hsrc.val hsrc.len hsrc.cells hsrc.rd hsrc.nodup (fun b hb=>by cases hb) (fun b _ hq=>by cases hq) (by rw[hml];exact hb1) (by rw[hml];exact hb2) (fun a' w' h2=>hk a' w' ?_)
   ·obtain⟨u,J,z1,z2,z3⟩:=z b hb;refine⟨u,.inr ⟨r,J,z1,?_⟩⟩;intro h' l' p1 p2;rw[av]at p1;simp[W.app,z3,z2]at p1
   ·exact h2
 |_=>exact h.elim
theorem vY {t:TypeId}{x i:Operand}(ho:o.op=.indexAddr t x i)(hS:aP cx G g a w){e:TypeId}{ti:TI}{bytes:Nat}(hel:yH P t=some (e,ti,bytes)){r j ver lo m:Nat}(hx:eZ (gl g) G w (.vw r j ver lo m) (a.eval x)){kd:IntKind}{idx:Int}(hi:a.eval i=.int kd idx){hv:Hv}{es:aa}(q1:gl g r j=some hv)(hc:hv.c=.own (.s ti.zero.length es))(hver:hv.ver=ver)(h0:0<=idx)(h1:idx<m) 
 (h:(bh cx.n o.dst (.one (.pn r j ver 0 [(lo+idx.toNat,0)]))).Runs g ls (.ws ws)) (hk:∀ a' w',de cx (aS g ws) a' w'->K a' w'):o.wp P a w K Q:=by
 have run:∀ b o0 len cap,a.eval x=.slice (some ⟨b,o0,none⟩) len cap->0<=idx->idx<len->
  (execOp a.eval o).run P w=.ok (.value (.pointer (some ⟨b,o0+idx.toNat*ti.zero.length,none⟩))) w:=by
  intro b o0 len cap he h0 h1;unfold execOp;simp[ho,he,hi,qn hel w b o0 len cap kd idx h0 h1]
 obtain⟨h2,f1,f2,f3⟩:=hx;rw[q1]at f1;cases f1;obtain⟨f4,base,len,cap,base',cap',g1,g2,g3,g4,g5,g6⟩:=f3 hver _ es hc;rcases g6 with⟨_,_,g7⟩|⟨b,off,off',g7,g8,g9,g10⟩
 ·omega
 subst g7 g8;have hoff:=g10 (by omega);refine aX hS h (v:=.pointer (some ⟨b,off'+idx.toNat*ti.zero.length,none⟩)) ?_ (run b off' m cap' g2 h0 (by omega)) hk;simp only[cg];refine⟨hv,q1,f2,Nat.zero_le _,by simp,fun _ l hl=>⟨b,off'+idx.toNat*ti.zero.length,?_,rfl⟩⟩;rw[hc]at hl;cases hl;simp only[bz];exact⟨b,off,len,cap,g1,by omega,rfl,by rw[hoff,VX];omega⟩
end
end Go.V
namespace Go.V
def BR (l:L)(p:List (Nat×Nat)):Value:=
 match bL l p with
 | some (rec,o)=>match rec[o]? with
   |some (.v x)=>x
   |_=>.bool false
 |none=>.bool false
def intOf :Value->Int
 | .int _ n=>n
 |_=>0
def Lj :Value->Bool
 | .bool b=>b
 |_=>false
def strOf :Value->ByteArray
 | .string s=>s
 |_=>.empty
def Mu :L->Int
 | .v (.int _ n)=>n
 |_=>0
def Tc :L->Bool
 | .v (.bool b)=>b
 |_=>false
def Ux :L->ByteArray
 | .v (.string b)=>b
 |_=>.empty
def EK :L->aa
 | .s _ es=>es
 |_=>[]
structure yl where
 pr:(Unit->Prop)->Prop
 ar:BinOp->IntKind->Int->Int->Int
 sh:BinOp->IntKind->Int->Int->Int
 cmp:BinOp->Int->Int->Bool
 wr:IntKind->Int->Int
 bq:BinOp->Bool->Bool->Bool
 bn:Bool->Bool
 sel:Bool->Bool->Bool->Bool
 mm:Bool->Int->Int->Int
 ln:aa->Nat
 zi:Nat->Int
 nn:Int->Nat
 ad:Nat->Int->Nat
 df:Int->Int->Nat
 cat:aa->aa->aa
 sub:aa->Nat->Nat->aa
 rep:Int->ay->aa
 gi:aa->Int->Nat->Int
 gb:aa->Int->Nat->Bool
 gt:aa->Int->Nat->ByteArray
 gs:aa->Int->Nat->aa
 pi:L->List (Nat×Nat)->Int
 pb:L->List (Nat×Nat)->Bool
 pt:L->List (Nat×Nat)->ByteArray
 ps:L->List (Nat×Nat)->aa
 up:L->List (Nat×Nat)->ay->aa
 mgb:aa->Int->Bool
 mgi:aa->Int->Int
 mu:aa->Int->L->aa
 lnOk:∀ a b:aa,a.length=b.length->ln a=ln b
def bJ (op:BinOp)(k:IntKind)(a b:Int):Int:=
 match op with
 | .add=>k.wrap (a+b)
 | .sub=>k.wrap (a-b)
 | .mul=>k.wrap (a*b)
 | .quo=>k.wrap (a.tdiv b)
 | .rem=>a.tmod b
 | .and=>k.wrap (Wq k.bits a&&&Wq k.bits b).toNat
 | .or=>k.wrap (Wq k.bits a|||Wq k.bits b).toNat
 | .xor=>k.wrap (Wq k.bits a^^^Wq k.bits b).toNat
 | .andNot=>k.wrap (Wq k.bits a&&& ~~~ Wq k.bits b).toNat
 |_=>0
def NR (op:BinOp)(k:IntKind)(a b:Int):Int:=
 match op with
 | .shl=>k.wrap (a*2^(min b.toNat k.bits))
 |_=>a.fdiv (2^(min b.toNat k.bits))
def UJ (f:Unit->Prop):Prop:=f ()
def NW (k:IntKind)(a:Int):Int:=k.wrap a
def Vb (isMax:Bool)(a b:Int):Int:=if isMax then(if b>a then b else a)else(if b<a then b else a)
def Uz (es:aa):Nat:=es.length
def KT (n:Nat):Int:=n
def UB (i:Int):Nat:=i.toNat
def Ur (lo:Nat)(i:Int):Nat:=lo+i.toNat
def Oi (h l:Int):Nat:=h.toNat-l.toNat
def N7 (a b:aa):aa:=a++b
def zA (es:aa)(lo m:Nat):aa:=(es.drop lo).take m
def jC (n:Int)(r:ay):aa:=Wi n.toNat r
def af (es:aa)(i:Int)(j:Nat):Int:=Mu ((es.getD i.toNat []).getD j .g)
def oR (es:aa)(i:Int)(j:Nat):Bool:=Tc ((es.getD i.toNat []).getD j .g)
def JX (es:aa)(i:Int)(j:Nat):ByteArray:=Ux ((es.getD i.toNat []).getD j .g)
def aO (es:aa)(i:Int)(j:Nat):aa:=EK ((es.getD i.toNat []).getD j .g)
def EN (l:L)(p:List (Nat×Nat)):Int:=intOf (BR l p)
def NO (l:L)(p:List (Nat×Nat)):Bool:=Lj (BR l p)
def NP (l:L)(p:List (Nat×Nat)):ByteArray:=strOf (BR l p)
def ah :yl:=⟨UJ,bJ,NR,co,NW,Ea,Li,Nf,Vb,Uz,KT,UB,Ur,Oi,N7,zA,jC,af,oR,JX,aO,EN,NO,NP,jy,wg,mgbI,ft,iV,fun _ _ h=>h⟩
structure wd where
 tyL:List (Nat×TI)
 elL:List (Nat×(TypeId×TI×Nat))
 fdL:List (Nat×List (Option Nat))
 bdL:List (Nat×List (Nat×Nat))
 itL:List (Nat×IntKind)
 boL:List (Nat×Unit)
 slL:List (Nat×Unit)
 fnL:List (Nat×Unit)
 ptL:List (Nat×TI)
 pnL:List (Nat×Unit)
 mpL:List (Nat×Bool)
 cmL:List (Nat×List Bool)
def lk {α:Type}:List (Nat×α)->Nat->Option α
 |[],_=>none
 | (k,x)::r,t=>match WR k t with
  |true=>some x
  |false=>lk r t
def Te :Option (List (Option Nat))->Nat->Option Nat
 |none,_=>none
 |some l,f=>l.getD f none
def bp (P:Program)(T:wd):Prop:=
 (T.tyL.map fun p=>j3 P p.1)=(T.tyL.map fun p=>some p.2)/\
 (T.elL.map fun p=>yH P p.1)=(T.elL.map fun p=>some p.2)/\
 (T.fdL.map fun p=>(VW p.2.length).map (Lv P p.1))=(T.fdL.map fun p=>p.2)/\
 (T.bdL.map fun p=>RH P p.1)=(T.bdL.map fun p=>some p.2)/\
 (T.itL.map fun p=>FN P p.1)=(T.itL.map fun p=>some p.2)/\
 (T.boL.map fun p=>sH P p.1)=(T.boL.map fun _=>true)/\
 (T.slL.map fun p=>kF P p.1)=(T.slL.map fun _=>true)/\
 (T.fnL.map fun p=>dm P p.1)=(T.fnL.map fun _=>true)/\
 (T.ptL.map fun p=>DL P p.1)=(T.ptL.map fun p=>some p.2)/\
 (T.pnL.map fun p=>(j3 P p.1).isNone)=(T.pnL.map fun _=>true)/\
 (T.mpL.map fun p=>zd P p.1)=(T.mpL.map fun p=>some p.2)/\
 (T.cmL.map fun p=>Og P p.1)=(T.cmL.map fun p=>some p.2)
theorem fm {α:Type}:∀ {l:List (Nat×α)} {t:Nat} {x:α},lk l t=some x->(t,x)∈l
 |[],_,_,h=>by cases h
 | (k,y)::r,t,x,h=>by
  simp only[lk]at h;split at h
  ·rename_i e;cases h;cases V0 e;simp
  ·exact YA _ (fm h)
theorem d7 {α β:Type}{f g:α->β}:∀ {l:List α},l.map f=l.map g->∀ x∈l,f x=g x
 |[],_,x,hx=>by cases hx
 | y::l,h,x,hx=>by
   simp only[Wz,WI]at h;rcases VN.1 hx with rfl|hx
   ·exact h.1
   ·exact d7 h.2 x hx
section
variable {P : Program} {T : wd}
theorem bp.ty (h:bp P T)(t:Nat):lk T.tyL t=none\/∃ x,lk T.tyL t=some x/\j3 P t=some x:=by
 cases e:lk T.tyL t with
 |none=>exact .inl rfl
 |some x=>exact .inr ⟨x,rfl,d7 h.1 _ (fm e)⟩
theorem bp.el (h:bp P T)(t:Nat):lk T.elL t=none\/∃ x,lk T.elL t=some x/\yH P t=some x:=by
 cases e:lk T.elL t with
 |none=>exact .inl rfl
 |some x=>exact .inr ⟨x,rfl,d7 h.2.1 _ (fm e)⟩
theorem bp.fd (h:bp P T)(s f:Nat):Te (lk T.fdL s) f=none\/∃ x,Te (lk T.fdL s) f=some x/\Lv P s f=some x:=by
 cases e:lk T.fdL s with
 |none=>exact .inl rfl
 | some l=>
   have h1:=d7 h.2.2.1 _ (fm e);simp only at h1;cases e2:l.getD f none with
   |none=>exact .inl e2
   | some x=>
     refine .inr ⟨x,e2,?_⟩;have hlt:f<l.length:=by
      rcases WM f l.length with c|c
      ·exact c
      ·rw[If,Wb c]at e2;cases e2
     have h2:((VW l.length).map (Lv P s))[f]?=l[f]?:=by rw[h1]
     rw[VZ,List.getElem?_range hlt,IN hlt]at h2;rw[If,IN hlt]at e2;simp at h2 e2;rw[h2,e2]
theorem bp.bd (h:bp P T)(t:Nat):lk T.bdL t=none\/∃ x,lk T.bdL t=some x/\RH P t=some x:=by
 cases e:lk T.bdL t with
 |none=>exact .inl rfl
 |some x=>exact .inr ⟨x,rfl,d7 h.2.2.2.1 _ (fm e)⟩
theorem bp.it (h:bp P T)(t:Nat):lk T.itL t=none\/∃ x,lk T.itL t=some x/\FN P t=some x:=by
 cases e:lk T.itL t with
 |none=>exact .inl rfl
 |some x=>exact .inr ⟨x,rfl,d7 h.2.2.2.2.1 _ (fm e)⟩
theorem bp.bo (h:bp P T)(t:Nat):lk T.boL t=none\/∃ x,lk T.boL t=some x/\sH P t=true:=by
 cases e:lk T.boL t with
 |none=>exact .inl rfl
 |some x=>exact .inr ⟨x,rfl,d7 h.2.2.2.2.2.1 _ (fm e)⟩
theorem bp.sl (h:bp P T)(t:Nat):lk T.slL t=none\/∃ x,lk T.slL t=some x/\kF P t=true:=by
 cases e:lk T.slL t with
 |none=>exact .inl rfl
 |some x=>exact .inr ⟨x,rfl,d7 h.2.2.2.2.2.2.1 _ (fm e)⟩
theorem bp.fn (h:bp P T)(t:Nat):lk T.fnL t=none\/∃ x,lk T.fnL t=some x/\dm P t=true:=by
 cases e:lk T.fnL t with
 |none=>exact .inl rfl
 |some x=>exact .inr ⟨x,rfl,d7 h.2.2.2.2.2.2.2.1 _ (fm e)⟩
theorem bp.pt (h:bp P T)(t:Nat):lk T.ptL t=none\/∃ x,lk T.ptL t=some x/\DL P t=some x:=by
 cases e:lk T.ptL t with
 |none=>exact .inl rfl
 |some x=>exact .inr ⟨x,rfl,d7 h.2.2.2.2.2.2.2.2.1 _ (fm e)⟩
theorem bp.pn (h:bp P T)(t:Nat):lk T.pnL t=none\/∃ x,lk T.pnL t=some x/\j3 P t=none:=by
 cases e:lk T.pnL t with
 |none=>exact .inl rfl
 |some x=>exact .inr ⟨x,rfl,Option.isNone_iff_eq_none.1 (d7 h.2.2.2.2.2.2.2.2.2.1 _ (fm e))⟩
theorem bp.mp (h:bp P T)(t:Nat):lk T.mpL t=none\/∃ x,lk T.mpL t=some x/\zd P t=some x:=by
 cases e:lk T.mpL t with
 |none=>exact .inl rfl
 |some x=>exact .inr ⟨x,rfl,d7 h.2.2.2.2.2.2.2.2.2.2.1 _ (fm e)⟩
theorem bp.cm (h:bp P T)(t:Nat):lk T.cmL t=none\/∃ x,lk T.cmL t=some x/\Og P t=some x:=by
 cases e:lk T.cmL t with
 |none=>exact .inl rfl
 |some x=>exact .inr ⟨x,rfl,d7 h.2.2.2.2.2.2.2.2.2.2.2 _ (fm e)⟩
end
abbrev CT :=FuncId->List DV->Option ((Unit->Prop)×List DV)
abbrev MT :=FuncId->Option MK
structure D8 where
 rd:CT
 mu:MT
 pt:FuncId->Option PK
 nw:FuncId->Option NK
 tk:FuncId->Option RV
section
variable (T : wd) (O : yl) (ct : D8) (n : Nat)
def gP (O:yl)(es:aa)(i:Int):Nat->ay->ay
 |_,[]=>[]
 |j,.v (.int k _)::zs=>.v (.int k (O.gi es i j))::gP O es i (j+1) zs
 |j,.v (.bool _)::zs=>.v (.bool (O.gb es i j))::gP O es i (j+1) zs
 |j,.v (.string _)::zs=>.v (.string (O.gt es i j))::gP O es i (j+1) zs
 |j,.s sz _::zs=>.s sz (O.gs es i j)::gP O es i (j+1) zs
 |j,_::zs=>.g::gP O es i (j+1) zs
def je (O:yl)(l:L)(p:List (Nat×Nat)):Nat->ay->ay
 |_,[]=>[]
 |j,.v (.int k _)::zs=>.v (.int k (O.pi l (sV p j)))::je O l p (j+1) zs
 |j,.v (.bool _)::zs=>.v (.bool (O.pb l (sV p j)))::je O l p (j+1) zs
 |j,.v (.string _)::zs=>.v (.string (O.pt l (sV p j)))::je O l p (j+1) zs
 |j,.s sz _::zs=>.s sz (O.ps l (sV p j))::je O l p (j+1) zs
 |j,_::zs=>.g::je O l p (j+1) zs
def B7 (r j:Nat)(h:Hv):A:=
 match h.c with
 | .own (.v x)=>.v x
 | .own (.s _ es)=>.vw r j h.ver 0 (O.ln es)
 | .own .g=>.un
 | .own (.m _ _)=>.mv r j h.ver
 | .ro (.v x)=>.v x
 | .ro (.s sz es)=>.ro sz es
 | .ro .g=>.un
 | .ro (.m _ _)=>.un
 | .gone=>.un
def B8 {α:Type}(r j:Nat)(h:Hv)(k:A->Rd α):Rd α:=
 match h.c with
 | .gone=>match Jv h.org with
   | some i=>ez (ET i) (HJ i) fun h'=>match h'.c with
     | .own (.s _ es)=>match Jv h'.org with
       |some i'=>if WR (ET i') (ET i)&&WR (HJ i') (HJ i)then k (.vw (ET i) (HJ i) h'.ver 0 (O.ln es))else k .un
       |none=>k .un
     |_=>k .un
   |none=>k .un
 | .own _=>k (B7 O r j h)
 | .ro _=>k (B7 O r j h)
def eH {α:Type}(r:Nat):Nat->Nat->(List A->Rd α)->Rd α
 |_,0,k=>k []
 |j,m+1,k=>ez r j fun h=>B8 O r j h fun a=>eH r (j+1) m fun as=>k (a::as)
def im (r j ver iv:Nat)(p:List (Nat×Nat)):Nat->ay->List A
 |_,[]=>[]
 |o,.v x::ls=>.v x::im r j ver iv p (o+1) ls
 |o,.s _ es::ls=>.vn r j ver iv (sV p o) 0 (O.ln es)::im r j ver iv p (o+1) ls
 |o,.g::ls=>.un::im r j ver iv p (o+1) ls
 |o,.m _ _::ls=>.un::im r j ver iv p (o+1) ls
def mG (d:Option Tmp)(t:TypeId)(x:Operand):Rd Out:=
 match lk T.tyL t with
 |none=>.fail
 | some ti=>dN x fun
   | .pt r j=>eH O r j ti.zero.length fun as=>Iv ti as (bh n d)
   | .pn r j ver iv p=>ez r j fun h=>
     if uQ h ver iv p then match h.c with
      | .own l=>.req (O.pr fun _=>∃ rec o,bL l p=some (rec,o)/\o+ti.zero.length<=rec.length/\(rec.drop o).take ti.zero.length=je O l p 0 ti.zero)
         (Iv ti (im O r j ver h.iv p 0 (je O l p 0 ti.zero)) (bh n d))
      |_=>.fail
     else .fail
   | .rp rec o=>if o+ti.zero.length<=rec.length then Iv ti (((rec.drop o).take ti.zero.length).map QF) (bh n d)else .fail
   |_=>.fail
def pM {α:Type}(slot:Option Nat)(a:A)(k:L->Option Nat->List (Nat×Nat)->Rd α):Rd α:=
 match a,slot with
 | .v x,none=>if scal x then k (.v x) none []else .fail
 | .nl,some sz=>k (.s sz []) none []
 | .vw r j ver lo m,some sz=>ez r j fun h=>
   match h.c with
   | .own (.s sz' es)=>if h.ver==ver&&sz'==sz then .req (O.pr fun _=>lo=0/\m=es.length) (k (.s sz' es) h.org [(r,j)])else .fail
   |_=>.fail
 | .mv r j ver,some _=>ez r j fun h=>
   match h.c with
   | .own (.m kb es)=>if h.ver==ver then k (.m kb es) h.org [(r,j)]else .fail
   |_=>.fail
 |_,_=>.fail
def iR {α:Type}:List (Option Nat)->List A->(List (L×Option Nat)->List (Nat×Nat)->Rd α)->Rd α
 |[],[],k=>k [] []
 |sl::sls,a::as,k=>pM O sl a fun l og src=>iR sls as fun ls srcs=>k ((l,og)::ls) (src++srcs)
 |_,_,_=>.fail
def KD {α:Type}(slot:Option Nat)(a:A)(k:H->Option Nat->List (Nat×Nat)->Rd α):Rd α:=
 match a,slot with
 | .ro sz' es,some sz=>if sz'==sz then k (.ro (.s sz' es)) none []else .fail
 | .vw r j ver lo m,some sz=>ez r j fun h=>match Jv h.org with
   | some i=>match h.c with
     | .own (.s sz' es)=>if h.ver==ver&&sz'==sz then .req (O.pr fun _=>lo=0/\m=es.length) (k .gone (some i) [])else .fail
     |_=>.fail
   |none=>pM O (some sz) (.vw r j ver lo m) fun l og src=>k (.own l) og src
 |a,slot=>pM O slot a fun l og src=>k (.own l) og src
def oq {α:Type}:List (Option Nat)->List A->(List (H×Option Nat)->List (Nat×Nat)->Rd α)->Rd α
 |[],[],k=>k [] []
 |sl::sls,a::as,k=>KD O sl a fun h og src=>oq sls as fun hs srcs=>k ((h,og)::hs) (src++srcs)
 |_,_,_=>.fail
def zX (t:TypeId)(x y:Operand):Rd Out:=
 match lk T.tyL t with
 |none=>.fail
 | some ti=>dN x fun p=>ev y fun val=>
   match cJ val with
   |none=>.fail
   | some as=>
     match p with
     | .pt r j=>oq O ti.slots as fun hs srcs=>
       if aZ srcs&&srcs.all (fun s=> !yV r j hs.length s)then
        fb srcs fun w1=>eK r j hs fun w2=>.ret (.ws (w1++w2))
       else .fail
     | .pn r j ver iv p=>iR O ti.slots as fun ls srcs=>
       if aZ srcs&&srcs.all (fun s=>s !=(r,j))then
        fb srcs fun w1=>ez r j fun h=>
         if uQ h ver iv p then match h.c with
          | .own (.s sz es)=>.req (O.pr fun _=>∃ rec o,bL (.s sz es) p=some (rec,o)/\o+ls.length<=rec.length)
             (.ret (.ws (w1++[.leaf r j ⟨h.ver,h.iv+1,h.org,.own (.s sz (O.up (.s sz es) p (ls.map (·.1))))⟩])))
          |_=>.fail
         else .fail
       else .fail
     |_=>.fail
def Hm (d:Option Tmp)(t:TypeId)(x:Operand):Rd Out:=
 match lk T.tyL t with
 |none=>.fail
 | some ti=>ev x fun val=>
   match cJ val with
   |none=>.fail
   | some as=>fresh n d fun d=>oq O ti.slots as fun hs srcs=>
     if aZ srcs then fb srcs fun w1=>.ret (.ws (w1++[.root d true (sc hs),.reg d (.one (.pt d 0))]))else .fail
def ju (d sz:Nat)(es:aa):List W:=[.root d false [⟨0,0,none,.own (.s sz es)⟩],.reg d (.one (.vw d 0 0 0 (O.ln es)))]
def CK (d:Option Tmp)(t:TypeId)(len cap:Operand):Rd Out:=
 match lk T.elL t with
 |none=>.fail
 | some (_,ti,bytes)=>fQ len fun kl l=>fQ cap fun kc c=>
   if kl==.i64&&kc==.i64 then
    .req (O.pr fun _=>0<=l/\l<=c/\c*(bytes:Int)<=70368744177664/\c<=70368744177664) (fresh n d fun d=>.ret (.ws (ju O d ti.zero.length (O.rep l ti.zero))))
   else .fail
def oi {α:Type}(ti:TI)(len:Nat):List (Nat×Operand)->(List (Nat×ay)->List (Nat×Nat)->Rd α)->Rd α
 |[],k=>k [] []
 | (i,x)::ps,k=>if i<len then ev x fun val=>match cJ val with
     |none=>.fail
     |some as=>iR O ti.slots as fun ls src=>oi ti len ps fun rest srcs=>k ((i,ls.map (·.1))::rest) (src++srcs)
  else .fail
def jL (d:Option Tmp)(t:TypeId)(len:Nat)(parts:Array (Nat×Operand)):Rd Out:=
 match lk T.elL t with
 |none=>.fail
 | some (_,ti,_)=>if len*ti.zero.length<=16777216 then
    oi O ti len parts.toList fun ps srcs=>if aZ srcs then fb srcs fun w1=>fresh n d fun d=>.ret (.ws (w1++ju O d ti.zero.length (dT (Wi len ti.zero) ps)))else .fail
   else .fail
def k7 (d:Option Tmp)(t:TypeId)(x i:Operand):Rd Out:=
 match lk T.elL t with
 |none=>.fail
 | some (_,ti,_)=>dN x fun a=>fQ i fun _ i=>
   match a with
   | .ro sz es=>if sz==ti.zero.length then .req (O.pr fun _=>0<=i/\i<es.length/\es.getD i.toNat []=gP O es i 0 ti.zero) (bh n d (.one (.rp (gP O es i 0 ti.zero) 0)))else .fail
   | .vw r j ver lo m=>ez r j fun h=>match h.c with
     | .own (.s sz _)=>if h.ver==ver&&sz==ti.zero.length then .req (O.pr fun _=>0<=i/\i<m) (bh n d (.one (.pn r j ver h.iv [(O.ad lo i,0)])))else .fail
     |_=>.fail
   | .vn r j ver iv p lo m=>ez r j fun h=>match h.c with
     | .own l=>if eD h ver iv then .req (O.pr fun _=>0<=i/\i<m/\∃ es,eY l p=some (ti.zero.length,es)) (bh n d (.one (.pn r j ver iv (p++[(O.ad lo i,0)]))))else .fail
     |_=>.fail
   |_=>.fail
def oK (d:Option Tmp)(t:TypeId)(x:Operand)(low high max:Option Operand):Rd Out:=
 match lk T.elL t,max with
 | some (_,ti,_),none=>dN x fun
   | .ro sz es=>if sz==ti.zero.length then dk low 0 fun l=>dk high (O.zi (O.ln es)) fun h=>
      .req (O.pr fun _=>0<=l/\l<=h/\h<=es.length) (bh n d (.one (.ro sz (O.sub es (O.nn l) (O.df h l)))))else .fail
   | .vw r j ver lo m=>ez r j fun hv=>match hv.c with
     | .own (.s sz _)=>if hv.ver==ver&&sz==ti.zero.length then dk low 0 fun l=>dk high (O.zi m) fun h=>
        .req (O.pr fun _=>0<=l/\l<=h/\h<=m) (bh n d (.one (.vw r j ver (O.ad lo l) (O.df h l))))else .fail
     |_=>.fail
   |_=>.fail
 |_,_=>.fail
def FO :BinOp->Bool
 | .shl=>true
 | .shr=>true
 |_=>false
def Ii :BinOp->Bool
 | .add=>true
 | .sub=>true
 | .mul=>true
 | .quo=>true
 | .rem=>true
 | .and=>true
 | .or=>true
 | .xor=>true
 | .andNot=>true
 |_=>false
def Dd :BinOp->Bool
 | .quo=>true
 | .rem=>true
 |_=>false
def Dc :BinOp->Bool
 | .eql=>true
 | .neq=>true
 | .lss=>true
 | .leq=>true
 | .gtr=>true
 | .geq=>true
 |_=>false
def L6 :BinOp->Bool
 | .eql=>true
 | .neq=>true
 |_=>false
def Hj (d:Option Tmp)(op:BinOp)(t:TypeId)(x y:Operand):Rd Out:=
 dN x fun a=>dN y fun b=>
  match a,b with
  | .v (.int k a),.v (.int k' b)=>
    if FO op then .req (O.pr fun _=>0<=b) (bh n d (.one (.v (.int k (O.sh op k a b)))))
    else if k==k' then
     (if Dd op then .req (O.pr fun _=>b≠0) (bh n d (.one (.v (.int k (O.ar op k a b)))))
      else if Ii op then bh n d (.one (.v (.int k (O.ar op k a b))))
      else if Dc op then bh n d (.k (O.cmp op a b))
      else .fail)
    else .fail
  | .v (.bool a),.v (.bool b)=>if(lk T.boL t).isSome&&L6 op then bh n d (.k (O.bq op a b))else .fail
  |_,_=>.fail
def Np (d:Option Tmp)(op:UnOp)(x:Operand):Rd Out:=
 dN x fun a=>match op,a with
  | .not,.v (.bool b)=>bh n d (.k (O.bn b))
  | .neg,.v (.int k a)=>bh n d (.one (.v (.int k (O.ar .sub k 0 a))))
  |_,_=>.fail
def Ke {α:Type}(a:A)(k:Nat->Rd α):Rd α:=
 match a with
 | .nl=>k 0
 | .ro _ es=>k (O.ln es)
 | .vw r j ver _ m=>ez r j fun h=>match h.c with
   | .own (.s _ _)=>if h.ver==ver then k m else .fail
   |_=>.fail
 | .vn r j ver iv p _ m=>ez r j fun h=>match h.c with
   | .own l=>if eD h ver iv then .req (O.pr fun _=>(eY l p).isSome=true) (k m)else .fail
   |_=>.fail
 |_=>.fail
def pL {α:Type}(ti:TI)(a:A)(k:aa->List (Nat×Nat)->Rd α):Rd α:=
 match a with
 | .nl=>k [] []
 | .ro sz es=>if sz==ti.zero.length&&eP ti.slots then .req (O.pr fun _=>bT es) (k es [])else .fail
 | .vw r j ver lo m=>ez r j fun h=>match h.c with
   | .own (.s sz es)=>if h.ver==ver&&sz==ti.zero.length then
      (if eP ti.slots then .req (O.pr fun _=>bT es) (k (O.sub es lo m) [])
       else .req (O.pr fun _=>lo=0/\m=es.length) (k es [(r,j)]))
     else .fail
   |_=>.fail
 | .vn r j ver iv p lo m=>ez r j fun h=>match h.c with
   | .own l=>if eD h ver iv&&eP ti.slots then .req (O.pr fun _=>eY l p=some (ti.zero.length,O.ps l p)/\bT (O.ps l p)) (k (O.sub (O.ps l p) lo m) [])else .fail
   |_=>.fail
 |_=>.fail
def kV (d:Option Tmp)(t t':TypeId)(s x:Operand):Rd Out:=
 match lk T.elL t with
 |none=>.fail
 | some (_,ti,bytes)=>if t==t' then dN s fun a=>dN x fun b=>
    pM O (some ti.zero.length) a fun l _ src=>match l with
     | .s sz es=>if sz==ti.zero.length then pL O ti b fun es2 src2=>if aZ (src++src2)then
        .req (O.pr fun _=>(es.length+es2.length)*bytes<=70368744177664/\es.length+es2.length<=70368744177664) (fb (src++src2) fun w1=>fresh n d fun d=>.ret (.ws (w1++ju O d ti.zero.length (O.cat es es2))))
       else .fail else .fail
     |_=>.fail
   else .fail
def Sd (es:aa)(lo m:Nat)(gr:ay):aa:=O.cat (O.sub es 0 lo) (O.cat (O.rep (O.zi m) gr) (O.sub es (O.ad lo (O.zi m)) (O.ln es)))
def pQ (d:Option Tmp)(t t':TypeId)(s x:Operand):Rd Out:=
 match lk T.elL t with
 |none=>.fail
 | some (_,ti,bytes)=>if t==t' then dN s fun a=>dN x fun b=>
    pM O (some ti.zero.length) a fun l _ src=>match l with
     | .s sz es=>if sz==ti.zero.length then match b with
       | .vw r j ver lo m=>ez r j fun h=>match h.c with
         | .own (.s sz2 es2)=>if h.ver==ver&&sz2==ti.zero.length&&aZ src&&src.all (fun p=>p !=(r,j))then
           .req (O.pr fun _=>(es.length+m)*bytes<=70368744177664/\es.length+m<=70368744177664) (fb src fun w1=>fresh n d fun d=>.ret (.ws (w1++(.gap r j ⟨h.ver,h.iv+1,h.org,.own (.s sz2 (Sd O es2 lo m (uJ ti.zero)))⟩::ju O d ti.zero.length (O.cat es (O.sub es2 lo m))))))
         else .fail
         |_=>.fail
       |_=>.fail
       else .fail
     |_=>.fail
   else .fail
def pR (d:Option Tmp)(t t':TypeId)(s x:Operand):Rd Out:=
 dN x fun b=>match b with
  | .vw r _ _ _ _=>.get (.meta_ r) fun
    | some (.m _ true)=>match lk T.elL t with
      |some (_,ti,_)=>if eP ti.slots then kV T O n d t t' s x else pQ T O n d t t' s x
      |none=>.fail
    |_=>kV T O n d t t' s x
  |_=>kV T O n d t t' s x
def lI (d:Option Tmp)(t t':TypeId)(s x:Operand):Rd Out:=
 dN s fun
  | .vn _ _ _ _ _ _ _=>oG O.pr O.ps O.sub O.up O.cat (ju O) (fun ti b k=>pL O ti b k) (lk T.elL) n d t t' s x
  |_=>pR T O n d t t' s x
def CR {α:Type}(slot:Option Nat)(a:A)(k:L->Rd α):Rd α:=
 match a,slot with
 | .v x,none=>if scal x then k (.v x)else .fail
 | .nl,some sz=>k (.s sz [])
 | .ro sz' es,some sz=>if sz'==sz then k (.s sz' es)else .fail
 | .vw r j ver lo m,some sz=>ez r j fun h=>match h.c with
   | .own (.s sz' es)=>if h.ver==ver&&sz'==sz then k (.s sz' (O.sub es lo m))else .fail
   |_=>.fail
 | .vn r j ver iv p lo m,some sz=>ez r j fun h=>match h.c with
   | .own l=>if eD h ver iv then .req (O.pr fun _=>eY l p=some (sz,O.ps l p)) (k (.s sz (O.sub (O.ps l p) lo m)))else .fail
   |_=>.fail
 |_,_=>.fail
def gf {α:Type}:List (Option Nat)->List A->(ay->Rd α)->Rd α
 |[],[],k=>k []
 |sl::sls,a::as,k=>CR O sl a fun l=>gf sls as fun ls=>k (l::ls)
 |_,_,_=>.fail
def EU {α:Type}(t:TypeId)(x:Operand)(k:DV->Rd α):Rd α:=
 match lk T.tyL t with
 |none=>if(lk T.pnL t).isSome then EX (lk T.ptL t) x k else .fail
 | some ti=>ev x fun val=>match val with
   | .one a=>if ti.agg then .fail else gf O ti.slots [a] fun ls=>match ls with
     |[l]=>k (.one l)
     |_=>.fail
   | .agg as=>if ti.agg then gf O ti.slots as fun ls=>k (.agg ls)else .fail
   | .tup _=>.fail
def yp {α:Type}:List TypeId->List Operand->(List DV->Rd α)->Rd α
 |[],[],k=>k []
 |t::ts,x::xs,k=>EU T O t x fun d=>yp ts xs fun ds=>k (d::ds)
 |_,_,_=>.fail
def dU (d:Nat):Nat->ay->List A
 |_,[]=>[]
 |j,.v x::ls=>.v x::dU d (j+1) ls
 |j,.s _ es::ls=>.vw d j 0 0 (O.ln es)::dU d (j+1) ls
 |j,.g::ls=>.un::dU d (j+1) ls
 |j,.m _ _::ls=>.un::dU d (j+1) ls
def A0 (d j:Nat):DV->R
 | .one l=>match dU O d j [l]with
   |[a]=>.one a
   |_=>.agg []
 | .agg ls=>.agg (dU O d j ls)
 |_=>.agg []
def zq (d:Nat):Nat->List DV->List R
 |_,[]=>[]
 |j,r::rs=>A0 O d j r::zq d (j+(aT r).length) rs
def DX (d:Nat)(res:List DV):R:=match res with
 |[r]=>A0 O d 0 r
 |rs=>.tup (zq O d 0 rs)
def eU (d:Nat)(res:List DV):List W:=
 [.root d false ((res.flatMap aT).map fun l=>⟨0,0,none,.own l⟩),.reg d (DX O d res)]
def CH (d:Option Tmp)(f:FuncId)(ts:Array TypeId)(args:Array Operand):Rd Out:=
 if(lk T.fnL f).isSome then yp T O ts.toList args.toList fun ds=>match ct.rd f ds with
  |some (pre,res)=>.req (O.pr pre) (fresh n d fun d=>.ret (.ws (eU O d res)))
  |none=>.fail
 else .fail
def zJ (d:Option Tmp)(t:Tmp)(ts:Array TypeId)(args:Array Operand):Rd Out:=
 dN (.tmp t) fun
  | .fn f caps=>yp T O ts.toList args.toList fun ds=>dZ caps fun recs=>match ct.rd f (ds++recs.map .ptr)with
    |some (pre,res)=>.req (O.pr pre) (.req (O.pr fun _=>(lk T.fnL f).isSome=true) (fresh n d fun d=>.ret (.ws (eU O d res))))
    |none=>.fail
  |_=>.fail
def MY :Option TI->Bool
 |some ti=> !ti.agg&&ti.zero.length.beq 1
 |none=>false
def oJ (d:Option Tmp)(t:TypeId)(x:Operand):Rd Out:=
 match MY (lk T.tyL t)with
 | true=>dN x fun
   | .pt r j=>.peek r j ⟨O.ln,O.lnOk⟩ fun
     |some (ver,_,m)=>bh n d (.one (.vw r j ver 0 m))
     |none=>mG T O n d t x
   |_=>mG T O n d t x
 |false=>mG T O n d t x
def fZ (d:Option Tmp)(t:TypeId)(x i:Operand):Rd Out:=
 match lk T.elL t with
 |none=>.fail
 | some (_,ti,_)=>dN x fun
   | .vw r j ver lo m=>.peek r j ⟨O.ln,O.lnOk⟩ fun
     |some (ver',sz,_)=>if ver'==ver&&sz==ti.zero.length then fQ i fun _ i=>.req (O.pr fun _=>0<=i/\i<m) (bh n d (.one (.pn r j ver 0 [(O.ad lo i,0)])))else .fail
     |none=>.fail
   |_=>k7 T O n d t x i
def v7 (d:Option Tmp)(t:TypeId)(x:Operand)(low high max:Option Operand):Rd Out:=
 match lk T.elL t,max with
 | some (_,ti,_),none=>dN x fun
   | .vw r j ver lo m=>.peek r j ⟨O.ln,O.lnOk⟩ fun
     | some (ver',sz,_)=>if ver'==ver&&sz==ti.zero.length then dk low 0 fun l=>dk high (O.zi m) fun h=>
        .req (O.pr fun _=>0<=l/\l<=h/\h<=m) (bh n d (.one (.vw r j ver (O.ad lo l) (O.df h l))))else .fail
     |none=>.fail
   |_=>oK T O n d t x low high max
 |_,_=>.fail
def oL (d:Option Tmp)(t:TypeId)(x:Operand)(low high max:Option Operand):Rd Out:=
 dN x fun
  | .vn _ _ _ _ _ _ _=>sO O.pr O.ad O.df O.zi (lk T.elL) n d t x low high max
  |_=>v7 T O n d t x low high max
def v8 (t:TypeId)(x y:Operand):Rd Out:=
 ev y fun
  | .one (.vn _ _ _ _ _ _ _)=>oN O.pr O.ps O.sub O.up (lk T.tyL) t x y
  |_=>zX T O t x y
def zO (d:Option Tmp)(t:Tmp)(ts:Array TypeId)(args:Array Operand):Rd Out:=
 dN (.tmp t) fun
  | .fn f _=>match ct.pt f with
    |some _=>lJ O.pr (fun {β}=>gf O (α:=β)) (lk T.tyL) (lk T.ptL) (fun t=>(lk T.pnL t).isSome) n d (fun f=>(lk T.fnL f).isSome) t ts args ct.pt (eU O)
    |none=>zJ T O ct n d t ts args
  |_=>.fail
def zC (d:Option Tmp)(t:TypeId):Rd Out:=
 match lk T.tyL t with
 |none=>.fail
 |some ti=>fresh n d fun d=>.ret (.ws [.root d true (ti.zero.map fun l=>⟨0,0,none,.own l⟩),.reg d (.one (.pt d 0))])
def zG (d:Option Tmp)(t:TypeId)(parts:Array (Nat×Operand)):Rd Out:=
 match lk T.tyL t with
 |none=>.fail
 | some ti=>match lk T.bdL t with
   |none=>.fail
   |some bd=>fg bd parts.toList (ti.zero.map Hs) fun as=>bh n d (.agg as)
def kZ (d:Option Tmp)(s:TypeId)(x:Operand)(f:Nat):Rd Out:=
 match Te (lk T.fdL s) f with
 |none=>.fail
 | some o=>dN x fun
   | .pt r j=>bh n d (.one (.pt r (j+o)))
   | .rp rec j=>bh n d (.one (.rp rec (j+o)))
   | .pn r j ver iv p=>ez r j fun h=>match h.c with
     | .own _=>if uQ h ver iv p then bh n d (.one (.pn r j ver iv (sV p o)))else .fail
     |_=>.fail
   |_=>.fail
def RR (isMax:Bool):List Value->Option Value
 |[.int k a,.int k' b]=>if k==k' then some (.int k (O.mm isMax a b))else none
 |_=>none
def j5 (o:Oper):Rd Out:=
 match o.op with
 | .move x=>ev x fun r=>bh n o.dst r
 | .assign x=>ev x fun r=>
   match x,r,o.dst with
   | .tmp t,.one (.vw r0 j ver lo m),some d=>
     if r0=t/\r0≠d/\d<n then .get (.meta_ r0) fun
      | some (.m 1 false)=>ez r0 j fun h=>match h.c,h.org with
        | .own (.s sz es),none=>if h.ver==ver then .req (O.pr fun _=>lo=0/\m=es.length) (.get (.meta_ d) fun
          |none=>.ret (.ws ([.leaf r0 j ⟨h.ver+1,h.iv,none,.gone⟩]++ju O d sz es))
          |some (.m 1 false)=>ez d 0 fun h2=>.ret (.ws [.leaf r0 j ⟨h.ver+1,h.iv,none,.gone⟩,.leaf d 0 ⟨h2.ver+1,h2.iv+1,none,.own (.s sz es)⟩,.reg d (.one (.vw d 0 (h2.ver+1) 0 (O.ln es)))])
          |_=>.fail)else .fail
        |_,_=>.fail
      |_=>.fail
     else bh n o.dst r
   |_,_,_=>bh n o.dst r
 | .pick c a b=>yK c fun c=>dN a fun a=>dN b fun b=>match a,b with
   | .v x,.v y=>match x,y with
     | .bool x,.bool y=>bh n o.dst (.k (O.sel c x y))
     | .tuple _,.bool y=>.br c .fail (bh n o.dst (.k y))
     | .bool x,.tuple _=>.br c (bh n o.dst (.k x)) .fail
     |_,_=>.fail
   |_,_=>.fail
 | .alloc t=>zC T n o.dst t
 | .box t x=>Hm T O n o.dst t x
 | .build t parts=>zG T n o.dst t parts
 | .buildSlice t len parts=>jL T O n o.dst t len parts
 | .load t x=>oJ T O n o.dst t x
 | .store t x y=>match o.dst with
   |none=>v8 T O t x y
   |some _=>.fail
 | .fieldAddr s x f=>kZ T n o.dst s x f
 | .indexAddr t x i=>fZ T O n o.dst t x i
 | .nilCheck x=>dN x fun a=>match a with
   | .pt _ _=>bh n o.dst (.one a)
   | .rp _ _=>bh n o.dst (.one a)
   |_=>.fail
 | .binOp op t x y _=>Hj T O n o.dst op t x y
 | .unOp op _ x=>Np O n o.dst op x
 | .convert src dst x=>fQ x fun _ a=>match lk T.itL src,lk T.itL dst with
   |some _,some k=>bh n o.dst (.one (.v (.int k (O.wr k a))))
   |_,_=>.fail
 | .makeSlice t l c=>CK T O n o.dst t l c
 | .slice t x lo hi mx=>oL T O n o.dst t x lo hi mx
 | .makeFunc fn first captured=>match fn,first.toList with
   | .func f,[]=>An captured.toList fun cs=>bh n o.dst (.one (.fn f cs))
   |_,_=>.fail
 | .extract x i=>ev x fun r=>match r with
   | .tup rs=>match rs[i]? with
     |some r=>bh n o.dst r
     |none=>.fail
   |_=>.fail
 | .makeMap t r=>iT (lk T.mpL) n o.dst t r
 | .field t x f=>pV (lk T.cmL) n o.dst t x f
 | .range t x=>pY (lk T.mpL) n o.dst t x
 | .entry x=>vV n o.dst x
 | .lookup t x i ok=>lK O.mgb O.mgi (lk T.mpL) n o.dst t x i ok
 | .mapEntry t m k=>ga O.mgb O.mgi O.mu (lk T.mpL) n o.dst t m k
 | .entryStore t m s x=>match o.dst with
   |none=>eL O.mu (lk T.mpL) t m s x
   |some _=>.fail
 | .mapUpdate t m k v=>match o.dst with
   |none=>lL O.mu (lk T.mpL) t m k v
   |some _=>.fail
 | .call c=>match c.callee with
   | .builtin .len=>match c.args.toList,c.argTypes.toList with
     |[x],[t]=>if(lk T.slL t).isSome then dN x fun a=>Ke O a fun m=>bh n o.dst (.j (O.zi m))else .fail
     |_,_=>.fail
   | .builtin .append=>match c.args.toList,c.argTypes.toList with
     |[s,x],[t,t']=>lI T O n o.dst t t' s x
     |_,_=>.fail
   | .builtin .min=>kB c.args.toList fun vs=>match RR O false vs with
     |some v=>bh n o.dst (.one (.v v))
     |none=>.fail
   | .builtin .max=>kB c.args.toList fun vs=>match RR O true vs with
     |some v=>bh n o.dst (.one (.v v))
     |none=>.fail
   | .value (.func f)=>match ct.nw f with
    |some _=>.fail
    |none=>match ct.tk f with
    |some _=>.fail
    | none=>match ct.pt f with
     |some mk=>pT O.pr (fun {β}=>gf O (α:=β)) (lk T.tyL) (lk T.ptL) (fun t=>(lk T.pnL t).isSome) n o.dst (lk T.fnL f).isSome c.argTypes c.args mk (eU O)
     | none=>match ct.mu f with
       |some mk=>pS O.pr O.ps O.up (lk T.tyL) n o.dst (lk T.fnL f).isSome c.argTypes c.args mk (eU O)
       |none=>CH T O ct n o.dst f c.argTypes c.args
   | .value (.tmp t)=>zO T O ct n o.dst t c.argTypes c.args
   |_=>.fail
 |_=>.fail
end
end Go.V
namespace Go.V
theorem En {α:Type}(r j:Nat)(h:Hv)(k:A->Rd α):B8 ah r j h k=vd r j h k:=rfl
theorem gE {α:Type}(r:Nat):∀ (m j:Nat) (k:List A->Rd α),eH ah r j m k=di r j m k
 |0,j,k=>rfl
 | m+1,j,k=>by
   simp only[eH,di]
   congr 1;funext h
   rw[En]
   congr 1;funext a
   exact gE r m (j+1) _
theorem iM (r j ver iv:Nat)(p:List (Nat×Nat)):∀ (ls:ay) (o:Nat),im ah r j ver iv p o ls=fS r j ver iv p o ls
 |[],o=>rfl
 | .v x::ls,o=>by simp only[im,fS,iM r j ver iv p ls]
 | .s sz es::ls,o=>by simp only[im,fS,iM r j ver iv p ls];rfl
 | .g::ls,o=>by simp only[im,fS,iM r j ver iv p ls]
 | .m _ _::ls,o=>by simp only[im,fS,iM r j ver iv p ls]
theorem pN : @pM ah= @take1:=rfl
theorem hK {α:Type}:∀ (sl:List (Option Nat)) (as:List A) (k:List (L×Option Nat)->List (Nat×Nat)->Rd α),iR ah sl as k=dC sl as k
 |[],[],k=>rfl
 |[],_::_,k=>rfl
 |_::_,[],k=>rfl
 | s::sl,a::as,k=>by
   simp only[iR,dC,pN]
   congr 1;funext l og src
   exact hK sl as _
theorem GO : @KD ah= @IG:=rfl
theorem mz {α:Type}:∀ (sl:List (Option Nat)) (as:List A) (k:List (H×Option Nat)->List (Nat×Nat)->Rd α),oq ah sl as k=io sl as k
 |[],[],k=>rfl
 |[],_::_,k=>rfl
 |_::_,[],k=>rfl
 | s::sl,a::as,k=>by
   simp only[oq,io,GO]
   congr 1;funext l og src
   exact mz sl as _
theorem vp :ju ah=ownRow:=rfl
theorem qz {α:Type}(ti:TI)(len:Nat):∀ (ps:List (Nat×Operand)) (k:List (Nat×ay)->List (Nat×Nat)->Rd α),oi ah ti len ps k=partsOf ti len ps k
 |[],k=>rfl
 | (i,x)::ps,k=>by
  simp only[oi,partsOf,hK,qz ti len ps];rfl
theorem fG (d:Nat):∀ (ls:ay) (j:Nat),dU ah d j ls=cU d j ls
 |[],j=>rfl
 | .v x::ls,j=>by simp only[dU,cU,fG d ls]
 | .s sz es::ls,j=>by simp only[dU,cU,fG d ls];rfl
 | .g::ls,j=>by simp only[dU,cU,fG d ls]
 | .m _ _::ls,j=>by simp only[dU,cU,fG d ls]
theorem vD (d j:Nat)(r:DV):A0 ah d j r=AZ d j r:=by
 cases r<;>simp only[A0,AZ,fG]<;>rfl
theorem yb (d:Nat):∀ (rs:List DV) (j:Nat),zq ah d j rs=iP d j rs
 |[],j=>rfl
 |r::rs,j=>by simp only[zq,iP,vD,yb d rs]
theorem iQ (d:Nat)(res:List DV):eU ah d res=dG d res:=by
 unfold eU dG DX gG;split<;>simp only[vD,yb]
section
variable {P : Program} {T : wd} {n : Nat} {g : Gm}
theorem Hn (hT:bp P T){d:Option Tmp}{t:TypeId}{x:Operand}{ls:List Loc}{out:Out}(h:(Hm T ah n d t x).Runs g ls out):(Hl P n d t x).Runs g ls out:=by
 revert h;unfold Hm Hl
 rcases hT.ty t with e|⟨ti,e,e2⟩
 ·simp only[e];exact fun h=>h.elim
 ·simp only[e,e2,mz];exact fun h=>h
theorem EE (hT:bp P T){d:Option Tmp}{t:TypeId}{x y:Operand}{ls:List Loc}{out:Out}(h:(CK T ah n d t x y).Runs g ls out):(Bs P n d t x y).Runs g ls out:=by
 revert h;unfold CK Bs
 rcases hT.el t with e|⟨ti,e,e2⟩
 ·simp only[e];exact fun h=>h.elim
 ·simp only[e,e2,vp];exact fun h=>h
theorem sq (hT:bp P T){d:Option Tmp}{t:TypeId}{len:Nat}{parts:Array (Nat×Operand)}{ls:List Loc}{out:Out}(h:(jL T ah n d t len parts).Runs g ls out):(fJ P n d t len parts).Runs g ls out:=by
 revert h;unfold jL fJ
 rcases hT.el t with e|⟨ti,e,e2⟩
 ·simp only[e];exact fun h=>h.elim
 ·simp only[e,e2,vp,qz];exact fun h=>h
theorem CB (hT:bp P T){d:Option Tmp}{t:TypeId}{ls:List Loc}{out:Out}(h:(zC T n d t).Runs g ls out):(vR P n d t).Runs g ls out:=by
 revert h;unfold zC vR
 rcases hT.ty t with e|⟨ti,e,e2⟩
 ·simp only[e];exact fun h=>h.elim
 ·simp only[e,e2];exact fun h=>h
theorem CF (hT:bp P T){d:Option Tmp}{t:TypeId}{parts:Array (Nat×Operand)}{ls:List Loc}{out:Out}(h:(zG T n d t parts).Runs g ls out):(vU P n d t parts).Runs g ls out:=by
 revert h;unfold zG vU
 rcases hT.ty t with e|⟨ti,e,e2⟩
 ·simp only[e];exact fun h=>h.elim
 ·rcases hT.bd t with f|⟨bd,f,f2⟩
  ·simp only[e,f];exact fun h=>h.elim
  ·simp only[e,e2,f,f2];exact fun h=>h
theorem vW (hT:bp P T){d:Option Tmp}{s:TypeId}{x:Operand}{f:Nat}{ls:List Loc}{out:Out}(h:(kZ T n d s x f).Runs g ls out):(gK P n d s x f).Runs g ls out:=by
 revert h;unfold kZ gK
 rcases hT.fd s f with e|⟨ti,e,e2⟩
 ·simp only[e];exact fun h=>h.elim
 ·simp only[e,e2];exact fun h=>h
theorem DU {α:Type}{l:Loc}{k' k:Val->Rd α}{x:α}{ls:List Loc}(hk:∀ v ls,(k' v).Runs g ls x->(k v).Runs g ls x)(h:(rd l k').Runs g ls x):(rd l k).Runs g ls x:=by
 unfold rd at*;simp only[Rd.Runs]at*;obtain⟨ls',e,h⟩:=h;refine⟨ls',e,?_⟩;cases hg:g l with
 |none=>simp[hg,Rd.Runs]at h
 |some v=>simp only[hg]at h ⊢;exact hk v _ h
theorem vA {α:Type}{d:Nat}{k' k:R->Rd α}{x:α}{ls:List Loc}(hk:∀ v ls,(k' v).Runs g ls x->(k v).Runs g ls x)(h:(AX d k').Runs g ls x):(AX d k).Runs g ls x:=by
 refine DU ?_ h;intro v ls h;cases v with
 |r y=>exact hk _ _ h
 |h y=>exact h
 |m a b=>exact h
theorem cC {α:Type}{r j:Nat}{k' k:Hv->Rd α}{x:α}{ls:List Loc}(hk:∀ v ls,(k' v).Runs g ls x->(k v).Runs g ls x)(h:(ez r j k').Runs g ls x):(ez r j k).Runs g ls x:=by
 refine DU ?_ h;intro v ls h;cases v with
 |h y=>exact hk _ _ h
 |r y=>exact h
 |m a b=>exact h
theorem sB {α:Type}{y:Operand}{k' k:R->Rd α}{x:α}{ls:List Loc}(hk:∀ v ls,(k' v).Runs g ls x->(k v).Runs g ls x)(h:(ev y k').Runs g ls x):(ev y k).Runs g ls x:=by
 cases y with
 |tmp t=>exact vA hk h
 |const c=>exact hk _ _ h
 |_=>exact h
theorem cr {α:Type}{y:Operand}{k' k:A->Rd α}{x:α}{ls:List Loc}(hk:∀ v ls,(k' v).Runs g ls x->(k v).Runs g ls x)(h:(dN y k').Runs g ls x):(dN y k).Runs g ls x:=by
 refine sB ?_ h;intro v ls h;cases v with
 |one a=>exact hk _ _ h
 |agg as=>exact h
 |tup rs=>exact h
theorem mh {α:Type}{y:Operand}{k' k:IntKind->Int->Rd α}{x:α}{ls:List Loc}(hk:∀ v w ls,(k' v w).Runs g ls x->(k v w).Runs g ls x)(h:(fQ y k').Runs g ls x):(fQ y k).Runs g ls x:=by
 refine cr ?_ h;intro v ls h;cases v with
 | v y=>cases y with
   |int kd m=>exact hk _ _ _ h
   |_=>exact h
 |_=>exact h
theorem nI {α:Type}{y:Option Operand}{dflt:Int}{k' k:Int->Rd α}{x:α}{ls:List Loc}(hk:∀ v ls,(k' v).Runs g ls x->(k v).Runs g ls x)(h:(dk y dflt k').Runs g ls x):(dk y dflt k).Runs g ls x:=by
 cases y with
 |none=>exact hk _ _ h
 |some y=>exact mh (fun _ _ ls h=>hk _ ls h) h
theorem gF {α:Type}{c' c:Prop}{k' k:Rd α}{x:α}{ls:List Loc}(hc:c'->c)(hk:∀ ls,k'.Runs g ls x->k.Runs g ls x)(h:(Rd.req c' k').Runs g ls x):(Rd.req c k).Runs g ls x:=⟨hc h.1,hk _ h.2⟩
theorem cd {α:Type}{b:Prop}[Decidable b]{k' k:Rd α}{x:α}{ls:List Loc}(hk:∀ ls,k'.Runs g ls x->k.Runs g ls x)(h:(if b then k' else Rd.fail).Runs g ls x):(if b then k else Rd.fail).Runs g ls x:=by
 split at h
 ·rename_i hb;rw[if_pos hb];exact hk _ h
 ·exact h.elim
theorem CL (hT:bp P T){d:Option Tmp}{t:TypeId}{x:Operand}{lo hi mx:Option Operand}{ls:List Loc}{out:Out}(h:(oK T ah n d t x lo hi mx).Runs g ls out):(v6 P n d t x lo hi mx).Runs g ls out:=by
 revert h
 unfold oK v6;rcases hT.el t with e|⟨q,e,e2⟩
 ·simp only[e];exact fun h=>h.elim
 simp only[e,e2];intro h;cases mx with
 |some _=>exact h.elim
 | none=>
   ·
     obtain⟨e,ti,b⟩:=q;refine cr ?_ h;intro a ls h;cases a with
     | ro sz es=>
       refine cd (fun ls h=>?_) h;refine nI (fun l ls h=>?_) h;refine nI (fun u ls h=>?_) h;refine gF id (fun ls h=>?_) h;rw[show(es.take u.toNat).drop l.toNat=(es.drop l.toNat).take (u.toNat-l.toNat)from XB ..];exact h
     | vw r j ver lo m=>
       refine cC ?_ h;intro hv ls h
       revert h
       generalize hv.c=c;intro h;cases c with
       | own l=>cases l with
         |s sz es=>exact h
         |v x=>exact h
         |g=>exact h
         |m _ _=>exact h
       |ro l=>exact h
       |gone=>exact h
     |_=>exact h
theorem mD {α:Type}{slot:Option Nat}{a:A}{k' k:L->Option Nat->List (Nat×Nat)->Rd α}{x:α}{ls:List Loc}(hk:∀ l og src ls,(k' l og src).Runs g ls x->(k l og src).Runs g ls x)(h:(take1 slot a k').Runs g ls x):(take1 slot a k).Runs g ls x:=by
 cases slot with
 | none=>
   cases a with
   |v y=>exact cd (fun ls h=>hk _ _ _ _ h) h
   |_=>exact h
 | some sz=>
   cases a with
   |nl=>exact hk _ _ _ _ h
   | vw r j ver lo m=>
     refine cC ?_ h;intro hv ls h
     revert h
     generalize hv.c=c;intro h;cases c with
     | own l=>cases l with
       |s sz' es=>exact cd (fun ls h=>gF id (fun ls h=>hk _ _ _ _ h) h) h
       |v x=>exact h
       |g=>exact h
       |m _ _=>exact h
     |ro l=>exact h
     |gone=>exact h
   | mv r j ver=>
     refine cC ?_ h;intro hv ls h
     revert h
     generalize hv.c=c;intro h;cases c with
     | own l=>cases l with
       |m kb es=>exact cd (fun ls h=>hk _ _ _ _ h) h
       |v x=>exact h
       |g=>exact h
       |s _ _=>exact h
     |ro l=>exact h
     |gone=>exact h
   |_=>exact h
theorem jJ {α:Type}:∀ {sl:List (Option Nat)} {as:List A} {k' k:List (L×Option Nat)->List (Nat×Nat)->Rd α} {x:α} {ls:List Loc},(∀ l src ls,(k' l src).Runs g ls x->(k l src).Runs g ls x)->(dC sl as k').Runs g ls x->(dC sl as k).Runs g ls x
 |[],[],k',k,x,ls,hk,h=>hk _ _ _ h
 |[],_::_,k',k,x,ls,hk,h=>h
 |_::_,[],k',k,x,ls,hk,h=>h
 |s::sl,a::as,k',k,x,ls,hk,h=>mD (fun l og src ls h=>jJ (fun _ _ ls h=>hk _ _ ls h) h) h
theorem uO {α:Type}:∀ {xs:List (Nat×Nat)} {k' k:List W->Rd α} {x:α} {ls:List Loc},(∀ l ls,(k' l).Runs g ls x->(k l).Runs g ls x)->(fb xs k').Runs g ls x->(fb xs k).Runs g ls x
 |[],k',k,x,ls,hk,h=>hk _ _ h
 |(r,j)::xs,k',k,x,ls,hk,h=>cC (fun v ls h=>uO (fun _ ls h=>hk _ ls h) h) h
theorem k9 {l:L}{p:List (Nat×Nat)}{sz:Nat}{es:aa}(h:eY l p=some (sz,es)):∃ rec o,bL l p=some (rec,o)/\rec[o]?=some (.s sz es):=by
 unfold eY at h;split at h
 ·rename_i rec o e;split at h
  ·rename_i sz' es' e';cases h;exact⟨rec,o,e,e'⟩
  ·cases h
 ·cases h
theorem ED (hT:bp P T){d:Option Tmp}{t:TypeId}{x:Operand}{ls:List Loc}{out:Out}(h:(mG T ah n d t x).Runs g ls out):(Bp P n d t x).Runs g ls out:=by
 revert h
 unfold mG Bp;rcases hT.ty t with e|⟨ti,e,e2⟩
 ·simp only[e];exact fun h=>h.elim
 simp only[e,e2];intro h
 ·
   refine cr ?_ h;intro a ls h;cases a with
   |pt r j=>simp only[gE]at h;exact h
   | pn r j ver iv p=>
     refine cC ?_ h;intro hv ls h;refine cd (fun ls h=>?_) h
     revert h
     generalize hv.c=c;intro h;cases c with
     | own l=>
       obtain⟨⟨rec,o,e1,e2,e3⟩,h⟩:=h;simp only[e1,Rd.Runs];refine⟨e2,?_⟩;rw[e3];rw[iM]at h;exact h
     |ro l=>exact h
     |gone=>exact h
   | rp rec j=>
     simp only at h ⊢;split at h
     ·rename_i hle;exact⟨hle,h⟩
     ·exact h.elim
   |_=>exact h
theorem v9 (hT:bp P T){t:TypeId}{x y:Operand}{ls:List Loc}{out:Out}(h:(zX T ah t x y).Runs g ls out):(pZ P t x y).Runs g ls out:=by
 revert h
 unfold zX pZ;rcases hT.ty t with e|⟨ti,e,e2⟩
 ·simp only[e];exact fun h=>h.elim
 simp only[e,e2];intro h
 ·
   refine cr ?_ h;intro a ls h;refine sB ?_ h;intro v ls h;generalize cJ v=lv at h ⊢;cases lv with
   |none=>exact h.elim
   | some as=>
     cases a with
     |pt r j=>simp only[mz]at h;exact h
     | pn r j ver iv p=>
       simp only[hK]at h ⊢;refine jJ ?_ h;intro lts srcs ls h;refine cd (fun ls h=>?_) h;refine uO ?_ h;intro w1 ls h;refine cC ?_ h;intro hv ls h;refine cd (fun ls h=>?_) h
       revert h
       generalize hv.c=c;intro h;cases c with
       | own l=>
         cases l with
         | s sz es=>
           obtain⟨⟨rec,o,e1,e2⟩,h⟩:=h;simp only[e1,Rd.Runs];refine⟨e2,?_⟩;simp only[Rd.Runs]at h;rw[h.1,h.2];refine⟨rfl,?_⟩;rw[vK e1];rfl
         |v x=>exact h.elim
         |g=>exact h.elim
         |m _ _=>exact h.elim
       |ro l=>exact h.elim
       |gone=>exact h.elim
     |_=>exact h
theorem vX (hT:bp P T){d:Option Tmp}{t:TypeId}{x y:Operand}{ls:List Loc}{out:Out}(h:(k7 T ah n d t x y).Runs g ls out):(gL P n d t x y).Runs g ls out:=by
 revert h
 unfold k7 gL;rcases hT.el t with e|⟨q,e,e2⟩
 ·simp only[e];exact fun h=>h.elim
 simp only[e,e2];intro h
 ·
   obtain⟨e,ti,b⟩:=q;refine cr ?_ h;intro a ls h;refine mh ?_ h;intro kd i ls h;cases a with
   | ro sz es=>
     refine cd (fun ls h=>?_) h;obtain⟨⟨e1,e2,e3⟩,h⟩:=h;refine⟨⟨e1,e2⟩,?_⟩;rw[e3];exact h
   | vw r j ver lo m=>
     refine cC ?_ h;intro hv ls h
     revert h
     generalize hv.c=c;intro h;cases c with
     |own l=>cases l<;>exact h
     |ro l=>exact h
     |gone=>exact h
   | vn r j ver iv p lo m=>
     refine cC ?_ h;intro hv ls h
     revert h
     generalize hv.c=c;intro h;cases c with
     | own l=>
       refine cd (fun ls h=>?_) h;obtain⟨⟨e1,e2,es,e3⟩,h⟩:=h;obtain⟨rec,o,f1,f2⟩:=k9 e3;simp only[f1,f2,beq_self_eq_true,if_true];exact⟨⟨e1,e2⟩,h⟩
     |ro l=>exact h
     |gone=>exact h
   |_=>exact h
end
end Go.V