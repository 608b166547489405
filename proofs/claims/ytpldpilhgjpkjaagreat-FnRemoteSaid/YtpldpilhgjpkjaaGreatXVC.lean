/-
  A condition generator for functions on trees of data, part 3 of 5: values in memory, contracts, soundness.
-/
import Derived.Test.YtpldpilhgjpkjaaGreatXVB
set_option linter.all false
open Go
open Act renaming put->ZI,eval->ZK
open BitVec renaming ofInt->ZV
open Bool renaming and_eq_true->Zc,or_eq_true->Z4,eq_false_iff->Vh
open Classical renaming byContradiction->VL
open Deferred renaming ofValue->Y9
open Function renaming comp_apply->VM
open Instr renaming findNow->Vi,lookup->WC,mapUpdate->WE,mapEntry->WF,entryStore->Vk
open IntKind renaming i64->Za
open List renaming all_eq_true->Z6,mem_of_getElem?->Zy,mem_cons->Zl,mem_map->ZW,getElem?_eq_getElem->Zu,getElem?_eq_some_iff->ZC,getElem?_map->ZE,mem_append->Zg,length_map->YQ,getElem?_of_mem->YA,getD->ZF,append_assoc->Zp,drop_take->YS,take_take->Y7,drop_drop->Yi,length_drop->Zn,append_nil->ZY,nodup_nil->ZQ,ext_getElem?->ZU,getElem?_set->XM,getElem?_inj->Wm,not_mem_nil->YR,length_append->Zf,length_take->Zh,getElem?_append_left->ZO,getElem?_take->Zz,getElem?_append_right->ZJ,getElem?_drop->Zv,nodup_append->Zx,take_append_drop->ZR,getElem?_eq_none->Yc,length_cons->Zj,length_nil->Zk,map_cons->ZT,mem_cons_of_mem->Wk,replicate->Zt,range->Zo,getD_eq_getElem?_getD->Zm
open List.cons renaming injEq->Vo
open MapKept renaming run_getObj_map->Xb,run_checkKey->Xo,run_findKey->Xp,run_setObj_map->XG,run_keyThatStays->Vj,heap_set->Vl
open Nat renaming eq_of_beq_eq_true->Z5,beq_refl->Vf,le_of_ble_eq_true->YU,ble_eq_true_of_le->Vg,lt_or_ge->Yb,le_refl->Ze,lt_succ_self->YN,zero_add->ZS,add_mul->Zq,beq->ZL,add_zero->Yr,lt_irrefl->Wi,lt_of_lt_of_le->Yt
open Obj renaming map->Vm
open Oper renaming wp->YK,upon->Y6
open Option renaming getD_some->ZZ,map_eq_some_iff->ZA,none->Xz
open Option.some renaming injEq->Ya,inj->YB
open Region renaming wanted->YO
open Result renaming andThen_ok->Z1,andThen->Z2
open Sem renaming run_bind->ZP,run_pure->Yn
open _root_.Array renaming toList_map->Yy,toArray_toList->Yz,empty_append->Xa,append_empty->XF,getElem?_eq_some_iff->ZD,getElem?_toList->ZX,getElem?_modify->YV,length_toList->ZH,size_push->Vn
namespace Go.V
theorem wD:∀ {pts:List k7},nO pts=true->∀ (i i':Nat) (p p':k7),i<i'->pts[i]?=some p->pts[i']?=some p'->Fu p p'=true
 |[],_,i,i',p,p',_,h,_=>by simp at h
 | q::ps,h,i,i',p,p',hi,h1,h2=>by
   simp only[nO,Zc,Z6]at h;cases i with
   | zero=>
     simp at h1;subst h1;cases i' with
     |zero=>omega
     |succ i'=>simp at h2;exact h.1 p' (Zy h2)
   | succ i=>
     cases i' with
     |zero=>omega
     |succ i'=>simp at h1 h2;exact wD h.2 i i' p p' (by omega) h1 h2
theorem yw {p q:k7}:Fu p q=true↔p.1≠q.1\/p.2.1+p.2.2.length<=q.2.1\/q.2.1+q.2.2.length<=p.2.1:=by
 have hb:∀ a b:Nat,a.beq b=true↔a=b:=fun a b=>⟨Z5,fun e=>by subst e;exact Vf a⟩
 have hl:∀ a b:Nat,a.ble b=true↔a<=b:=fun a b=>⟨YU,Vg⟩
 unfold Fu;simp only[Z4,Bool.not_eq_true',hl];rw[Vh,Ne,hb];simp[or_assoc]
theorem Io {s:Nat×Nat}{p:k7}:Bl s p=true↔s.1=p.1/\p.2.1<=s.2/\s.2<p.2.1+p.2.2.length:=by
 have hb:∀ a b:Nat,a.beq b=true↔a=b:=fun a b=>⟨Z5,fun e=>by subst e;exact Vf a⟩
 have hl:∀ a b:Nat,a.ble b=true↔a<=b:=fun a b=>⟨YU,Vg⟩
 unfold Bl;simp only[Zc,hb,hl]
 constructor
 ·rintro⟨h1,h2,h3⟩;exact⟨h1,h2,by omega⟩
 ·rintro⟨h1,h2,h3⟩;exact⟨h1,h2,by omega⟩
theorem wE {pts:List k7}(h:nO pts=true){i i':Nat}{p p':k7}(hi:i≠i')(h1:pts[i]?=some p)(h2:pts[i']?=some p'):p.1≠p'.1\/p.2.1+p.2.2.length<=p'.2.1\/p'.2.1+p'.2.2.length<=p.2.1:=by
 rcases Yb i i' with c|c;exact yw.1 (wD h i i' p p' c h1 h2)
 ·have:=yw.1 (wD h i' i p' p (by omega) h2 h1);rcases this with q|q|q;exact .inl (Ne.symm q);exact .inr (.inr q);exact .inr (.inl q)
section
variable {P: Program} {o: Oper} {cx: Cx} {G: Gh} {g: Gm} {a: Act} {w: World}
def F1 (G:Gh)(g:Gm)(p:k7):Prop:=
 (∃ b off,G.loc p.1=some (b,off))/\0<p.2.2.length/\∀ (i:Nat) c,p.2.2[i]?=some c->c≠ .gone/\∃ hv,g (.leaf p.1 (p.2.1+i))=some (.h hv)/\hv.c=c
inductive ta (G:Gh)(g:Gm)(w:World):List DV->List (Nat×Nat)->List k7->List Value->Prop where
 |nil:ta G g w [] [] [] []
 |dat {d v S src ds srcs pts vs} (hd:∀ hs,d≠ .mp hs) (h:mh w d v S) (ht:∀ b∈S,G.ow b=some .ro\/∃ r j,(r,j)∈src/\G.ow b=some (.leaf r j)) (hs:ta G g w ds srcs pts vs):ta G g w (d::ds) (src++srcs) pts (v::vs)
 |ptr {p:k7} {b off ds srcs pts vs} (h:F1 G g p) (h0:G.loc p.1=some (b,off)) (hs:ta G g w ds srcs pts vs):ta G g w (.mp p.2.2::ds) srcs (p::pts) (.pointer (some ⟨b,off+p.2.1,none⟩)::vs)
theorem na {α:Type}{r:Nat}:∀ (m j:Nat) (k:List H->Rd α) (ls:List Loc) (out:α),(lZ r j m k).Runs g ls out->
 ∃ hs ls',hs.length=m/\(∀ (i:Nat) c,hs[i]?=some c->c≠ .gone/\∃ hv,g (.leaf r (j+i))=some (.h hv)/\hv.c=c)/\(k hs).Runs g ls' out
 |0,j,k,ls,out,h=>⟨[],ls,rfl,(fun i c e=>by simp at e),h⟩
 | m+1,j,k,ls,out,h=>by
   obtain⟨hv,ls2,_,q2,hk⟩:=bD (k:=fun h=>match h.c with
    | .own l=>lZ r (j+1) m fun hs=>k (.own l::hs)
    | .ro l=>lZ r (j+1) m fun hs=>k (.ro l::hs)
    | .gone=>.fail) h
   have fin:∀ c,c≠ .gone->hv.c=c->(lZ r (j+1) m fun hs=>k (c::hs)).Runs g ls2 out->∃ hs ls',hs.length=m+1/\(∀ (i:Nat) c,hs[i]?=some c->c≠ .gone/\∃ hv,g (.leaf r (j+i))=some (.h hv)/\hv.c=c)/\(k hs).Runs g ls' out:=by
    intro c hc e hk;obtain⟨hs,ls3,e1,e2,e3⟩:=na m (j+1) _ _ _ hk;refine⟨c::hs,ls3,by simp[e1],fun i c' e'=>?_,e3⟩;cases i with
    |zero=>simp at e';subst e';exact⟨hc,hv,q2,e⟩
    | succ i=>
      simp at e';have:=e2 i c' e';rw[show j+(i+1)=j+1+i from by omega];exact this
   cases hc:hv.c with
   |own l=>simp only[hc]at hk;exact fin _ (by simp) hc hk
   |ro l=>simp only[hc]at hk;exact fin _ (by simp) hc hk
   |gone=>simp[hc,Rd.Runs]at hk
theorem DR (hS:aP cx G g a w){isP:TypeId->Bool}{t:TypeId}{x:Operand}{α:Type}{k:DV->List (Nat×Nat)->List k7->Rd α}{ls:List Loc}{out:α}(h:(zF fa (lp P) (Fy P) isP t x k).Runs g ls out):
 ∃ d src pt ls',(∀ ds srcs pts vs,ta G g w ds srcs pts vs->ta G g w (d::ds) (src++srcs) (pt++pts) (a.eval x::vs))/\(k d src pt).Runs g ls' out:=by
 unfold zF at h;cases hti:lp P t with
 | none=>
   simp only[hti]at h;split at h
   case isFalse=>exact h.elim
   obtain⟨x0,ls1,hx,h⟩:=bz hS h;cases x0 with
   | pt r j=>
     simp only at h;split at h
     ·rename_i ti _;split at h
      ·rename_i hpos;obtain⟨hs,ls2,e1,e2,h⟩:=na _ _ _ _ _ h;obtain⟨b,off,h0,h1⟩:=hx;refine⟨.mp hs,[],[(r,j,hs)],ls2,fun ds srcs pts vs hp=>?_,h⟩;have:=ta.ptr (p:=(r,j,hs)) (b:=b) (off:=off) ⟨⟨b,off,h0⟩,by rw[<-e1]at hpos;exact hpos,e2⟩ h0 hp;rw[h1];exact this
      ·exact h.elim
     ·exact h.elim
   |_=>exact h.elim
 | some ti=>
   simp only[hti]at h;obtain⟨r,ls1,hr,h⟩:=dk hS h;cases r with
   | one x0=>
     simp only[cM]at hr;simp only at h;split at h
     ·simp[Rd.Runs]at h
     ·obtain⟨l,S,ls2,k1,t1,h⟩:=rQ hS _ [x0] [a.eval x] (by simp[bS,hr]) _ _ _ h;split at h
      ·rename_i l0;simp only[ai]at k1;obtain⟨v,vs',S1,S2,e1,k2,⟨e2,e3⟩,e4⟩:=k1;cases e1;refine⟨.one l0,GB x0,[],ls2,fun ds srcs pts vs hp=>ta.dat (S:=S1) (fun hs=>by simp) k2 (fun b hb=>?_) hp,h⟩
       simpa using t1 b (by rw[e4];simp[hb])
      ·simp[Rd.Runs]at h
   | agg as=>
     simp only[cM]at hr;obtain⟨vs,e,hr⟩:=hr;simp only at h;split at h
     ·obtain⟨l,S,ls2,k1,t1,h⟩:=rQ hS _ as vs hr _ _ _ h;exact⟨.agg l,as.flatMap GB,[],ls2,fun ds srcs pts vs' hp=>ta.dat (S:=S) (fun hs=>by simp) ⟨vs,e,k1⟩ t1 hp,h⟩
     ·simp[Rd.Runs]at h
   |tup rs=>simp[Rd.Runs]at h
theorem oO (hS:aP cx G g a w){isP:TypeId->Bool}{α:Type}:∀ (ts:List TypeId) (xs:List Operand) (k:List DV->List (Nat×Nat)->List k7->Rd α) (ls:List Loc) (out:α),(ra fa (lp P) (Fy P) isP ts xs k).Runs g ls out->
 ∃ ds srcs pts ls',ta G g w ds srcs pts (xs.map a.eval)/\(k ds srcs pts).Runs g ls' out
 |[],[],k,ls,out,h=>⟨[],[],[],ls,.nil,h⟩
 |[],_::_,k,ls,out,h=>h.elim
 |_::_,[],k,ls,out,h=>h.elim
 | t::ts,x::xs,k,ls,out,h=>by
   simp only[ra]at h;obtain⟨d,src,pt,ls2,k1,h⟩:=DR hS h;obtain⟨ds,srcs,pts,ls3,k2,h⟩:=oO hS ts xs _ _ _ h;exact⟨_,_,_,ls3,k1 _ _ _ _ k2,h⟩
open Classical in
noncomputable def paOf (G:Gh)(w:World)(p:k7):fM where
 b:=((G.loc p.1).getD (0,0)).1
 off:=((G.loc p.1).getD (0,0)).2+p.2.1
 hs:=p.2.2
 val:=fun i=>G.val p.1 (p.2.1+i)
 fp:=fun i=>match p.2.2[i]? with
  |some (.own _)=>G.fp p.1 (p.2.1+i)
  |some (.ro l)=>if h:∃ S,bM w l (G.val p.1 (p.2.1+i)) S/\∀ b∈S,G.ow b=some .ro then h.choose else[]
  |_=>[]
theorem ta.mem {ds:List DV}{srcs:List (Nat×Nat)}{pts:List k7}{vs:List Value}(h:ta G g w ds srcs pts vs):∀ p∈pts,F1 G g p:=by
 induction h with
 |nil=>intro p hp;cases hp
 |dat _ _ _ _ ih=>exact ih
 | ptr h _ _ ih=>
   intro p hp;rcases Zl.1 hp with rfl|hp;exact h;exact ih p hp
theorem ta.args {ok:Nat->Prop}{ds:List DV}{srcs:List (Nat×Nat)}{pts:List k7}{vs:List Value}(h:ta G g w ds srcs pts vs)(hok:∀ b,(G.ow b=some .ro\/∃ r j,(r,j)∈srcs/\G.ow b=some (.leaf r j))->ok b):ga w ok ds vs (pts.map (paOf G w)):=by
 induction h with
 |nil=>exact⟨rfl,rfl⟩
 | @dat d v S src ds srcs pts vs hd h ht hs ih=>
   have h1:ga w ok ds vs (pts.map (paOf G w)):=ih (fun b hb=>hok b (by
    rcases hb with q|⟨r,j,q1,q2⟩;exact .inl q
    ·exact .inr ⟨r,j,by simp[q1],q2⟩))
   have h2:∀ b∈S,ok b:=fun b hb=>hok b (by
    rcases ht b hb with q|⟨r,j,q1,q2⟩;exact .inl q
    ·exact .inr ⟨r,j,by simp[q1],q2⟩)
   cases d with
   |mp hs=>exact absurd rfl (hd hs)
   |one l=>exact⟨v,vs,S,rfl,h,h2,h1⟩
   |agg l=>exact⟨v,vs,S,rfl,h,h2,h1⟩
   |ptr l=>exact⟨v,vs,S,rfl,h,h2,h1⟩
   |fn f l=>exact⟨v,vs,S,rfl,h,h2,h1⟩
 | @ptr p b off ds srcs pts vs h h0 hs ih=>
   refine⟨paOf G w p,_,vs,?_,rfl,rfl,ih hok⟩;simp[paOf,h0]
theorem rh (hS:aP cx G g a w){p:k7}(hp:F1 G g p){i:Nat}{l:L}(h:p.2.2[i]?=some (.own l)):
 (paOf G w p).fp i=G.fp p.1 (p.2.1+i)/\bM w l (G.val p.1 (p.2.1+i)) (G.fp p.1 (p.2.1+i))/\(G.fp p.1 (p.2.1+i)).Nodup/\∀ b∈G.fp p.1 (p.2.1+i),G.ow b=some (.leaf p.1 (p.2.1+i))/\eh w b:=by
 obtain⟨_,hv,e1,e2⟩:=hp.2.2 i _ h;have:=hS.hok (au.2 e1);simp only[dN,e2]at this;exact⟨by simp[paOf,h],this⟩
theorem LP (hS:aP cx G g a w){p:k7}(hp:F1 G g p){i:Nat}{l:L}(h:p.2.2[i]?=some (.ro l)):
 bM w l (G.val p.1 (p.2.1+i)) ((paOf G w p).fp i)/\∀ b∈(paOf G w p).fp i,G.ow b=some .ro:=by
 obtain⟨_,hv,e1,e2⟩:=hp.2.2 i _ h;have hx:=hS.hok (au.2 e1);simp only[dN,e2]at hx;have:(paOf G w p).fp i=hx.choose:=by simp only[paOf,h];rw[dif_pos hx]
 rw[this];exact hx.choose_spec
theorem uW (hS:aP cx G g a w){pts:List k7}(hp:∀ p∈pts,F1 G g p){b:Nat}(h:lN (pts.map (paOf G w)) b):
 ∃ p∈pts,∃ (i:Nat) (l:L),p.2.2[i]?=some (.own l)/\b∈G.fp p.1 (p.2.1+i)/\G.ow b=some (.leaf p.1 (p.2.1+i)):=by
 obtain⟨q,hq,i,l,h1,h2⟩:=h;obtain⟨p,hpm,rfl⟩:=ZW.1 hq;obtain⟨e1,e2,e3,e4⟩:=rh hS (hp p hpm) h1;rw[e1]at h2;exact⟨p,hpm,i,l,h1,h2,(e4 b h2).1⟩
theorem uZ (hS:aP cx G g a w){pts:List k7}(hp:∀ p∈pts,F1 G g p){b:Nat}(h:pu (pts.map (paOf G w)) b):
 ∃ p∈pts,∃ off,G.loc p.1=some (b,off)/\G.ow b=some (.box (G.lead p.1)):=by
 obtain⟨q,hq,rfl⟩:=h;obtain⟨p,hpm,rfl⟩:=ZW.1 hq;obtain⟨⟨b,off,h0⟩,_⟩:=hp p hpm;obtain⟨k,hk⟩:=hS.noloc _ _ h0;obtain⟨b',off',cur,ty,f1,f2,_⟩:=hS.boxes _ k hk;rw[h0]at f1;cases f1;exact⟨p,hpm,off,by simp[paOf,h0],by simpa[paOf,h0]using f2⟩
theorem aco (hS:aP cx G g a w){ds:List DV}{srcs:List (Nat×Nat)}{pts:List k7}{vs:List Value}(h:ta G g w ds srcs pts vs)(hr:nO pts=true)(hs:∀ s∈srcs,∀ p∈pts,Bl s p=false):
 OK w ds vs (pts.map (paOf G w)):=by
 have hp:=h.mem;have lt:∀ p∈pts,∀ i:Nat,i<p.2.2.length->∃ hv,g (.leaf p.1 (p.2.1+i))=some (.h hv):=by
  intro p hpm i hi;obtain⟨_,hv,e,_⟩:=(hp p hpm).2.2 i _ (Zu hi);exact⟨hv,e⟩
 have noBoth:∀ b,(G.ow b=some .ro\/∃ r j,(r,j)∈srcs/\G.ow b=some (.leaf r j))->¬ lN (pts.map (paOf G w)) b/\¬ pu (pts.map (paOf G w)) b:=by
  intro b hb;refine⟨fun ho=>?_,fun ho=>?_⟩
  ·obtain⟨p,hpm,i,l,h1,h2,h3⟩:=uW hS hp ho;rcases hb with q|⟨r,j,q1,q2⟩
   ·rw[q]at h3;cases h3
   ·rw[q2]at h3;cases h3;have:=hs _ q1 p hpm;rw[Vh]at this;exact this (Io.2 ⟨rfl,by omega,by have:=(ZC.1 h1).1;simp only;omega⟩)
  ·obtain⟨p,hpm,off,h1,h2⟩:=uZ hS hp ho;rcases hb with q|⟨r,j,q1,q2⟩
   ·rw[q]at h2;cases h2
   ·rw[q2]at h2;cases h2
 refine⟨h.args noBoth,?_,?_,?_,?_,?_,?_,?_⟩
 ·intro q hq;obtain⟨p,hpm,rfl⟩:=ZW.1 hq;obtain⟨⟨b,off,h0⟩,hpos,_⟩:=hp p hpm;obtain⟨k,hk⟩:=hS.noloc _ _ h0;obtain⟨b',off',cur,ty,f1,f2,f3,f4,f5⟩:=hS.boxes _ k hk;rw[h0]at f1;cases f1;have hlt:∀ i,i<p.2.2.length->p.2.1+i<k:=by
   intro i hi;obtain⟨hv,e⟩:=lt p hpm i hi;obtain⟨_,k',bx,_,e2,e3,_⟩:=hS.leaf _ _ _ e;rw[hk]at e2;cases e2;exact e3
  refine⟨cur,ty,by simpa[paOf,h0]using f3,?_,fun j hj=>?_⟩
  ·have:=hlt (p.2.2.length-1) (by omega);simp only[paOf,h0,ZZ];omega
  ·have:=f5 _ (hlt j hj);simp only[paOf,h0,ZZ];rw[show off+p.2.1+j=off+(p.2.1+j)from by omega];exact this
 ·intro q hq j l hl;obtain⟨p,hpm,rfl⟩:=ZW.1 hq;obtain⟨e1,e2,e3,e4⟩:=rh hS (hp p hpm) hl;rw[e1];exact⟨e2,e3,fun b hb=>(e4 b hb).2⟩
 ·intro q hq j l hl;obtain⟨p,hpm,rfl⟩:=ZW.1 hq;obtain⟨e1,e2⟩:=LP hS (hp p hpm) hl;exact⟨e1,fun b hb=>noBoth b (.inl (e2 b hb))⟩
 ·intro q hq j hj;obtain⟨p,hpm,rfl⟩:=ZW.1 hq;exact((hp p hpm).2.2 j _ hj).1 rfl
 ·intro i j i' j' q q' l l' h1 h2 h3 h4 hne b hb hb';rw[ZE,ZA]at h1 h2;obtain⟨p,m1,rfl⟩:=h1;obtain⟨p',m2,rfl⟩:=h2;obtain⟨e1,_,_,e4⟩:=rh hS (hp p (Zy m1)) h3;obtain⟨e1',_,_,e4'⟩:=rh hS (hp p' (Zy m2)) h4;rw[e1]at hb;rw[e1']at hb';have t1:=(e4 b hb).1;have t2:=(e4' b hb').1;rw[t1]at t2;simp only[Ya,Tok.leaf.injEq]at t2;have l1:=(ZC.1 h3).1;have l2:=(ZC.1 h4).1;simp only[paOf]at l1 l2;by_cases c:i=i'
  ·subst c;rw[m1]at m2;cases m2;exact hne (by rw[show j=j' from by omega])
  ·rcases wE hr c m1 m2 with k|k|k<;>omega
 ·intro i i' q q' hne h1 h2 hb;rw[ZE,ZA]at h1 h2;obtain⟨p,m1,rfl⟩:=h1;obtain⟨p',m2,rfl⟩:=h2;obtain⟨⟨b,off,h0⟩,hpos,_⟩:=hp p (Zy m1);obtain⟨⟨b',off',h0'⟩,hpos',_⟩:=hp p' (Zy m2);simp only[paOf,h0,h0',ZZ]at hb ⊢;subst hb;obtain⟨k,hk⟩:=hS.noloc _ _ h0;obtain⟨k',hk'⟩:=hS.noloc _ _ h0';have hlt:∀ (p:k7) (k:Nat),p∈pts->0<p.2.2.length->g (.meta_ p.1)=some (.m k true)->p.2.1+p.2.2.length<=k:=by
   intro p k hpm hpos hk;obtain⟨hv,e⟩:=lt p hpm (p.2.2.length-1) (by omega);obtain⟨_,k',bx,_,e2,e3,_⟩:=hS.leaf _ _ _ e;rw[hk]at e2;cases e2;omega
  have l1:=hlt p k (Zy m1) hpos hk;have l2:=hlt p' k' (Zy m2) hpos' hk';by_cases c:p.1=p'.1
  ·rw[c,h0']at h0;cases h0;rcases wE hr hne m1 m2 with q|q|q;exact absurd c q
   ·left;omega
   ·right;omega
  ·rcases hS.sep _ _ k k' b off off' c hk hk' h0 h0' with q|q
   ·left;omega
   ·right;omega
 ·intro b hb ho;obtain⟨p,hpm,i,l,h1,h2,h3⟩:=uW hS hp ho;obtain⟨p',hpm',off,h4,h5⟩:=uZ hS hp hb;rw[h3]at h5;cases h5
end
end Go.V
namespace Go.V
theorem td:∀ (ws:List W) (g:Gm),(∀ x∈ws,∃ r j h,x=W.leaf r j h)->(∀ e,aU g ws (.reg e)=g (.reg e))/\(∀ r,aU g ws (.meta_ r)=g (.meta_ r))/\
 ∀ r j,(∃ h,W.leaf r j h∈ws/\aU g ws (.leaf r j)=some (.h h))\/((∀ h,W.leaf r j h∉ws)/\aU g ws (.leaf r j)=g (.leaf r j))
 |[],g,_=>⟨fun _=>rfl,fun _=>rfl,fun r j=>.inr ⟨by simp,rfl⟩⟩
 | x::ws,g,h=>by
   obtain⟨r0,j0,h0,rfl⟩:=h x (by simp);obtain⟨a1,a2,a3⟩:=td ws ((W.leaf r0 j0 h0).app g) (fun y hy=>h y (by simp[hy]));simp only[aU];refine⟨fun e=>by rw[a1];simp[W.app],fun r=>by rw[a2];simp[W.app],fun r j=>?_⟩;rcases a3 r j with⟨h1,q1,q2⟩|⟨q1,q2⟩;exact .inl ⟨h1,by simp[q1],q2⟩
   ·by_cases c:r=r0/\j=j0
    ·obtain⟨rfl,rfl⟩:=c;exact .inl ⟨h0,by simp,by rw[q2];simp[W.app]⟩
    ·refine .inr ⟨fun h' hm=>?_,by rw[q2];simp[W.app];intro e1 e2;exact absurd ⟨e1,e2⟩ c⟩;rcases Zl.1 hm with e|e
     ·cases e;exact c ⟨rfl,rfl⟩
     ·exact q1 h' e
section
variable {P: Program} {o: Oper} {cx: Cx} {G: Gh} {g: Gm} {a: Act} {w: World}
theorem qe {α:Type}{r:Nat}:∀ (hs os:List H) (j:Nat) (k:List W->Rd α) (ls:List Loc) (out:α),(JO r j hs os k).Runs g ls out->
 ∃ ws ls',(k ws).Runs g ls' out/\os.length=hs.length/\(∀ i:Nat,os[i]?≠some .gone)/\
  (∀ x∈ws,∃ i l hv,os[i]?=some (.own l)/\g (.leaf r (j+i))=some (.h hv)/\x=W.leaf r (j+i) ⟨hv.ver+1,hv.iv+1,none,.own l⟩)/\
  (∀ (i:Nat) l,os[i]?=some (.own l)->∃ hv,g (.leaf r (j+i))=some (.h hv)/\W.leaf r (j+i) ⟨hv.ver+1,hv.iv+1,none,.own l⟩∈ws)
 |[],[],j,k,ls,out,h=>⟨[],ls,h,rfl,by simp,by simp,by simp⟩
 |[],_::_,j,k,ls,out,h=>h.elim
 |_::_,[],j,k,ls,out,h=>h.elim
 | h0::hs,o0::os,j,k,ls,out,h=>by
   cases o0 with
   |gone=>exact h.elim
   | ro l0=>
     cases h0 with
     | ro l1=>
       obtain⟨ws,ls',e1,e2,e3,e4,e5⟩:=qe hs os (j+1) k ls out h;refine⟨ws,ls',e1,by simp[e2],fun i=>?_,fun x hx=>?_,fun i l hi=>?_⟩
       ·cases i with
        |zero=>simp
        |succ i=>simpa using e3 i
       ·obtain⟨i,l,hv,q1,q2,q3⟩:=e4 x hx;exact⟨i+1,l,hv,by simpa using q1,by rw[show j+(i+1)=j+1+i from by omega];exact q2,by rw[show j+(i+1)=j+1+i from by omega];exact q3⟩
       ·cases i with
        |zero=>simp at hi
        | succ i=>
          rw[show j+(i+1)=j+1+i from by omega];exact e5 i l (by simpa using hi)
     |own l1=>exact h.elim
     |gone=>exact h.elim
   | own l0=>
     obtain⟨hv,ls2,_,q2,hk⟩:=bD (k:=fun hv=>JO r (j+1) hs os fun ws=>k (.leaf r j ⟨hv.ver+1,hv.iv+1,none,.own l0⟩::ws)) h;obtain⟨ws,ls',e1,e2,e3,e4,e5⟩:=qe hs os (j+1) _ _ _ hk;refine⟨_,ls',e1,by simp[e2],fun i=>?_,fun x hx=>?_,fun i l hi=>?_⟩
     ·cases i with
      |zero=>simp
      |succ i=>simpa using e3 i
     ·rcases Zl.1 hx with rfl|hx;exact⟨0,l0,hv,by simp,q2,rfl⟩
      ·obtain⟨i,l,hv,q1,q2,q3⟩:=e4 x hx;exact⟨i+1,l,hv,by simpa using q1,by rw[show j+(i+1)=j+1+i from by omega];exact q2,by rw[show j+(i+1)=j+1+i from by omega];exact q3⟩
     ·cases i with
      |zero=>simp at hi;subst hi;exact⟨hv,q2,by simp⟩
      | succ i=>
        rw[show j+(i+1)=j+1+i from by omega];obtain⟨hv',p1,p2⟩:=e5 i l (by simpa using hi);exact⟨hv',p1,by simp[p2]⟩
theorem wV {α:Type}:∀ (pts:List k7) (outs:List (List H)) (k:List W->Rd α) (ls:List Loc) (out:α),(GG pts outs k).Runs g ls out->
 ∃ ws ls',(k ws).Runs g ls' out/\outs.length=pts.length/\
  (∀ x∈ws,∃ (n:Nat) (p:k7) (os:List H) (i:Nat) (l:L) (hv:Hv),pts[n]?=some p/\outs[n]?=some os/\os[i]?=some (.own l)/\g (.leaf p.1 (p.2.1+i))=some (.h hv)/\x=W.leaf p.1 (p.2.1+i) ⟨hv.ver+1,hv.iv+1,none,.own l⟩)/\
  (∀ (n:Nat) p os,pts[n]?=some p->outs[n]?=some os->∀ (i:Nat) l,os[i]?=some (.own l)->∃ hv,g (.leaf p.1 (p.2.1+i))=some (.h hv)/\W.leaf p.1 (p.2.1+i) ⟨hv.ver+1,hv.iv+1,none,.own l⟩∈ws)
 |[],[],k,ls,out,h=>⟨[],ls,h,rfl,by simp,by simp⟩
 |[],_::_,k,ls,out,h=>h.elim
 |_::_,[],k,ls,out,h=>h.elim
 | p::pts,os::oss,k,ls,out,h=>by
   obtain⟨w1,ls1,h1,_,_,e4,e5⟩:=qe _ _ _ _ _ _ h;obtain⟨w2,ls2,h2,e6,e7,e8⟩:=wV pts oss _ _ _ h1;refine⟨_,ls2,h2,by simp[e6],fun x hx=>?_,fun n p' os' hn ho i l hi=>?_⟩
   ·rcases Zg.1 hx with hx|hx
    ·obtain⟨i,l,hv,q1,q2,q3⟩:=e4 x hx;exact⟨0,p,os,i,l,hv,by simp,by simp,q1,q2,q3⟩
    ·obtain⟨n,p',os',i,l,hv,q0,q1,q2⟩:=e7 x hx;exact⟨n+1,p',os',i,l,hv,by simpa using q0,by simpa using q1,q2⟩
   ·cases n with
    | zero=>
      simp at hn ho;subst hn ho;obtain⟨hv,q1,q2⟩:=e5 i l hi;exact⟨hv,q1,by simp[q2]⟩
    | succ n=>
      simp at hn ho;obtain⟨hv,q1,q2⟩:=e8 n p' os' hn ho i l hi;exact⟨hv,q1,by simp[q2]⟩
def Kn (g:Gm)(pts:List k7)(ps':List fM)(r j:Nat)(x:Hv×Value×List Nat):Prop:=
 ∃ (n:Nat) (p:k7) (q:fM) (i:Nat) (l:L) (hv:Hv),pts[n]?=some p/\ps'[n]?=some q/\r=p.1/\j=p.2.1+i/\i<p.2.2.length/\q.hs[i]?=some (.own l)/\g (.leaf r j)=some (.h hv)/\x=(⟨hv.ver+1,hv.iv+1,none,.own l⟩,q.val i,q.fp i)
theorem Kn.same {pts:List k7}(hr:nO pts=true){ps':List fM}{r j n n':Nat}{p p':k7}{i i':Nat}(h1:pts[n]?=some p)(h2:pts[n']?=some p')(e1:r=p.1)(e2:r=p'.1)(e3:j=p.2.1+i)(e4:j=p'.2.1+i')(l1:i<p.2.2.length)(l2:i'<p'.2.2.length):n=n'/\p=p'/\i=i':=by
 by_cases c:n=n'
 ·subst c;rw[h1]at h2;cases h2;exact⟨rfl,rfl,by omega⟩
 ·rcases wE hr c h1 h2 with q|q|q;exact absurd (e1.symm.trans e2) q;omega;omega
theorem Kn.unique {pts:List k7}(hr:nO pts=true){ps':List fM}{r j:Nat}{x y:Hv×Value×List Nat}(h1:Kn g pts ps' r j x)(h2:Kn g pts ps' r j y):x=y:=by
 obtain⟨n,p,q,i,l,hv,a1,a2,a3,a4,a5,a6,a7,rfl⟩:=h1;obtain⟨n',p',q',i',l',hv',b1,b2,b3,b4,b5,b6,b7,rfl⟩:=h2;obtain⟨rfl,rfl,rfl⟩:=Kn.same hr (ps':=ps') a1 b1 a3 b3 a4 b4 a5 b5;rw[a2]at b2;cases b2;rw[a6]at b6;cases b6;rw[a7]at b7;cases b7;rfl
open Classical in
noncomputable def uP (g:Gm)(pts:List k7)(ps':List fM):UpP:=fun r j=>if h:∃ x,Kn g pts ps' r j x then some h.choose else none
theorem Mv {pts:List k7}(hr:nO pts=true){ps':List fM}{r j:Nat}{x:Hv×Value×List Nat}:uP g pts ps' r j=some x↔Kn g pts ps' r j x:=by
 unfold uP
 constructor
 ·intro e;split at e
  ·rename_i h;cases e;exact h.choose_spec
  ·cases e
 ·intro h;rw[dif_pos ⟨x,h⟩];exact congrArg some (Kn.unique hr (Exists.choose_spec (⟨x,h⟩:∃ x,Kn g pts ps' r j x)) h)
variable {ls: List Loc} {ws: List W} {K: Act -> World -> Prop} {Q: Exit -> Act -> World -> Prop}
def BW (pr:(Unit->Prop)->Prop)(n:Nat)(d:Option Tmp)(ds:List DV)(srcs:List (Nat×Nat))(pts:List k7)(mk:PK)(rw:Nat->List DV->List W):Rd Out:=
 match mk ds with
 | some (pre,outs,res)=>if nO pts&&srcs.all (fun s=>pts.all fun p=> !Bl s p)then .req (pr pre) (GG pts outs fun ws=>match d with
    |some _=>fresh n d fun d=>.ret (.ws (ws++rw d res))
    |none=>.ret (.ws ws))else .fail
 |none=>.fail
theorem tT {f:FuncId}{ds:List DV}{srcs:List (Nat×Nat)}{pts:List k7}{vs:List Value}(hS:aP cx G g a w)(hargs:ta G g w ds srcs pts vs)(hex:(execOp a.eval o).run P w=.ok (.enter f vs.toArray) w){mk:PK} 
 (hc:∀ ds pre outs res,mk ds=some (pre,outs,res)->pre ()->xy P f ds outs res) (h:(BW mf cx.n o.dst ds srcs pts mk dC).Runs g ls (.ws ws))
 (hk:∀ a' w',d6 cx (aU g ws) a' w'->K a' w'):o.wp P a w K Q:=by
 unfold BW at h;split at h
 case h_2=>exact h.elim
 rename_i pre outs res hmk;split at h
 case isFalse=>exact h.elim
 rename_i hcond;simp only[Zc]at hcond;obtain⟨hrng,hsrc⟩:=hcond;have hsrc':∀ s∈srcs,∀ p∈pts,Bl s p=false:=by
  intro s hs p hp;have:=Z6.1 (Z6.1 hsrc s hs) p hp
  simpa using this
 obtain⟨hpre,h⟩:=h;obtain⟨w1,ls2,h,hol,u1,u2⟩:=wV _ _ _ _ _ h;have hp:=hargs.mem;unfold YK;rw[hex];simp only[Y6];have hcall:=hc ds pre outs res hmk hpre w vs _ (aco hS hargs hrng hsrc');refine hcall.mono ?_;rintro e w' ⟨v,Sr,ps',rfl,hres,hpost⟩;have plen:ps'.length=pts.length:=by rw[hpost.len,YQ]
 have at_:∀ (n:Nat) p,pts[n]?=some p->∃ q,ps'[n]?=some q/\q.b=(paOf G w p).b/\q.off=(paOf G w p).off/\outs[n]?=some q.hs/\q.hs.length=p.2.2.length:=by
  intro n p hn;have hlt:n<ps'.length:=by rw[plen];exact(ZC.1 hn).1
  have:=hpost.same n (paOf G w p) ps'[n] (by rw[ZE,hn];rfl) (Zu hlt);exact⟨ps'[n],Zu hlt,this⟩
 have uS:=fun {r j x}=>Mv (g:=g) hrng (ps':=ps') (r:=r) (j:=j) (x:=x)
 have hl1:∀ x∈w1,∃ r j h,x=W.leaf r j h:=by
  intro x hx;obtain⟨n,p,os,i,l,hv,_,_,_,_,rfl⟩:=u1 x hx;exact⟨_,_,_,rfl⟩
 obtain⟨a1,a2,a3⟩:=td w1 g hl1;have a4:∀ r j,aU g w1 (.leaf r j)=match uP g pts ps' r j with
  |some x=>some (.h x.1)
  |none=>g (.leaf r j):=by
  intro r j;rcases a3 r j with⟨h0,q1,q2⟩|⟨q1,q2⟩
  ·obtain⟨n,p,os,i,l,hv,z1,z2,z3,z4,z5⟩:=u1 _ q1;cases z5;obtain⟨q,y1,y2,y3,y4,y5⟩:=at_ n p z1;rw[z2]at y4;cases y4;have hx:uP g pts ps' p.1 (p.2.1+i)=some (⟨hv.ver+1,hv.iv+1,none,.own l⟩,q.val i,q.fp i):=uS.2 ⟨n,p,q,i,l,hv,z1,y1,rfl,rfl,by rw[<-y5];exact(ZC.1 z3).1,z3,z4,rfl⟩;rw[q2,hx]
  ·cases hx:uP g pts ps' r j with
   |none=>exact q2
   | some x=>
     exfalso;obtain⟨n,p,q,i,l,hv,z1,z2,z3,z4,z5,z6,z7,z8⟩:=uS.1 hx;obtain⟨q',y1,y2,y3,y4,y5⟩:=at_ n p z1;rw[z2]at y1;cases y1;obtain⟨hv',m1,m2⟩:=u2 n p q.hs z1 y4 i l z6;subst z3 z4;exact q1 _ m2
 obtain⟨vs,lv,hlv,hv⟩:∃ vs lv,yO w' res vs lv Sr/\((∃ dv,res=[dv]/\vs=[v])\/v=.tuple vs.toArray/\∀ dv,res≠[dv]):=by
  cases res with
  |nil=>obtain⟨vs,e,h2⟩:=hres;obtain⟨lv,k⟩:=bW.lv h2;exact⟨vs,lv,k,.inr ⟨e,fun dv e=>by cases e⟩⟩
  | cons d1 rest=>
    cases rest with
    | nil=>
      have h2:bW w' [d1] [v] Sr:=by simp only[bW];exact⟨v,[],Sr,[],rfl,hres,⟨rfl,rfl⟩,by simp⟩
      obtain⟨lv,k⟩:=bW.lv h2;exact⟨[v],lv,k,.inl ⟨d1,rfl,rfl⟩⟩
    |cons d2 rest=>obtain⟨vs,e,h2⟩:=hres;obtain⟨lv,k⟩:=bW.lv h2;exact⟨vs,lv,k,.inr ⟨e,fun dv e=>by cases e⟩⟩
 have hrec:=hlv.rec_;obtain⟨Ss,s1,s2,s3⟩:=hrec.items;have hnd:Ss.flatten.Nodup:=by rw[s1];exact hpost.res.1
 have own_tok:∀ b,lN (pts.map (paOf G w)) b->∃ r j x h l,uP g pts ps' r j=some x/\g (.leaf r j)=some (.h h)/\h.c=.own l/\b∈G.fp r j:=by
  intro b hb;obtain⟨p,hpm,i,l,h1,h2,h3⟩:=uW hS hp hb;obtain⟨_,hv,e1,e2⟩:=(hp p hpm).2.2 i _ h1;obtain⟨n,hn⟩:=YA hpm;obtain⟨q,y1,y2,y3,y4,y5⟩:=at_ n p hn;have hi:i<p.2.2.length:=(ZC.1 h1).1;have hq:i<q.hs.length:=by omega
  cases hc:q.hs[i]with
  |gone=>exact absurd (by rw[Zu hq,hc]) (hpost.gone q (Zy y1) i)
  | ro l'=>
    exfalso;have:=hpost.ro n (paOf G w p) q i l' (by rw[ZE,hn];rfl) y1 (by rw[Zu hq,hc]);simp only[paOf]at this;rw[h1]at this;cases this.1
  | own l'=>
    exact⟨p.1,p.2.1+i,_,hv,l,uS.2 ⟨n,p,q,i,l',hv,hn,y1,rfl,rfl,hi,by rw[Zu hq,hc],e1,rfl⟩,e1,e2,h2⟩
 have cellSame:∀ b cur cur' ty ty',w.heap[b]?=some (.cells cur ty (0,0))->w'.heap[b]?=some (.cells cur' ty' (0,0))->(∀ i,(∀ p∈pts.map (paOf G w),p.b=b->i<p.off\/p.off+p.hs.length<=i)->cur'[i]?=cur[i]?)->
  ∀ i0,(∀ (n:Nat) (p:k7) (q:fM) (i:Nat) (l:L),pts[n]?=some p->ps'[n]?=some q->(paOf G w p).b=b->q.hs[i]?=some (.own l)->i0≠(paOf G w p).off+i)->cur'[i0]?=cur[i0]?:=by
  intro b cur cur' ty ty' k1 k2 k4 i0 hi0;by_cases c:∃ (n:Nat) (p:k7),pts[n]?=some p/\(paOf G w p).b=b/\(paOf G w p).off<=i0/\i0<(paOf G w p).off+p.2.2.length
  ·obtain⟨n,p,hn,hb,c1,c2⟩:=c;obtain⟨q,y1,y2,y3,y4,y5⟩:=at_ n p hn;have hq:i0- (paOf G w p).off<q.hs.length:=by omega
   have hpa:paOf G w p∈pts.map (paOf G w):=ZW.2 ⟨p,Zy hn,rfl⟩;cases hc:q.hs[i0- (paOf G w p).off]with
   |gone=>exact absurd (by rw[Zu hq,hc]) (hpost.gone q (Zy y1) _)
   |own l=>exact absurd (show i0=(paOf G w p).off+(i0- (paOf G w p).off)by omega) (hi0 n p q _ l hn y1 hb (by rw[Zu hq,hc]))
   | ro l=>
     have hr:=hpost.ro n (paOf G w p) q _ l (by rw[ZE,hn];rfl) y1 (by rw[Zu hq,hc]);obtain⟨cur2,ty2,m1,m2⟩:=hpost.cell q (Zy y1);obtain⟨cur3,ty3,m3,_,m4⟩:=(aco hS hargs hrng hsrc').cell _ hpa;rw[y2,hb,k2]at m1;cases m1;rw[hb,k1]at m3;cases m3;have e1:=m2 _ hq;have e2:=m4 (i0- (paOf G w p).off) (by show _<p.2.2.length;omega);rw[y3,show(paOf G w p).off+(i0- (paOf G w p).off)=i0 from by omega]at e1;rw[show(paOf G w p).off+(i0- (paOf G w p).off)=i0 from by omega]at e2;rw[e1,e2,hr.2]
  ·refine k4 i0 (fun q hq hb=>?_);obtain⟨p,hpm,rfl⟩:=ZW.1 hq;obtain⟨n,hn⟩:=YA hpm;rcases Yb i0 (paOf G w p).off with d|d;exact .inl d
   ·refine .inr (Nat.le_of_not_lt fun d2=>c ⟨n,p,hn,hb,d,d2⟩)
 have main:∀ (nr:Option Nat) (hs:List Hv) (g':Gm),(∀ d,nr=some d->g (.meta_ d)=none/\hs=(res.flatMap bK).map fun l=>(⟨0,0,none,.own l⟩:Hv))->(nr=none->hs=[])->
  (∀ e,g' (.reg e)=g (.reg e))->(∀ r,g' (.meta_ r)=if nr=some r then some (.m hs.length false)else g (.meta_ r))->
  (∀ r j,g' (.leaf r j)=if nr=some r then(hs[j]?).map .h else match uP g pts ps' r j with
    |some x=>some (.h x.1)
    |none=>g (.leaf r j))->∃ G',aP cx G' g' a w'/\(∀ d,nr=some d->∀ j,G'.val d j=lv.getD j undef):=by
  intro nr hs g' hdn hnr hgr hgm hgl;have hlen:hs.length<=Ss.length:=by
   cases e:nr with
   |none=>rw[hnr e];simp
   |some d=>rw[(hdn d e).2,YQ,s2];exact Ze _
  have tokNF:∀ j,∀ b∈Ss.getD j [],b∈Sr:=fun j b hb=>by rw[<-s1];exact fX hb
  refine hS.callP (uP g pts ps') nr (fun d e=>(hdn d e).1) hs hnr w' g' hgr hgm hgl hpost.frame.os hpost.frame.tape hpost.frame.output hpost.frame.size ?_ ?_ ?_ ?_ (fun j=>lv.getD j undef) (fun j=>Ss.getD j []) ?_ ?_ ?_ ?_ ?_
  ·intro b hb h1 h2;refine VL fun hne=>?_
   refine hne (hpost.frame.block b hb ⟨fun ho=>?_,fun ho=>?_⟩)
   ·obtain⟨r,j,x,h0,l,q1,q2,q3,q4⟩:=own_tok b ho;exact h1 r j x h0 l q1 q2 q3 q4
   ·obtain⟨p,hpm,off,q1,q2⟩:=uZ hS hp ho;obtain⟨n,hn⟩:=YA hpm;obtain⟨q,y1,y2,y3,y4,y5⟩:=at_ n p hn;by_cases c:∃ (n:Nat) (p:k7) (q:fM) (i:Nat) (l:L),pts[n]?=some p/\ps'[n]?=some q/\(paOf G w p).b=b/\q.hs[i]?=some (.own l)
    ·obtain⟨n,p,q,i,l,c1,c2,c3,c4⟩:=c;have hpm:=Zy c1;obtain⟨⟨b',off',h0⟩,_⟩:=hp p hpm;have hb':b'=b:=by simpa[paOf,h0]using c3
     subst hb';obtain⟨q',y1,y2,y3,y4,y5⟩:=at_ n p c1;rw[c2]at y1;cases y1;have hi:i<p.2.2.length:=by rw[<-y5];exact(ZC.1 c4).1
     obtain⟨_,hv,e1,e2⟩:=(hp p hpm).2.2 i _ (Zu hi);exact h2 p.1 (p.2.1+i) _ off' (uS.2 ⟨n,p,q,i,l,hv,c1,c2,rfl,rfl,hi,c4,e1,rfl⟩) h0
    ·exfalso;obtain⟨cur,cur',ty,k1,k2,k3,k4⟩:=hpost.blk b ho;refine hne ?_;rw[k1,k2];have:cur'=cur:=Array.ext_getElem? fun i=>cellSame b cur cur' ty ty k1 k2 k4 i (fun n p q i l z1 z2 z3 z4=>absurd ⟨n,p,q,i,l,z1,z2,z3,z4⟩ c)
     rw[this]
  ·intro r j x hx;obtain⟨n,p,q,i,l,hv,z1,z2,z3,z4,z5,z6,z7,rfl⟩:=uS.1 hx;obtain⟨m1,m2⟩:=hpost.own q (Zy z2) i l z6;exact⟨hv,l,z7,YN _,Nat.le_succ _,rfl,rfl,m1,m2⟩
  ·intro r j x hx;obtain⟨n,p,q,i,l,hv,z1,z2,z3,z4,z5,z6,z7,rfl⟩:=uS.1 hx;obtain⟨⟨b,off,h0⟩,_⟩:=hp p (Zy z1);exact⟨_,by rw[z3];exact h0⟩
  ·intro b r j x off hx hl;obtain⟨n,p,q,i,l,hv,z1,z2,z3,z4,z5,z6,z7,rfl⟩:=uS.1 hx;subst z3 z4;have hPt:pu (pts.map (paOf G w)) b:=⟨paOf G w p,ZW.2 ⟨p,Zy z1,rfl⟩,by simp[paOf,hl]⟩;obtain⟨cur,cur',ty,k1,k2,k3,k4⟩:=hpost.blk b hPt;refine⟨cur,cur',ty,k1,k2,k3,?_,?_⟩
   ·intro r' j' x' off' hx' hl';obtain⟨n',p',q',i',l',hv',z1',z2',rfl,rfl,z5',z6',z7',rfl⟩:=uS.1 hx';obtain⟨q'',y1,y2,y3,y4,y5⟩:=at_ n' p' z1';rw[z2']at y1;cases y1;obtain⟨cur2,ty2,m1,m2⟩:=hpost.cell q' (Zy z2');have hb:q'.b=b:=by rw[y2];simp[paOf,hl']
    have hoff:q'.off=off'+p'.2.1:=by rw[y3];simp[paOf,hl']
    rw[hb,k2]at m1;cases m1;have:=m2 i' (by omega);rw[hoff]at this;rw[show off'+(p'.2.1+i')=off'+p'.2.1+i' from by omega];exact this
   ·intro i0 hi0;refine cellSame b cur cur' ty ty k1 k2 k4 i0 (fun n p q i l z1 z2 z3 z4=>?_);obtain⟨q',y1,y2,y3,y4,y5⟩:=at_ n p z1;rw[z2]at y1;cases y1;have hi:i<p.2.2.length:=by rw[<-y5];exact(ZC.1 z4).1
    have hpm:=Zy z1;obtain⟨⟨b',off',h0⟩,_⟩:=hp p hpm;have hb':b'=b:=by simpa[paOf,h0]using z3
    subst hb';obtain⟨_,hv,e1,e2⟩:=(hp p hpm).2.2 i _ (Zu hi);have:=hi0 p.1 (p.2.1+i) _ off' (uS.2 ⟨n,p,q,i,l,hv,z1,z2,rfl,rfl,hi,z4,e1,rfl⟩) h0;simp only[paOf,h0,ZZ];omega
  ·intro j h hj;cases e:nr with
   |none=>rw[hnr e]at hj;simp at hj
   | some d=>
     rw[(hdn d e).2,ZE,ZA]at hj;obtain⟨l,e1,rfl⟩:=hj;obtain⟨u,q1,q2⟩:=s3 j l e1;exact⟨l,rfl,by simpa[ZF,q1]using q2,jd hnd j⟩
  ·intro b hb;have hb':b∈Sr\/lN ps' b:=by
    rcases hb with⟨j,_,hbj⟩|⟨r,j,x,hx,hbx⟩;exact .inl (tokNF j b hbj)
    ·obtain⟨n,p,q,i,l,hv,z1,z2,z3,z4,z5,z6,z7,rfl⟩:=uS.1 hx;exact .inr ⟨q,Zy z2,i,l,z6,hbx⟩
   obtain⟨k1,k2⟩:=hpost.tok b hb';refine⟨k1,?_⟩;rcases k2 with k2|k2;exact .inl k2;exact .inr (own_tok b k2)
  ·exact fun i j _ _ hij=>fW hnd i j hij
  ·intro i r j x _ hx b hb hbx;obtain⟨n,p,q,i',l,hv,z1,z2,z3,z4,z5,z6,z7,rfl⟩:=uS.1 hx;exact hpost.res.2 b (tokNF i b hb) ⟨q,Zy z2,i',l,z6,hbx⟩
  ·intro r j x r2 j2 x2 hx hx2 hne b hb;obtain⟨n,p,q,i,l,hv,z1,z2,rfl,rfl,z5,z6,z7,rfl⟩:=uS.1 hx;obtain⟨n',p',q',i',l',hv',z1',z2',rfl,rfl,z5',z6',z7',rfl⟩:=uS.1 hx2;refine hpost.disj n i n' i' q q' l l' z2 z2' z6 z6' (fun e=>?_) b hb;cases e;rw[z1]at z1';cases z1';exact hne rfl
 cases hd:o.dst with
 | none=>
   simp only[hd,Rd.Runs,Out.ws.injEq]at h;obtain⟨_,rfl⟩:=h;obtain⟨G',k1,_⟩:=main none [] (aU g ws) (fun d e=>by cases e) (fun _=>rfl) a1 (fun r=>by rw[a2];simp) (fun r j=>by rw[a4];simp);refine hk _ _ ⟨G',?_⟩
   simpa[ZI]using k1
 | some d0=>
   simp only[hd]at h;obtain⟨d,ls3,hd',hlt,hm,h⟩:=cL h;cases hd';simp only[Rd.Runs,Out.ws.injEq]at h;obtain⟨_,rfl⟩:=h;refine hk _ _ ?_;rw[cp];simp only[dC,aU];obtain⟨G',k1,k2⟩:=main (some d0) ((res.flatMap bK).map fun l=>⟨0,0,none,.own l⟩) ((W.root d0 false ((res.flatMap bK).map fun l=>⟨0,0,none,.own l⟩)).app (aU g w1)) (fun d e=>by cases e;exact⟨hm,rfl⟩) (fun e=>by cases e)
    (fun e=>by simp only[W.app];exact a1 e)
    (fun r=>by
      simp only[W.app,Ya,eq_comm (a:=d0)];split;rfl
      ·exact a2 r)
    (fun r j=>by
      simp only[W.app,Ya,eq_comm (a:=d0)];split;rfl
      ·exact a4 r j)
   refine⟨G',k1.put hlt ?_⟩;have hgl:∀ i l,(res.flatMap bK)[i]?=some l->gl ((W.root d0 false ((res.flatMap bK).map fun l=>⟨0,0,none,.own l⟩)).app (aU g w1)) d0 (0+i)=some ⟨0,0,none,.own l⟩:=by
    intro i l e;simp[gl,W.app,e]
   have hval:∀ i u,lv[i]?=some u->G'.val d0 (0+i)=u:=by
    intro i u e;rw[k2 d0 rfl,ZS];simp[ZF,e]
   have hall:=oR (G:=G') res 0 vs lv Sr hlv (fun i l e=>⟨none,hgl i l e⟩) hval;rcases hv with⟨dv,rfl,rfl⟩|⟨rfl,hne⟩
   ·simp only[iC];simp only[kT,iI]at hall;obtain⟨v',vs',e,h1,_⟩:=hall;cases e;exact h1
   ·have:iC d0 res=.tup (kT d0 0 res):=by
     unfold iC;split;exact absurd rfl (hne _);rfl
    rw[this];simp only[cM];exact⟨vs,rfl,hall⟩
theorem Al {f:FuncId}{ts:Array TypeId}{args:Array Operand}(ho:o.op=.call {callee:=.value (.func f),args:=args,argTypes:=ts})(hS:aP cx G g a w){isP:TypeId->Bool}{mk:PK} 
 (hc:∀ ds pre outs res,mk ds=some (pre,outs,res)->pre ()->xy P f ds outs res)
 (h:(sU mf fa (lp P) (Fy P) isP cx.n o.dst (dd P f) ts args mk dC).Runs g ls (.ws ws))
 (hk:∀ a' w',d6 cx (aU g ws) a' w'->K a' w'):o.wp P a w K Q:=by
 unfold sU at h;split at h
 case isFalse=>exact h.elim
 rename_i hbody;obtain⟨ds,srcs,pts,ls1,hargs,h⟩:=oO hS _ _ _ _ _ h;have hex:(execOp a.eval o).run P w=.ok (.enter f (args.toList.map a.eval).toArray) w:=by
  have harr:(args.toList.map a.eval).toArray=args.map a.eval:=by rw[<-Yy,Yz]
  rw[harr];unfold execOp;simp only[ho,resolve,ZK,Y9,ZP,Yn,Z1,invoke,Xa,XF];exact ew hbody _
 exact tT hS hargs hex hc h hk
def vF {α:Type}:List Cu->(List DV->List k7->Rd α)->Rd α
 |[],k=>k [] []
 | .pt r j::cs,k=>.get (.meta_ r) fun
   |some (.m n true)=>if j<n then lZ r j (n-j) fun hs=>vF cs fun ds pts=>k (.mp hs::ds) ((r,j,hs)::pts)else .fail
   |_=>.fail
 | .rp rec j::cs,k=>if j<rec.length then vF cs fun ds pts=>k (.ptr (rec.drop j)::ds) pts else .fail
def pk (pr:(Unit->Prop)->Prop)(al:∀ {β:Type},List (Option Nat)->List A->(aT->Rd β)->Rd β)(ty pty:TypeId->Option TI)(isP:TypeId->Bool)(n:Nat)(d:Option Tmp)(body:FuncId->Bool)(t:Tmp)(ts:Array TypeId)(args:Array Operand)(pt:FuncId->Option PK)(rw:Nat->List DV->List W):Rd Out:=
 fk (.tmp t) fun
  | .fn f caps=>match pt f with
    |some mk=>if body f then ra al ty pty isP ts.toList args.toList fun ds srcs pts=>vF caps fun ds2 pts2=>BW pr n d (ds++ds2) srcs (pts++pts2) mk rw else .fail
    |none=>.fail
  |_=>.fail
theorem ta.append {ds es:List DV}{srcs src2:List (Nat×Nat)}{pts pts2:List k7}{vs us:List Value}(h:ta G g w ds srcs pts vs)(k:ta G g w es src2 pts2 us):ta G g w (ds++es) (srcs++src2) (pts++pts2) (vs++us):=by
 induction h with
 |nil=>exact k
 |dat hd h ht hs ih=>rw[Zp];exact ta.dat hd h ht ih
 |ptr h h0 hs ih=>exact ta.ptr h h0 ih
theorem ou (hS:aP cx G g a w){α:Type}:∀ (cs:List Cu) (ps:List Value) (k:List DV->List k7->Rd α) (ls:List Loc) (out:α),dM G w cs ps->(vF cs k).Runs g ls out->
 ∃ ds pts ls',ta G g w ds [] pts ps/\(k ds pts).Runs g ls' out
 |[],ps,k,ls,out,hc,h=>by simp only[dM]at hc;subst hc;exact⟨[],[],ls,.nil,h⟩
 | .pt r j::cs,ps,k,ls,out,hc,h=>by
   obtain⟨v,vs',rfl,⟨b,off,h0,rfl⟩,hc⟩:=hc;obtain⟨ls1,_,h⟩:=h;simp only at h;split at h
   ·split at h
    ·rename_i hlt;obtain⟨hs,ls2,e1,e2,h⟩:=na _ _ _ _ _ h;obtain⟨ds,pts,ls3,k1,k2⟩:=ou hS cs vs' _ _ _ hc h;refine⟨_,_,ls3,ta.ptr (p:=(r,j,hs)) (b:=b) (off:=off) ⟨⟨b,off,h0⟩,?_,e2⟩ h0 k1,k2⟩;show 0<hs.length;omega
    ·exact h.elim
   ·exact h.elim
 | .rp rec j::cs,ps,k,ls,out,hc,h=>by
   obtain⟨v,vs',rfl,⟨b,off,cur,ty,fz,S,rfl,q1,q2,q3,q4,q5⟩,hc⟩:=hc;simp only[vF]at h;split at h
   ·rename_i hlt;obtain⟨ds,pts,ls3,k1,k2⟩:=ou hS cs vs' _ _ _ hc h;obtain⟨S1,r1,r2⟩:=q4.sub j (rec.length-j);have hd:(rec.drop j).take (rec.length-j)=rec.drop j:=List.take_of_length_le (by simp);rw[hd]at r1;have e:(cur.toList.drop (off+j)).take (rec.drop j).length=(((cur.toList.drop off).take rec.length).drop j).take (rec.length-j):=by
     rw[YS,Y7,Yi,Zn,Nat.min_self]
    have hrd:mh w (.ptr (rec.drop j)) (.pointer (some ⟨b,off+j,none⟩)) (b::S1):=⟨b,off+j,cur,ty,fz,S1,rfl,q1,by simp;omega,by rw[e];exact r1,rfl⟩;refine⟨_,_,ls3,ta.dat (src:=[]) (S:=b::S1) (fun hs=>by simp) hrd (fun c hcb=>?_) k1,k2⟩;rcases Zl.1 hcb with rfl|hcb;exact .inl q2;exact .inl (q5 c (r2 c hcb))
   ·exact h.elim
theorem xM {t:Tmp}{ts:Array TypeId}{args:Array Operand}(ho:o.op=.call {callee:=.value (.tmp t),args:=args,argTypes:=ts})(hS:aP cx G g a w){isP:TypeId->Bool}{pt:FuncId->Option PK} 
 (hc:∀ f mk,pt f=some mk->∀ ds pre outs res,mk ds=some (pre,outs,res)->pre ()->xy P f ds outs res)
 (h:(pk mf fa (lp P) (Fy P) isP cx.n o.dst (dd P) t ts args pt dC).Runs g ls (.ws ws))
 (hk:∀ a' w',d6 cx (aU g ws) a' w'->K a' w'):o.wp P a w K Q:=by
 obtain⟨x0,ls1,hx,h⟩:=bz hS h;cases x0 with
 | fn f caps=>
   obtain⟨ps,e,hcap⟩:=hx;simp only at h;split at h
   case h_2=>exact h.elim
   rename_i mk hmk;split at h
   case isFalse=>exact h.elim
   rename_i hbody;obtain⟨ds,srcs,pts,ls2,hargs,h⟩:=oO hS _ _ _ _ _ h;obtain⟨ds2,pts2,ls3,hcaps,h⟩:=ou hS _ _ _ _ _ hcap h;have hall:=hargs.append hcaps;rw[ZY]at hall;have hex:(execOp a.eval o).run P w=.ok (.enter f (args.toList.map a.eval++ps).toArray) w:=by
    have harr:(args.toList.map a.eval++ps).toArray=args.map a.eval++ps.toArray:=by rw[<-List.append_toArray, <-Yy,Yz]
    rw[harr];unfold execOp;simp only[ho,resolve,e,Y9,ZP,Yn,Z1,invoke,Xa];exact ew hbody _
   exact tT hS hall hex (hc f mk hmk) h hk
 |_=>exact h.elim
end
end Go.V
namespace Go.V
def G5 (X:Nat->Prop)(w:World):H->Value->Prop
 | .own l,v=>bM w l v []
 | .ro l,v=>∃ S,bM w l v S/\∀ c∈S,X c
 | .gone,_=>True
def FZ (P:Program)(f:FuncId)(ds:List DV)(hs:List H):Prop:=
 ∀ (X:Nat->Prop) (w:World) (vs:List Value),dA X w ds vs->
  Calls P f vs.toArray w fun e w'=>∃ b off cur ty,∃ val:Nat->Value,e=.returned (.pointer (some ⟨b,off,none⟩))/\w.heap.size<=b/\w'.heap[b]?=some (.cells cur ty (0,0))/\off+hs.length<=cur.size/\
   (∀ j,j<hs.length->cur[off+j]?=some (val j))/\(∀ j h,hs[j]?=some h->G5 X w' h (val j))/\Same (fun _=>True) w w'
abbrev NK :=List DV->Option ((Unit->Prop)×List H)
def Fp {α:Type}:List Operand->(List DV->Rd α)->Rd α
 |[],k=>k []
 | x::xs,k=>fk x fun
   | .v y=>if scal y then Fp xs fun ds=>k (.one (.v y)::ds)else .fail
   | .ro sz es=>Fp xs fun ds=>k (.one (.s sz es)::ds)
   |_=>.fail
def sT (pr:(Unit->Prop)->Prop)(n:Nat)(d:Option Tmp)(body:Bool)(args:Array Operand)(mk:NK):Rd Out:=
 if body then Fp args.toList fun ds=>match mk ds with
  |some (pre,hs)=>.req (pr pre) (fresh n d fun d=>.ret (.ws [.root d true (hs.map fun h=>⟨0,0,none,h⟩),.reg d (.one (.pt d 0))]))
  |none=>.fail
 else .fail
section
variable {P: Program} {o: Oper} {cx: Cx} {G: Gh} {g: Gm} {a: Act} {w: World} {ls: List Loc} {ws: List W} {K: Act -> World -> Prop} {Q: Exit -> Act -> World -> Prop}
theorem oL (hS:aP cx G g a w){α:Type}:∀ (xs:List Operand) (k:List DV->Rd α) (ls:List Loc) (out:α),(Fp xs k).Runs g ls out->
 ∃ ds ls',dA (fun b=>G.ow b=some .ro) w ds (xs.map a.eval)/\(k ds).Runs g ls' out
 |[],k,ls,out,h=>⟨[],ls,rfl,h⟩
 | x::xs,k,ls,out,h=>by
   obtain⟨x0,ls1,hx,h⟩:=bz hS h;cases x0 with
   | v y=>
     simp only at h;split at h
     ·rename_i hy;obtain⟨ds,ls2,h1,h2⟩:=oL hS xs _ _ _ h;have hx':a.eval x=y:=hx;have hr:mh w (.one (.v y)) (a.eval x) []:=⟨hx',hy,rfl⟩;have hh:dA (fun b=>G.ow b=some .ro) w (.one (.v y)::ds) (a.eval x::xs.map a.eval):=⟨_,_,[],rfl,hr,by simp,h1⟩;exact⟨_,ls2,hh,h2⟩
     ·exact h.elim
   | ro sz es=>
     obtain⟨ds,ls2,h1,h2⟩:=oL hS xs _ _ _ h;obtain⟨S,q1,q2⟩:=hx;have hh:dA (fun b=>G.ow b=some .ro) w (.one (.s sz es)::ds) (a.eval x::xs.map a.eval):=⟨_,_,S,rfl,q1,q2,h1⟩;exact⟨_,ls2,hh,h2⟩
   |_=>exact h.elim
theorem Ak {f:FuncId}{ts:Array TypeId}{args:Array Operand}(ho:o.op=.call {callee:=.value (.func f),args:=args,argTypes:=ts})(hS:aP cx G g a w){mk:NK} 
 (hmk:∀ ds pre hs,mk ds=some (pre,hs)->pre ()->FZ P f ds hs) (h:(sT mf cx.n o.dst (dd P f) args mk).Runs g ls (.ws ws))
 (hk:∀ a' w',d6 cx (aU g ws) a' w'->K a' w'):o.wp P a w K Q:=by
 unfold sT at h;split at h
 ·rename_i hbody;obtain⟨ds,ls1,hargs,h⟩:=oL hS _ _ _ _ h;split at h
  case h_2=>exact h.elim
  rename_i pre hs he;obtain⟨hpre,h⟩:=h;obtain⟨d,ls2,hd,hlt,hm,h⟩:=cL h;simp only[Rd.Runs,Out.ws.injEq]at h;obtain⟨_,rfl⟩:=h;have hex:(execOp a.eval o).run P w=.ok (.enter f (args.map a.eval)) w:=by
   unfold execOp;simp only[ho,resolve,ZK,Y9,ZP,Yn,Z1,invoke,Xa,XF];exact ew hbody _
  unfold YK;rw[hex];simp only[Y6];have hcall:=hmk ds pre hs he hpre _ w (args.toList.map a.eval) hargs;have harr:(args.toList.map a.eval).toArray=args.map a.eval:=by rw[<-Yy,Yz]
  rw[harr]at hcall;refine hcall.mono ?_;rintro e w' ⟨b,off,cur,ty,val,rfl,hb,hheap,hlen,hcell,hn,hsame⟩;rw[hd];refine hk _ _ ?_;obtain⟨G',k1,k2,k3,_⟩:=hS.newRoot hm true (hs.map fun h=>⟨0,0,none,h⟩) w' hsame val (fun _=>[])
   (by
     intro j h hj;simp only[ZE,ZA]at hj;obtain⟨h0,e1,rfl⟩:=hj;have:=hn j h0 e1;cases h0 with
     |own l=>simp only[CB];exact⟨this,ZQ,by simp⟩
     |ro l=>simp only[CB];obtain⟨S,q1,q2⟩:=this;exact⟨trivial,S,q1,q2⟩
     |gone=>simp only[CB])
   (by
     intro j h hj;simp only[ZE,ZA]at hj;obtain⟨h0,e1,rfl⟩:=hj;exact eZ.none)
   (fun i j _ _ _ b hb=>by cases hb) b off
   (fun _=>⟨hb,⟨cur,ty,hheap,by simpa using hlen,fun j hj=>hcell j (by simpa using hj)⟩,fun j _ hb=>by cases hb⟩)
  simp only[aU];exact⟨G',k1.put hlt (by simp only[cM];exact⟨b,off,k3 rfl,rfl⟩)⟩
 ·exact h.elim
end
end Go.V
namespace Go.V
open Go.MapKept
def dT:af->Int->Option (Nat×Value)
 |[],_=>none
 |[.v (.int _ k),.v x]::l,n=>if k=n then some (0,x)else(dT l n).map fun p=>(p.1+1,p.2)
 |_::_,_=>none
def mgbI (es:af)(n:Int):Bool:=match dT es n with
 |some (_,.bool b)=>b
 |_=>false
def jc (es:af)(n:Int):Int:=match dT es n with
 |some (_,.int _ i)=>i
 |_=>0
def mO (es:af)(n:Int)(l:L):af:=match dT es n with
 |some (j,_)=>es.set j [.i n,l]
 |none=>es++[[.i n,l]]
def qZ:Bool->Value
 |true=>.bool false
 |false=>.int Za 0
def zB (P:Program)(t:TypeId):Option Bool:=match P.underlying t with
 | some (.map kt et)=>match P.underlying kt,P.info? et with
   | some (.int Za),some i=>match i.zero with
     |some (.bool false)=>some true
     |some (.int Za 0)=>some false
     |_=>none
   |_,_=>none
 |_=>none
section
variable {P: Program} {w: World}
theorem qY {t:TypeId}{kb:Bool}(h:zB P t=some kb):∃ kt et,P.underlying t=some (.map kt et)/\P.underlying kt=some (.int Za)/\(zeroValue et).run P w=.ok (qZ kb) w:=by
 unfold zB at h;split at h
 ·rename_i kt et hm;split at h
  ·rename_i i hk hi;split at h
   ·rename_i hz;cases h;exact⟨kt,et,hm,hk,by simp[zeroValue,typeInfo,hi,hz,qZ]⟩
   ·rename_i hz;cases h;exact⟨kt,et,hm,hk,by simp[zeroValue,typeInfo,hi,hz,qZ]⟩
   ·cases h
  ·cases h
 ·cases h
theorem dW.find {kb:Bool}{n:Int}:∀ {l:List MapEntry} {es:af} (i:Nat),dW kb l es->Vi (.int Za) (.int Za n) l i=some ((dT es n).map fun p=>(i+p.1,p.2))
 |[],es,i,h=>by simp only[dW]at h;subst h;rfl
 | e::l,es,i,h=>by
   obtain⟨k,r,rfl,hk,hm,h⟩:=h;have ih:=dW.find (n:=n) (i+1) h;simp only[Vi,hk,Instr.sameNow,if_true,dT];by_cases c:k=n
   ·subst c;simp
   ·have:(n==k)=false:=by simpa using fun e=>c e.symm
    simp only[this,VU c,ih,Option.map_map]
    congr 2
    funext p
    simp only[VM]
    congr 1;omega
theorem dW.keys {kb:Bool}:∀ {l:List MapEntry} {es:af},dW kb l es->∀ x∈l,IsKey (.int Za) x.key/\GU kb x.val=true
 |[],es,h,x,hx=>by cases hx
 | e::l,es,h,x,hx=>by
   obtain⟨k,r,rfl,hk,hm,h⟩:=h;rcases Zl.1 hx with rfl|hx
   ·rw[hk];exact⟨rfl,hm⟩
   ·exact dW.keys h x hx
theorem dW.at {kb:Bool}{n:Int}:∀ {l:List MapEntry} {es:af},dW kb l es->∀ j x,dT es n=some (j,x)->∃ e,l[j]?=some e/\e.key=.int Za n/\e.val=x
 |[],es,h,j,x,hf=>by simp only[dW]at h;subst h;cases hf
 | e::l,es,h,j,x,hf=>by
   obtain⟨k,r,rfl,hk,hm,h⟩:=h;simp only[dT]at hf;split at hf
   ·rename_i c;subst c;cases hf;exact⟨e,rfl,hk,rfl⟩
   ·simp only[ZA]at hf;obtain⟨⟨j',x'⟩,hf,e2⟩:=hf;cases e2;obtain⟨e',q1,q2⟩:=dW.at h j' x' hf;exact⟨e',by simpa using q1,q2⟩
theorem dW.none {kb:Bool}{n:Int}:∀ {l:List MapEntry} {es:af},dW kb l es->dT es n=Xz->∀ x∈l,x.key≠ .int Za n
 |[],es,h,hf,x,hx=>by cases hx
 | e::l,es,h,hf,x,hx=>by
   obtain⟨k,r,rfl,hk,hm,h⟩:=h;simp only[dT]at hf;split at hf
   ·cases hf
   ·rename_i c;simp only[Option.map_eq_none_iff]at hf;rcases Zl.1 hx with rfl|hx
    ·rw[hk];intro q;cases q;exact c rfl
    ·exact dW.none h hf x hx
theorem dW.push {kb:Bool}{e:MapEntry}{n:Int}(he:e.key=.int Za n)(hv:GU kb e.val=true):∀ {l:List MapEntry} {es:af},dW kb l es->dW kb (l++[e]) (es++[[.i n,.v e.val]])
 |[],es,h=>by simp only[dW]at h;subst h;exact⟨n,[],rfl,he,hv,rfl⟩
 | e0::l,es,h=>by
   obtain⟨k,r,rfl,hk,hm,h⟩:=h;exact⟨k,_,rfl,hk,hm,dW.push he hv h⟩
theorem dW.set {kb:Bool}{e:MapEntry}{n:Int}(he:e.key=.int Za n)(hv:GU kb e.val=true):∀ {l:List MapEntry} {es:af} (j:Nat),dW kb l es->dW kb (l.set j e) (es.set j [.i n,.v e.val])
 |[],es,j,h=>by simp only[dW]at h;subst h;simp[dW]
 | e0::l,es,j,h=>by
   obtain⟨k,r,rfl,hk,hm,h⟩:=h;cases j with
   |zero=>exact⟨n,r,rfl,he,hv,h⟩
   |succ j=>exact⟨k,_,rfl,hk,hm,dW.set he hv j h⟩
theorem dW.kind {kb:Bool}{n:Int}{l:List MapEntry}{es:af}(h:dW kb l es):(match dT es n with|some (_,x)=>x|Xz=>qZ kb)=(if kb then .bool (mgbI es n)else .int Za (jc es n)):=by
 unfold mgbI jc;cases hf:dT es n with
 |none=>cases kb<;>rfl
 | some p=>
   obtain⟨j,x⟩:=p;obtain⟨e,q1,q2,q3⟩:=h.at j x hf;have hk:=(h.keys e (Zy q1)).2;rw[q3]at hk;cases kb<;>cases x<;>simp_all [GU]
   rename_i k i;cases k<;>simp_all [GU]
theorem Dw {t:TypeId}{kb:Bool}(ht:zB P t=some kb){b:Nat}{ents:Array MapEntry}{clock:Nat}(hb:w.heap[b]?=some (.map ents clock)){es:af}(hr:dW kb ents.toList es)(n:Int):
 (WC t (.map (some b)) (.int Za n) false).run P w=.ok (if kb then .bool (mgbI es n)else .int Za (jc es n)) w:=by
 obtain⟨kt,et,hm,hk,hz⟩:=qY (w:=w) ht;have hf:=dW.find (n:=n) 0 hr;rw[<-hr.kind];cases hmf:dT es n with
 | none=>
   rw[hmf]at hf;simp[WC,run_underlying hm,Xb hb,Xo hk (k:=.int Za n) rfl,Xp hk hf,hz,Z2]
 | some p=>
   rw[hmf]at hf;simp[WC,run_underlying hm,Xb hb,Xo hk (k:=.int Za n) rfl,Xp hk hf,Z2]
theorem Eg {t:TypeId}{kb:Bool}(ht:zB P t=some kb){b:Nat}{ents:Array MapEntry}{clock:Nat}(hb:w.heap[b]?=some (.map ents clock))(hs:Stamped ents clock){es:af}(hr:dW kb ents.toList es)(n:Int){x:Value}(hx:GU kb x=true):
 ∃ ents' clock',(WE t (.map (some b)) (.int Za n) x).run P w=.ok () {w with heap:=w.heap.setIfInBounds b (.map ents' clock')}/\Stamped ents' clock'/\dW kb ents'.toList (mO es n (.v x)):=by
 obtain⟨kt,et,hm,hk,_⟩:=qY (w:=w) ht;have hf:=dW.find (n:=n) 0 hr;unfold mO;cases hmf:dT es n with
 | none=>
   rw[hmf]at hf;refine⟨ents.push {key:=.int Za n,val:=x,born:=clock},clock+1,?_,stamped_push hs (hr.none hmf),?_⟩
   ·simp[WE,run_underlying hm,Xb hb,Xo hk (k:=.int Za n) rfl,Xp hk hf,XG _ hb,Z2]
   ·simpa using hr.push (e:={key:=.int Za n,val:=x,born:=clock}) rfl hx
 | some p=>
   obtain⟨j,y⟩:=p;rw[hmf]at hf;obtain⟨e,q1,q2,q3⟩:=hr.at j y hmf;have hj:ents[j]?=some e:=by simpa using q1
   have hlt:j<ents.size:=(ZD.1 hj).1;refine⟨ents.modify j fun e=>{e with key:=.int Za n,val:=x},clock,?_,?_,?_⟩
   ·simp[WE,run_underlying hm,Xb hb,Xo hk (k:=.int Za n) rfl,Xp hk hf,hj,q2,Vj (d:=.int Za) (k:=.int Za n) rfl,XG _ hb,Z2]
   ·exact stamped_modify hs _ _ (fun _ _=>rfl) (fun e' _ he'=>by rw[hj]at he';cases he';exact q2.symm)
   ·have:(ents.modify j fun e=>{e with key:=.int Za n,val:=x}).toList=ents.toList.set j {e with key:=.int Za n,val:=x}:=by
     apply ZU;intro i;simp only[ZX,YV,XM];by_cases c:j=i
     ·subst c;have:=(ZD.1 hj).2;simp[hlt,this]
     ·simp[c]
    rw[this];exact hr.set (e:={e with key:=.int Za n,val:=x}) rfl hx j
def Bz (es:af)(n:Int):Bool->Value
 |true=>.bool (mgbI es n)
 |false=>.int Za (jc es n)
theorem Ga {t:TypeId}{kb:Bool}(ht:zB P t=some kb){b:Nat}{ents:Array MapEntry}{clock:Nat}(hb:w.heap[b]?=some (.map ents clock))(hs:Stamped ents clock){es:af}(hr:dW kb ents.toList es)(n:Int):
 ∃ (ents':Array MapEntry) (clock' i:Nat) (e:MapEntry),(WF t (.map (some b)) (.int Za n)).run P w=.ok (.tuple #[Bz es n kb,goInt e.born]) {w with heap:=w.heap.setIfInBounds b (.map ents' clock')}/\Stamped ents' clock'/\dW kb ents'.toList (mO es n (.v (Bz es n kb)))/\ents'[i]?=some e/\e.key=.int Za n:=by
 obtain⟨kt,et,hm,hk,hz⟩:=qY (w:=w) ht;have hf:=dW.find (n:=n) 0 hr;have hc:Bz es n kb=(match dT es n with|some (_,x)=>x|Xz=>qZ kb):=by
  rw[hr.kind];cases kb<;>rfl
 unfold mO;cases hmf:dT es n with
 | none=>
   rw[hmf]at hf hc;simp only at hc;have hx:GU kb (qZ kb)=true:=by cases kb<;>rfl
   refine⟨ents.push {key:=.int Za n,val:=qZ kb,born:=clock},clock+1,ents.size,{key:=.int Za n,val:=qZ kb,born:=clock},?_,stamped_push hs (hr.none hmf),?_,by simp,rfl⟩
   ·rw[hc];simp[WF,run_underlying hm,Xb hb,Xo hk (k:=.int Za n) rfl,Xp hk hf,hz,XG _ hb,Z2]
   ·rw[hc]
    simpa using hr.push (e:={key:=.int Za n,val:=qZ kb,born:=clock}) rfl hx
 | some p=>
   obtain⟨j,y⟩:=p;rw[hmf]at hf hc;simp only at hc;obtain⟨e,q1,q2,q3⟩:=hr.at j y hmf;have hj:ents[j]?=some e:=by simpa using q1
   have hlt:j<ents.size:=(ZD.1 hj).1;refine⟨ents.modify j fun e=>{e with key:=.int Za n},clock,j,{e with key:=.int Za n},?_,?_,?_,?_,rfl⟩
   ·rw[hc];simp[WF,run_underlying hm,Xb hb,Xo hk (k:=.int Za n) rfl,Xp hk hf,hj,q2,Vj (d:=.int Za) (k:=.int Za n) rfl,XG _ hb,Z2]
   ·exact stamped_modify hs _ _ (fun _ _=>rfl) (fun e' _ he'=>by rw[hj]at he';cases he';exact q2.symm)
   ·have:(ents.modify j fun e=>{e with key:=.int Za n}).toList=ents.toList.set j {e with key:=.int Za n}:=by
     apply ZU;intro i;simp only[ZX,YV,XM];by_cases c:j=i
     ·subst c;have:=(ZD.1 hj).2;simp[hlt,this]
     ·simp[c]
    rw[this,hc];have hv:GU kb e.val=true:=(hr.keys e (Zy q1)).2;subst q3;exact hr.set (e:={e with key:=.int Za n}) (n:=n) rfl hv j
   ·simp[YV,hj]
theorem KW {es:af}{n:Int}:∀ {l:List MapEntry} {kb:Bool},dW kb l es->(l.map (·.key)).Nodup->∀ {i:Nat} {e:MapEntry},l[i]?=some e->e.key=.int Za n->dT es n=some (i,e.val):=by
 intro l kb hr hn i e hi hk;cases hmf:dT es n with
 |none=>exact absurd hk (hr.none hmf e (Zy hi))
 | some p=>
   obtain⟨j,y⟩:=p;obtain⟨e2,q1,q2,q3⟩:=hr.at j y hmf;have hj:(l.map (·.key))[j]?=some (.int Za n):=by rw[ZE,q1];simp[q2]
   have hi':(l.map (·.key))[i]?=some (.int Za n):=by rw[ZE,hi];simp[hk]
   have hlt:j<(l.map (·.key)).length:=(ZC.1 hj).1;have e1:j=i:=(Wm hlt hn).1 (hj.trans hi'.symm);subst e1;rw[hi]at q1;cases q1;rw[q3]
theorem vN {t:TypeId}{kb:Bool}{b:Nat}{ents:Array MapEntry}{clock:Nat}(hb:w.heap[b]?=some (.map ents clock))(hs:Stamped ents clock){es:af}(hr:dW kb ents.toList es){n:Int}{i:Nat}{e:MapEntry}(hi:ents[i]?=some e)(hk:e.key=.int Za n){x:Value}(hx:GU kb x=true):
 ∃ ents':Array MapEntry,(Vk t (.map (some b)) (goInt e.born) x).run P w=.ok () {w with heap:=w.heap.setIfInBounds b (.map ents' clock)}/\Stamped ents' clock/\dW kb ents'.toList (mO es n (.v x)):=by
 have hi':ents.toList[i]?=some e:=by simpa using hi
 have hlt:i<ents.size:=(ZD.1 hi).1;have hmf:=KW hr hs.2.2 hi' hk;have hidx:ents.findIdx? (fun e'=>(e'.born:Int)==(e.born:Int))=some i:=by
  rw[Array.findIdx?_eq_some_iff_getElem];refine⟨hlt,?_,fun j hj=>?_⟩
  ·have:=(ZD.1 hi).2;simp[this]
  ·intro hq;simp only[beq_iff_eq,Int.ofNat_inj]at hq;have hjl:j<ents.size:=by omega
   have h1:(ents.toList.map (·.born))[j]?=some e.born:=by rw[ZE];simp[hjl,hq]
   have h2:(ents.toList.map (·.born))[i]?=some e.born:=by rw[ZE,hi'];rfl
   have:=(Wm (by simpa using hjl) hs.2.1).1 (h1.trans h2.symm);omega
 refine⟨ents.modify i fun e=>{e with val:=x},?_,?_,?_⟩
 ·simp[Vk,Xb hb,goInt,asInt,asIntOf,hidx,XG _ hb,Z2]
 ·exact stamped_modify hs _ _ (fun _ _=>rfl) (fun e' _ _=>rfl)
 ·have:(ents.modify i fun e=>{e with val:=x}).toList=ents.toList.set i {e with val:=x}:=by
   apply ZU;intro j;simp only[ZX,YV,XM];by_cases c:i=j
   ·subst c;have:=(ZD.1 hi).2;simp[hlt,this]
   ·simp[c]
  rw[this];unfold mO;rw[hmf];exact hr.set (e:={e with val:=x}) hk hx i
end
end Go.V
namespace Go.V
open Go.MapKept
def mM (mp:TypeId->Option Bool)(n:Nat)(d:Option Tmp)(t:TypeId)(res:Option Operand):Rd Out:=
 match res with
 |some _=>.fail
 | none=>match mp t with
   |none=>.fail
   |some kb=>fresh n d fun d=>.ret (.ws [.root d false [⟨0,0,none,.own (.m kb [])⟩],.reg d (.one (.mv d 0 0))])
def pm (mgb:af->Int->Bool)(mgi:af->Int->Int)(mp:TypeId->Option Bool)(n:Nat)(d:Option Tmp)(t:TypeId)(x i:Operand)(ok:Bool):Rd Out:=
 match ok with
 |true=>.fail
 | false=>match mp t with
   |none=>.fail
   | some kb=>fk x fun
     | .mv r j ver=>j5 i fun k m=>if k==.i64 then gp r j fun h=>match h.c with
       | .own (.m kb' es)=>if h.ver==ver&&kb'==kb then bG n d (.one (.v (match kb with
          |true=>.bool (mgb es m)
          |false=>.int Za (mgi es m))))else .fail
       |_=>.fail else .fail
     |_=>.fail
def po (mu:af->Int->L->af)(mp:TypeId->Option Bool)(t:TypeId)(m k v:Operand):Rd Out:=
 match mp t with
 |none=>.fail
 | some kb=>fk m fun
   | .mv r j ver=>j5 k fun kd i=>if kd==.i64 then fk v fun
     | .v x=>if GU kb x then gp r j fun h=>match h.c with
       | .own (.m kb' es)=>if h.ver==ver&&kb'==kb then .ret (.ws [.leaf r j ⟨h.ver,h.iv+1,h.org,.own (.m kb (mu es i (.v x)))⟩])else .fail
       |_=>.fail else .fail
     |_=>.fail else .fail
   |_=>.fail
def kj (mgb:af->Int->Bool)(mgi:af->Int->Int)(mu:af->Int->L->af)(mp:TypeId->Option Bool)(n:Nat)(d:Option Tmp)(t:TypeId)(m k:Operand):Rd Out:=
 match mp t,d with
 | some kb,some d=>if d<n then fk m fun
    | .mv r j ver=>j5 k fun kd i=>if kd==.i64 then gp r j fun h=>match h.c with
      | .own (.m kb' es)=>if h.ver==ver&&kb'==kb then(match kb with
         |true=>.ret (.ws [.leaf r j ⟨h.ver,h.iv+1,h.org,.own (.m true (mu es i (.v (.bool (mgb es i)))))⟩,.reg d (.tup [.k (mgb es i),.one (.st r j h.ver (h.iv+1) i)])])
         |false=>.ret (.ws [.leaf r j ⟨h.ver,h.iv+1,h.org,.own (.m false (mu es i (.i (mgi es i))))⟩,.reg d (.tup [.j (mgi es i),.one (.st r j h.ver (h.iv+1) i)])]))else .fail
      |_=>.fail else .fail
    |_=>.fail else .fail
 |_,_=>.fail
def gT (mu:af->Int->L->af)(mp:TypeId->Option Bool)(t:TypeId)(m s x:Operand):Rd Out:=
 match mp t with
 |none=>.fail
 | some kb=>fk m fun
   | .mv r j ver=>fk s fun
     | .st r2 j2 ver2 iv2 i=>fk x fun
       | .v y=>if GU kb y then gp r j fun h=>match h.c with
         | .own (.m kb' es)=>if h.ver==ver&&kb'==kb&&r2==r&&j2==j&&gP h ver2 iv2 then .ret (.ws [.leaf r j ⟨h.ver,h.iv+1,h.org,.own (.m kb (mu es i (.v y)))⟩])else .fail
         |_=>.fail else .fail
       |_=>.fail
     |_=>.fail
   |_=>.fail
section
variable {P: Program} {o: Oper} {cx: Cx} {G: Gh} {g: Gm} {a: Act} {w: World} {ls: List Loc} {ws: List W} {K: Act -> World -> Prop} {Q: Exit -> Act -> World -> Prop}
theorem xh {t:TypeId}{res:Option Operand}(ho:o.op=.makeMap t res)(hS:aP cx G g a w)(h:(mM (zB P) cx.n o.dst t res).Runs g ls (.ws ws)) 
 (hk:∀ a' w',d6 cx (aU g ws) a' w'->K a' w'):o.wp P a w K Q:=by
 unfold mM at h;split at h
 ·exact h.elim
 ·split at h
  ·exact h.elim
  ·rename_i kb hmp;obtain⟨d,ls2,hd,hlt,hm,h⟩:=cL h;simp only[Rd.Runs,Out.ws.injEq]at h;obtain⟨_,rfl⟩:=h;have hnew:=heap_alloc_new w (.map #[] 0);obtain⟨G',k1,k2,_⟩:=hS.newRoot hm false [⟨0,0,none,.own (.m kb [])⟩] (w.alloc (.map #[] 0)) (ny w _) (fun _=>.map (some w.heap.size)) (fun _=>[w.heap.size])
    (by
      intro j hv hj;cases j with
      |succ j=>simp at hj
      | zero=>
        simp at hj;subst hj;simp only[CB];refine⟨⟨w.heap.size, #[],0,rfl,hnew,stamped_empty 0,rfl,rfl⟩,by simp,fun b hb=>?_⟩;simp only[Zl,YR,or_false]at hb;subst hb;exact⟨.inr ⟨_,_,hnew⟩,.inl (Ze _)⟩)
    (by
      intro j hv hj;cases j with
      |succ j=>simp at hj
      |zero=>simp at hj;subst hj;exact eZ.none)
    (fun i j hi hj hij=>by simp at hi hj;omega) 0 0 (by simp)
   refine cX (v:=.map (some w.heap.size)) (w':=w.alloc (.map #[] 0)) ?_ (hk _ _ ?_)
   ·unfold execOp;simp[ho,Instr.makeMap,Z2]
   ·simp only[aU];rw[hd];refine⟨G',k1.put hlt ?_⟩;simp only[cM,gW];exact⟨⟨0,0,none,.own (.m kb [])⟩,by simp[gl,W.app],Ze _,fun _ kb' es' _=>(k2 0).symm⟩
theorem xN {t:TypeId}{x i:Operand}{ok:Bool}(ho:o.op=.lookup t x i ok)(hS:aP cx G g a w)(h:(pm mgbI jc (zB P) cx.n o.dst t x i ok).Runs g ls (.ws ws)) 
 (hk:∀ a' w',d6 cx (aU g ws) a' w'->K a' w'):o.wp P a w K Q:=by
 unfold pm at h;split at h
 ·exact h.elim
 ·split at h
  ·exact h.elim
  ·rename_i kb hmp;obtain⟨x0,ls1,hx,h⟩:=bz hS h;cases x0 with
   | mv r j ver=>
     obtain⟨kd,n,ls2,hi,h⟩:=dR hS h;split at h
     case isFalse=>exact h.elim
     rename_i hkd;simp only[beq_iff_eq]at hkd;subst hkd;obtain⟨hv,ls3,q1,q2,h⟩:=bD h;split at h
     case h_2=>exact h.elim
     rename_i kb' es hc;split at h
     case isFalse=>exact h.elim
     rename_i hb;simp only[Zc,beq_iff_eq]at hb;obtain⟨hb,rfl⟩:=hb;obtain⟨h2,f1,f2,f3⟩:=hx;rw[q1]at f1;cases f1;have e:=f3 hb _ _ hc;have hok:=hS.hok q1;simp only[dN,hc,bM]at hok;obtain⟨⟨b,ents,clock,g1,g2,g3,g4,g5⟩,_⟩:=hok;refine aY hS h (v:=if kb' then .bool (mgbI es n)else .int Za (jc es n)) (by cases kb'<;>simp[cM,gW]) ?_ hk;unfold execOp;simp[ho,e,g1,hi,Dw hmp g2 g4 n]
   |_=>exact h.elim
theorem xP {t:TypeId}{m k v:Operand}(ho:o.op=.mapUpdate t m k v)(hdst:o.dst=none)(hS:aP cx G g a w)(h:(po mO (zB P) t m k v).Runs g ls (.ws ws)) 
 (hk:∀ a' w',d6 cx (aU g ws) a' w'->K a' w'):o.wp P a w K Q:=by
 unfold po at h;split at h
 ·exact h.elim
 ·rename_i kb hmp;obtain⟨x0,ls1,hx,h⟩:=bz hS h;cases x0 with
  | mv r j ver=>
    obtain⟨kd,n,ls2,hi,h⟩:=dR hS h;split at h
    case isFalse=>exact h.elim
    rename_i hkd;simp only[beq_iff_eq]at hkd;subst hkd;obtain⟨y,ls3,hy,h⟩:=bz hS h;cases y with
    | v y=>
      simp only at h;split at h
      case isFalse=>exact h.elim
      rename_i hmk;obtain⟨hv,ls4,q1,q2,h⟩:=bD h;split at h
      case h_2=>exact h.elim
      rename_i kb' es hc;split at h
      case isFalse=>exact h.elim
      rename_i hb;simp only[Zc,beq_iff_eq]at hb;obtain⟨hb,rfl⟩:=hb;simp only[Rd.Runs,Out.ws.injEq]at h;obtain⟨_,rfl⟩:=h;obtain⟨h2,f1,f2,f3⟩:=hx;rw[q1]at f1;cases f1;have e:=f3 hb _ _ hc;have hok:=hS.hok q1;simp only[dN,hc,bM]at hok;obtain⟨⟨b,ents,clock,g1,g2,g3,g4,g5⟩,hnd,htok⟩:=hok;have hy:a.eval v=y:=hy;obtain⟨ents',clock',u1,u2,u3⟩:=Eg hmp g2 g3 g4 n hmk;have hset:=Vl (o':=Vm ents' clock') g2;have hbb:b∈G.fp r j:=by rw[g5];simp
      have hob:=(htok b hbb).1;obtain⟨G',k1,_⟩:=hS.upd q2 ⟨hv.ver,hv.iv+1,hv.org,.own (.m kb' (mO es n (.v y)))⟩ (G.val r j) (G.fp r j) {w with heap:=w.heap.setIfInBounds b (.map ents' clock')}
       (.inr ⟨rfl,YN _,rfl,.inr ⟨kb',es,_,hc,rfl⟩⟩) rfl rfl rfl (by simp)
       (fun c _ _ h3=>hset.2 c (fun e=>h3 _ hc (e▸hbb)))
       (fun c off hl=>by
         obtain⟨kk,hk2⟩:=hS.noloc r _ hl;obtain⟨b',off',cur,ty,m1,m2,m3,m4,m5⟩:=hS.boxes r kk hk2;rw[hl]at m1;cases m1;have hne:c≠b:=by intro e;subst e;rw[hob]at m2;cases m2
         refine⟨cur,cur,ty,m3,by rw[hset.2 c hne];exact m3,rfl,fun hlt=>?_,fun _ _=>rfl⟩;obtain⟨_,k3,bx,_,e3,e4,_⟩:=hS.leaf r j _ q2;rw[hk2]at e3;cases e3;exact m5 j e4)
       (fun l _ c hcb=>by
         rw[g5]at hcb;simp only[Zl,YR,or_false]at hcb;subst hcb;exact .inr ⟨_,_,hset.1⟩)
       (by
         refine⟨⟨b,ents',clock',g1,hset.1,u2,u3,g5⟩,hnd,fun c hcb=>⟨?_,.inr ⟨_,hc,hcb⟩⟩⟩;rw[g5]at hcb;simp only[Zl,YR,or_false]at hcb;subst hcb;exact .inr ⟨_,_,hset.1⟩)
       (by
         intro i hi';exact hS.anc r j hv q1 i hi')
      refine kZ hdst (w':={w with heap:=w.heap.setIfInBounds b (.map ents' clock')}) ?_ (hk _ _ ?_)
      ·unfold execOp;simp[ho,e,g1,hi,hy,u1]
      ·simp only[aU];exact⟨G',k1⟩
    |_=>exact h.elim
  |_=>exact h.elim
theorem Fh (hS:aP cx G g a w){r j:Nat}{hv:Hv}(q2:g (.leaf r j)=some (.h hv)){kb:Bool}{es es':af}(hc:hv.c=.own (.m kb es)){b:Nat}{ents':Array MapEntry}{clock':Nat}(g1:G.val r j=.map (some b))(u2:Stamped ents' clock')(u3:dW kb ents'.toList es'):
 ∃ G',aP cx G' ((W.leaf r j ⟨hv.ver,hv.iv+1,hv.org,.own (.m kb es')⟩).app g) a {w with heap:=w.heap.setIfInBounds b (.map ents' clock')}/\G'.val r j=.map (some b)/\({w with heap:=w.heap.setIfInBounds b (.map ents' clock')}:World).heap[b]?=some (.map ents' clock'):=by
 have hok:=hS.hok (au.2 q2);simp only[dN,hc,bM]at hok;obtain⟨⟨b0,ents,clock,g1',g2,g3,g4,g5⟩,hnd,htok⟩:=hok;rw[g1]at g1';cases g1';have hset:=Vl (o':=Vm ents' clock') g2;have hbb:b∈G.fp r j:=by rw[g5];simp
 have hob:=(htok b hbb).1;obtain⟨G',k1,_,k3,_⟩:=hS.upd q2 ⟨hv.ver,hv.iv+1,hv.org,.own (.m kb es')⟩ (G.val r j) (G.fp r j) {w with heap:=w.heap.setIfInBounds b (.map ents' clock')}
  (.inr ⟨rfl,YN _,rfl,.inr ⟨kb,es,_,hc,rfl⟩⟩) rfl rfl rfl (by simp)
  (fun c _ _ h3=>hset.2 c (fun e=>h3 _ hc (e▸hbb)))
  (fun c off hl=>by
    obtain⟨kk,hk2⟩:=hS.noloc r _ hl;obtain⟨b',off',cur,ty,m1,m2,m3,m4,m5⟩:=hS.boxes r kk hk2;rw[hl]at m1;cases m1;have hne:c≠b:=by intro e;subst e;rw[hob]at m2;cases m2
    refine⟨cur,cur,ty,m3,by rw[hset.2 c hne];exact m3,rfl,fun hlt=>?_,fun _ _=>rfl⟩;obtain⟨_,k3,bx,_,e3,e4,_⟩:=hS.leaf r j _ q2;rw[hk2]at e3;cases e3;exact m5 j e4)
  (fun l _ c hcb=>by
    rw[g5]at hcb;simp only[Zl,YR,or_false]at hcb;subst hcb;exact .inr ⟨_,_,hset.1⟩)
  (by
    refine⟨⟨b,ents',clock',g1,hset.1,u2,u3,g5⟩,hnd,fun c hcb=>⟨?_,.inr ⟨_,hc,hcb⟩⟩⟩;rw[g5]at hcb;simp only[Zl,YR,or_false]at hcb;subst hcb;exact .inr ⟨_,_,hset.1⟩)
  (by
    intro i hi';exact hS.anc r j hv (au.2 q2) i hi')
 exact⟨G',k1,by rw[k3,VT ⟨rfl,rfl⟩];exact g1,hset.1⟩
theorem uA {t:TypeId}{m k:Operand}(ho:o.op=.mapEntry t m k)(hS:aP cx G g a w)(h:(kj mgbI jc mO (zB P) cx.n o.dst t m k).Runs g ls (.ws ws)) 
 (hk:∀ a' w',d6 cx (aU g ws) a' w'->K a' w'):o.wp P a w K Q:=by
 unfold kj at h;split at h
 case h_2=>exact h.elim
 rename_i kb d hmp hd;split at h
 case isFalse=>exact h.elim
 rename_i hlt;obtain⟨x0,ls1,hx,h⟩:=bz hS h;cases x0 with
 | mv r j ver=>
   obtain⟨kd,n,ls2,hi,h⟩:=dR hS h;split at h
   case isFalse=>exact h.elim
   rename_i hkd;simp only[beq_iff_eq]at hkd;subst hkd;obtain⟨hv,ls4,q1,q2,h⟩:=bD h;split at h
   case h_2=>exact h.elim
   rename_i kb' es hc;split at h
   case isFalse=>exact h.elim
   rename_i hb;simp only[Zc,beq_iff_eq]at hb;obtain⟨hb,rfl⟩:=hb;obtain⟨h2,f1,f2,f3⟩:=hx;rw[q1]at f1;cases f1;have e:=f3 hb _ _ hc;have hok:=hS.hok q1;simp only[dN,hc,bM]at hok;obtain⟨⟨b,ents,clock,g1,g2,g3,g4,g5⟩,hnd,htok⟩:=hok;obtain⟨ents',clock',i,en,u1,u2,u3,u4,u5⟩:=Ga hmp g2 g3 g4 n;obtain⟨G',k1,k2,k3⟩:=Fh hS q2 hc g1 u2 u3;have hws:ws=[.leaf r j ⟨hv.ver,hv.iv+1,hv.org,.own (.m kb' (mO es n (.v (Bz es n kb'))))⟩,.reg d (.tup [.one (.v (Bz es n kb')),.one (.st r j hv.ver (hv.iv+1) n)])]:=by
    cases kb'<;>(simp only[Rd.Runs,Out.ws.injEq]at h;exact h.2)
   subst hws;refine cX (v:=.tuple #[Bz es n kb',goInt en.born]) (w':={w with heap:=w.heap.setIfInBounds b (.map ents' clock')}) ?_ (hk _ _ ?_)
   ·unfold execOp;simp[ho,e,g1,hi,u1,Z2]
   ·simp only[aU];rw[hd];refine⟨G',k1.put hlt ?_⟩;simp only[cM];refine⟨[Bz es n kb',goInt en.born],rfl,?_⟩;simp only[iI,cM];refine⟨_,_,rfl,?_,_,_,rfl,?_,rfl⟩
    ·simp only[gW]
    ·simp only[gW];refine⟨⟨hv.ver,hv.iv+1,hv.org,.own (.m kb' (mO es n (.v (Bz es n kb'))))⟩,by simp[gl,W.app],Ze _,Ze _,fun _ kb2 es2 q=>?_⟩;exact⟨b,ents',clock',i,en,k2,k3,u4,u5,rfl⟩
 |_=>exact h.elim
theorem rD {t:TypeId}{m s x:Operand}(ho:o.op=.entryStore t m s x)(hdst:o.dst=none)(hS:aP cx G g a w)(h:(gT mO (zB P) t m s x).Runs g ls (.ws ws)) 
 (hk:∀ a' w',d6 cx (aU g ws) a' w'->K a' w'):o.wp P a w K Q:=by
 unfold gT at h;split at h
 ·exact h.elim
 ·rename_i kb hmp;obtain⟨x0,ls1,hx,h⟩:=bz hS h;cases x0 with
  | mv r j ver=>
    obtain⟨s0,ls2,hs,h⟩:=bz hS h;cases s0 with
    | st r2 j2 ver2 iv2 n=>
      obtain⟨y0,ls3,hy,h⟩:=bz hS h;cases y0 with
      | v y=>
        simp only at h;split at h
        case isFalse=>exact h.elim
        rename_i hmk;obtain⟨hv,ls4,q1,q2,h⟩:=bD h;split at h
        case h_2=>exact h.elim
        rename_i kb' es hc;split at h
        case isFalse=>exact h.elim
        rename_i hb;simp only[Zc,beq_iff_eq]at hb;obtain⟨⟨⟨⟨hb,rfl⟩,rfl⟩,rfl⟩,hgd⟩:=hb;simp only[Rd.Runs,Out.ws.injEq]at h;obtain⟨_,rfl⟩:=h;obtain⟨h2,f1,f2,f3⟩:=hx;rw[q1]at f1;cases f1;have e:=f3 hb _ _ hc;obtain⟨h3,s1,s2,s3,s4⟩:=hs;rw[q1]at s1;cases s1;obtain⟨b,ents,clock,i,en,t1,t2,t3,t4,t5⟩:=s4 hgd _ _ hc;have hok:=hS.hok q1;simp only[dN,hc,bM]at hok;obtain⟨⟨b',ents0,clock0,g1,g2,g3,g4,g5⟩,hnd,htok⟩:=hok;rw[t1]at g1;cases g1;rw[t2]at g2;cases g2;have hy:a.eval x=y:=hy;obtain⟨ents',u1,u2,u3⟩:=vN (P:=P) (t:=t) t2 g3 g4 t3 t4 hmk;obtain⟨G',k1,_⟩:=Fh hS q2 hc t1 u2 u3;refine kZ hdst (w':={w with heap:=w.heap.setIfInBounds b (.map ents' clock)}) ?_ (hk _ _ ?_)
        ·unfold execOp;simp[ho,e,t1,t5,hy,u1]
        ·simp only[aU];exact⟨G',k1⟩
      |_=>exact h.elim
    |_=>exact h.elim
  |_=>exact h.elim
end
end Go.V
namespace Go.V
section
variable {P: Program} {o: Oper} {cx: Cx} {G: Gh} {g: Gm} {a: Act} {w: World} {ls: List Loc} {ws: List W} {K: Act -> World -> Prop} {Q: Exit -> Act -> World -> Prop}
theorem wM {sz:Nat}{es:af}{p:List (Nat×Nat)}{new:aT}{y:aT×Nat}(h:bQ (.s sz es) p=some y):j3 (.s sz es) p new=.s sz (rowOf (j3 (.s sz es) p new)):=by
 match p with
 |[]=>simp[bQ]at h
 |[(i,j)]=>rfl
 |(i,j)::q::p=>rfl
theorem aP.storeAt (hS:aP cx G g a w){r j:Nat}{h0:Hv}{l:L}(q3:g (.leaf r j)=some (.h h0))(hc:h0.c=.own l){p:List (Nat×Nat)}{b o0:Nat}(g1:bL w l (G.val r j) p b o0){rec:aT}{jj:Nat}(hg:bQ l p=some (rec,jj)) 
 (ls0:aT) (vs:List Value) (S2:List Nat) (hlen:jj+ls0.length<=rec.length) (hvl:ls0.length=vs.length) (hone:∀ u∈vs,u.oneCell'=true) (hrd2:ai w ls0 vs S2) (hnd2:S2.Nodup)
 (hsub:∀ (cur:Array Value) (ty:TypeId) (fz:Nat×Nat) (Sy:List Nat),w.heap[b]?=some (.cells cur ty fz)->ai w ((rec.drop jj).take vs.length) ((cur.toList.drop o0).take vs.length) Sy->∀ c∈S2,c∈Sy):
 ∃ w',(storeCells ⟨b,o0,none⟩ vs 0).run P w=.ok () w'/\d6 cx ((W.leaf r j ⟨h0.ver,h0.iv+1,h0.org,.own (j3 l p ls0)⟩).app g) a w':=by
 have hok:=hS.hok (au.2 q3);simp only[dN,hc]at hok;obtain⟨cur,ty,fz,base,Sa,S1,Sb,m1,m2,m3,m4,m5,m6,m7⟩:=focus p l _ _ b o0 rec jj hok.1 hok.2.1 g1 hg;have hbS:b∈G.fp r j:=by rw[m2];simp[m3]
 obtain⟨how,hunf⟩:=hok.2.2 b hbS;have hfz:=hunf.cells m1;subst hfz
 let cur':=(cur.toList.take o0++vs++cur.toList.drop (o0+vs.length)).toArray
 let w':=w.setRow b cur'
 have hsz:cur'.size=cur.size:=by
  simp only[cur',List.size_toArray,Zf,Zh,Zn,ZH];rw[m4];omega
 have hst:(storeCells ⟨b,o0,none⟩ vs 0).run P w=.ok () w':=by
  have:=run_storeCells_at P b o0 ty vs 0 cur w m1 (by omega) (hone)
  simpa[w',cur']using this
 have hoth:∀ b',b'≠b->w'.heap[b']?=w.heap[b']?:=fun b' hb'=>setRow_other w b b' _ hb'
 have hnew0:w'.heap[b]?=some (.cells cur' ty (0,0)):=setRow_heap w b cur _ ty _ m1;have hcell:∀ i,cur'[i]?=if o0<=i/\i<o0+vs.length then vs[i-o0]? else cur[i]?:=by
  intro i;simp only[cur',List.getElem?_toArray];have l1:(cur.toList.take o0).length=o0:=by simp only[Zh,ZH];omega
  rcases Yb i o0 with hi|hi
  ·rw[VU (by omega),Zp,ZO (by omega),Zz,VT hi];simp
  ·rcases Yb i (o0+vs.length)with hi2|hi2
   ·rw[VT ⟨hi,hi2⟩,Zp,ZJ (by omega),l1,ZO (by omega)]
   ·rw[VU (by omega),Zp,ZJ (by omega),l1,ZJ (by omega),Zv];have:o0+vs.length+(i-o0-vs.length)=i:=by omega
    rw[this];simp
 have hndb:b∉S1/\b∉Sb:=by
  have hn:=hok.2.1;rw[m2]at hn;rw[Zx]at hn;obtain⟨n1,n2,n3⟩:=hn;rw[Zx]at n1;exact⟨fun hb=>n1.2.2 b m3 b hb rfl,fun hb=>n3 b (by simp[m3]) b hb rfl⟩
 have hlen':jj+vs.length<=rec.length:=by omega
 have m6':ai w (rec.take jj++((rec.drop jj).take vs.length++(rec.drop jj).drop vs.length)) ((cur.toList.drop base).take rec.length) S1:=by
  rw[ZR,ZR];exact m6
 obtain⟨Sx,Sr,rfl,x1,x2⟩:=ai.split m6';obtain⟨Sy,Sz,rfl,x3,x4⟩:=ai.split x2;have lj:(rec.take jj).length=jj:=by simp only[Zh];omega
 have ly:((rec.drop jj).take vs.length).length=vs.length:=by simp only[Zh,Zn];omega
 have ey:(((cur.toList.drop base).take rec.length).drop (rec.take jj).length).take ((rec.drop jj).take vs.length).length=(cur.toList.drop o0).take vs.length:=by
  rw[lj,ly,YS,Y7,Yi,m4]
  congr 1;omega
 have hS2:∀ c∈S2,c∈Sy:=hsub cur ty (0,0) Sy m1 (by rw[<-ey];exact x3);have hnb:∀ c∈S2,c≠b:=by
  rintro c hc0 rfl;exact hndb.1 (by simp[hS2 c hc0])
 have rd1:ai w' (rec.take jj) (((cur'.toList.drop base).take rec.length).take jj) Sx:=by
  have:=ai.keep (w':=w') _ _ _ x1 (fun c hc0=>hoth c (by rintro rfl;exact hndb.1 (by simp[hc0])));rw[lj]at this;have e:(((cur'.toList.drop base).take rec.length).take jj)=(((cur.toList.drop base).take rec.length).take jj):=by
   apply ZU;intro i;simp only[Zz,Zv,ZX];by_cases ci:i<jj
   ·have hci:=hcell (base+i);rw[VU (by omega)]at hci;rw[hci]
   ·simp[ci]
  rw[e];simpa using this
 have rd2:ai w' ls0 vs S2:=ai.keep _ _ _ hrd2 (fun c hc0=>hoth c (hnb c hc0));have rd3:ai w' ((rec.drop jj).drop vs.length) (((cur'.toList.drop base).take rec.length).drop (jj+vs.length)) Sz:=by
  have:=ai.keep (w':=w') _ _ _ x4 (fun c hc0=>hoth c (by rintro rfl;exact hndb.1 (by simp[hc0])));rw[lj,ly]at this;have e:(((cur'.toList.drop base).take rec.length).drop (jj+vs.length))=(((cur.toList.drop base).take rec.length).drop (jj+vs.length)):=by
   apply ZU;intro i;simp only[Zz,Zv,ZX];by_cases ci:jj+vs.length+i<rec.length
   ·have hci:=hcell (base+(jj+vs.length+i));rw[VU (by omega)]at hci;rw[hci]
   ·simp[ci]
  rw[e, <-Yi];exact this
 have hmid:(cur'.toList.drop base).take rec.length=((cur'.toList.drop base).take rec.length).take jj++(vs++((cur'.toList.drop base).take rec.length).drop (jj+vs.length)):=by
  have e3:((cur'.toList.drop base).take rec.length).drop jj=vs++((cur'.toList.drop base).take rec.length).drop (jj+vs.length):=by
   rw[<-Yi]
   conv=>lhs;rw[<-ZR vs.length (((cur'.toList.drop base).take rec.length).drop jj)]
   congr 1
   apply ZU;intro i;simp only[Zz,Zv,ZX];by_cases ci:i<vs.length
   ·have hci:=hcell (base+(jj+i));rw[VT (by omega)]at hci;rw[VT ci,VT (by omega),hci]
    congr 1;omega
   ·rw[VU ci,Yc (by omega)]
  rw[<-e3,ZR]
 have rdall:ai w' (rec.take jj++ls0++rec.drop (jj+ls0.length)) ((cur'.toList.drop base).take rec.length) (Sx++(S2++Sz)):=by
  rw[hmid,Zp,hvl, <-Yi];exact rd1.append (rd2.append rd3)
 have hrd:=m7 w' cur' _ _ hnew0 hsz (by
  intro i hi;rw[hcell,VU (by omega)]) (by
  simp only[Zf,Zh,Zn,hvl];omega) rdall
  (fun c hc0 hcb=>hoth c hcb)
 rw[<-lI p l rec jj _ hg]at hrd;have hS':(Sa++(Sx++(S2++Sz))++Sb).Nodup:=by
  have hn:=hok.2.1;rw[m2]at hn;have e4:Sa++(Sx++(S2++Sz))++Sb=(Sa++Sx)++S2++(Sz++Sb):=by simp
  have e5:Sa++(Sx++(Sy++Sz))++Sb=(Sa++Sx)++Sy++(Sz++Sb):=by simp
  rw[e4];rw[e5]at hn;refine p7 hn hnd2 (fun c hc0 hcA=>?_) (fun c hc0 hcB=>?_)
  ·exact(mb hn).2 c (hS2 c hc0)|>.1 hcA
  ·exact(mb hn).2 c (hS2 c hc0)|>.2 hcB
 have hlsz:∃ sz es,l=.s sz es:=by
  cases l with
  |s sz es=>exact⟨sz,es,rfl⟩
  |v y=>cases p<;>simp[bQ]at hg
  |g=>cases p<;>simp[bQ]at hg
  |m _ _=>cases p<;>simp[bQ]at hg
 obtain⟨sz,es,hls⟩:=hlsz;obtain⟨es',hes1,hes2⟩:=ww l p (rec.take jj++ls0++rec.drop (jj+ls0.length)) sz es hls;rw[<-lI p l rec jj _ hg]at hes1;obtain⟨G',s1,_⟩:=hS.upd q3 ⟨h0.ver,h0.iv+1,h0.org,.own (j3 l p ls0)⟩ (G.val r j) (Sa++(Sx++(S2++Sz))++Sb) w'
  (.inr ⟨rfl,YN _,rfl,.inl ⟨sz,es,es',by rw[hc,hls],by simp only[hes1],hes2⟩⟩) rfl rfl rfl (by simp[w'])
  (fun b' _ _ h2=>hoth b' (by rintro rfl;exact h2 l hc hbS))
  (by
    intro b1 off1 hl1;obtain⟨mm,hm⟩:=hS.noloc r _ hl1;obtain⟨b2,off2,c2,t2,u1,u2,u3,u4,u5⟩:=hS.boxes r mm hm;rw[hl1]at u1;cases u1;have hne:b1≠b:=by rintro rfl;rw[how]at u2;cases u2
    obtain⟨_,mm',bx,_,p2,p3,_⟩:=hS.leaf r j _ q3;rw[hm]at p2;cases p2;exact⟨c2,c2,t2,u3,by rw[hoth b1 hne];exact u3,rfl,fun _=>u5 j p3,fun _ _=>rfl⟩)
  (by
    intro l' hc' b1 hb1;by_cases hb:b1=b
    ·subst hb;exact .inl ⟨cur',ty,hnew0⟩
    ·exact(hok.2.2 b1 hb1).2.keep (hoth b1 hb))
  (by
    simp only;refine⟨hrd,hS',fun b1 hb1=>?_⟩;have q:b1∈G.fp r j:=by
     rw[m2];simp only[Zg]at hb1 ⊢;rcases hb1 with(q|q|q|q)|q;exact .inl (.inl q);exact .inl (.inr (.inl q));exact .inl (.inr (.inr (.inl (hS2 b1 q))));exact .inl (.inr (.inr (.inr q)));exact .inr q
    refine⟨?_,.inr ⟨l,hc,q⟩⟩;by_cases hb:b1=b
    ·subst hb;exact .inl ⟨cur',ty,hnew0⟩
    ·exact(hok.2.2 b1 q).2.keep (hoth b1 hb))
  (fun i e1=>hS.anc r j h0 (au.2 q3) i e1)
 exact⟨w',hst,G',s1⟩
theorem dE.part {hv:Value}{sz lo0 m:Nat}{base':Option Addr}{cap':Nat}(hw:dE hv sz lo0 m (.slice base' m cap')){es:af}{S:List Nat}(hr:bM w (.s sz es) hv S)(hlm:lo0+m<=es.length){l hh:Int}(h0:0<=l)(h1:l<=hh)(h2:hh<=m):
 dE hv sz (lo0+l.toNat) (hh.toNat-l.toNat) (.slice (if cap'=l.toNat then base' else base'.map (·.add (l.toNat*sz))) (hh.toNat-l.toNat) (cap'-l.toNat)):=by
 obtain⟨base,len,cap,base'',cap'',g1,g2,g3,g4,g5,g6⟩:=hw;cases g2;have hcm:(cap'-l.toNat)*sz+l.toNat*sz=cap'*sz:=by rw[<-Zq];congr 1;omega
 refine⟨base,len,cap,_,_,g1,rfl,by omega,by omega,?_,?_⟩
 ·intro e1 e2;have e3:l.toNat=0:=by omega
  have e4:lo0=0:=by omega
  have e5:m=len:=by
   simp only[bM]at hr;obtain⟨b0,n0,c0,r1,r2,_⟩:=hr;rw[g1]at r1;cases r1;omega
  have:=g5 e4 e5;rw[<-this];have e6:hh.toNat=m:=by omega
  rw[e3,e6];have:(if cap'=0 then base' else base'.map (·.add (0*sz)))=base':=by
   split;rfl
   ·cases base'<;>simp[Addr.add]
  simp only[this,Nat.sub_zero]
 ·rcases g6 with⟨r1,r3⟩|⟨b,off,off',r1,r2,r3,r4⟩;exact .inl ⟨r1,by omega⟩
  ·subst r1 r2;by_cases c:cap'=l.toNat
   ·rw[VT c];exact .inr ⟨b,off,off',rfl,rfl,by rw[c];simp;rw[c]at r3;omega,fun hp=>by omega⟩
   ·rw[VU c];refine .inr ⟨b,off,off'+l.toNat*sz,rfl,by simp[add_lit],by omega,fun hp=>?_⟩;have:=r4 (by omega);rw[this,Zq];omega
theorem dE.rd {v:Value}{sz lo m:Nat}{es:af}{hv:Value}{S:List Nat}(hr:bM w (.s sz es) hv S)(hlo:lo+m<=es.length)(hw:dE hv sz lo m v):∃ S1,bM w (.s sz ((es.drop lo).take m)) v S1/\∀ b∈S1,b∈S:=by
 obtain⟨base,len,cap,base',cap',g1,g2,g3,g4,g5,g6⟩:=hw;have hr0:=hr;simp only[bM]at hr;obtain⟨base0,len0,cap0,q1,q2,q3,q4,q5⟩:=hr;rw[g1]at q1;cases q1;have hlen:((es.drop lo).take m).length=m:=by simp only[Zh,Zn];omega
 rcases q5 with⟨e1,e3⟩|⟨b,off,cur,ty,fz,S',f1,f2,f3,f4,f5⟩
 ·refine⟨[],?_,fun b hb=>by cases hb⟩;simp only[bM];exact⟨base',m,cap',g2,hlen.symm,g3,by omega,.inl ⟨by omega,trivial⟩⟩
 ·rcases g6 with⟨r1,r3⟩|⟨b1,off1,off',r1,r2,r3,r4⟩
  ·refine⟨[],?_,fun b hb=>by cases hb⟩;simp only[bM];exact⟨base',m,cap',g2,hlen.symm,g3,by omega,.inl ⟨r3,trivial⟩⟩
  rw[r1]at f1;cases f1;obtain⟨S1,k1,k2⟩:=f4.sub lo m;by_cases hm:0<m
  ·have ho:=r4 hm;refine⟨b::S1,?_,fun c hc=>by rw[f5];rcases Zl.1 hc with rfl|hc;exact .head _;exact .tail _ (k2 c hc)⟩;simp only[bM];refine⟨base',m,cap',g2,hlen.symm,g3,by omega,.inr ⟨b,off',cur,ty,fz,S1,r2,f2,by omega,?_,rfl⟩⟩;have hl2:m*sz+lo*sz<=len*sz:=by rw[<-Zq];exact Nat.mul_le_mul_right _ (by omega)
   have:(cur.toList.drop off').take (m*sz)=(((cur.toList.drop off).take (len*sz)).drop (lo*sz)).take (((es.drop lo).take m).length*sz):=by
    apply ZU;intro k;rw[hlen,ho];simp only[Zz,Zv];by_cases ck:k<m*sz
    ·simp only[ck,if_true];rw[VT (by omega)];congr 1;omega
    ·simp[ck]
   rw[this];exact k1
  ·have hm0:m=0:=by omega
   subst hm0;refine⟨[b],?_,fun c hc=>by rw[f5];rcases Zl.1 hc with rfl|hc;exact .head _;cases hc⟩;simp only[bM,List.take_zero];exact⟨base',0,cap',g2,rfl,g3,by omega,.inr ⟨b,off',cur,ty,fz,[],r2,f2,by omega,by simp[bF],rfl⟩⟩
theorem bL.det:∀ (p:List (Nat×Nat)) (l:L) (hv:Value) (b o b' o':Nat),bL w l hv p b o->bL w l hv p b' o'->b'=b/\o'=o
 |[],l,hv,b,o,b',o',h,_=>by cases l<;>simp[bL]at h
 | (i,j)::p,l,hv,b,o,b',o',h,h'=>by
  cases l with
  | s sz es=>
    simp only[bL]at h h';obtain⟨b1,off,len,cap,y1,y2,y3⟩:=h;obtain⟨b2,off2,len2,cap2,z1,z2,z3⟩:=h';rw[y1]at z1;cases z1;cases p with
    |nil=>obtain⟨rfl,rfl⟩:=y3;exact z3
    | cons q p=>
      obtain⟨l1,v1,u1,u2,u3⟩:=y3;obtain⟨l2,v2,w1,w2,w3⟩:=z3;rw[u1]at w1;cases w1;rw[u2]at w2;cases w2;exact bL.det (q::p) _ _ _ _ _ _ u3 w3
  |_=>simp[bL]at h
theorem BR {k:Nat}{es:af}{b off len cap:Nat}{S:List Nat}(h:bM w (.s k es) (.slice (some ⟨b,off,none⟩) len cap) S)(hs:bE es)(hc:cap≠0):S=[b]:=by
 simp only[bM]at h;obtain⟨base,len',cap',e,_,_,_,h⟩:=h;cases e;rcases h with⟨q,_⟩|⟨b',off',cur,ty,fz,S',e,_,_,q,rfl⟩;exact absurd q hc
 ·cases e;rw[iD hs q]
theorem dE.own {v hv:Value}{k lo m:Nat}{es:af}{S:List Nat}(hw:dE hv k lo m v)(hr:bM w (.s k es) hv S)(hlo:lo+m<=es.length)(hsc:bE es)(hst:bE ((es.drop lo).take m)):
 ∃ S2,bM w (.s k ((es.drop lo).take m)) v S2/\S2.Nodup/\∀ S3,bM w (.s k es) hv S3->∀ c∈S2,c∈S3:=by
 obtain⟨S1,k1,_⟩:=dE.rd hr hlo hw;obtain⟨base,len,cap,base',cap',g1,g2,g3,g4,g5,g6⟩:=id hw;subst g1 g2;by_cases hc:cap'=0
 ·subst hc;refine⟨[],?_,ZQ,fun S3 _ c hc=>by cases hc⟩;simp only[bM]at k1 ⊢;obtain⟨base0,len0,cap0,q1,q2,q3,q4,_⟩:=k1;cases q1;exact⟨_,_,_,rfl,q2,q3,q4,.inl ⟨rfl,trivial⟩⟩
 ·rcases g6 with⟨_,q⟩|⟨b,off,off',r1,r2,r3,r4⟩;exact absurd q hc
  ·subst r1 r2;have e:=BR k1 hst hc;subst e;refine⟨[b],k1,by simp,fun S3 h3 c hc3=>?_⟩;rw[BR h3 hsc (by omega)];exact hc3
theorem sM:∀ {es:af} {m:Nat},bE es->bE (es.take m)
 |[],m,_=>by simp[bE]
 |e::es,0,_=>by simp[bE]
 |e::es,m+1,h=>⟨h.1,sM h.2⟩
theorem sL:∀ {es:af} {m:Nat},bE es->bE (es.drop m)
 |[],m,_=>by simp[bE]
 |e::es,0,h=>h
 |e::es,m+1,h=>sL (es:=es) h.2
theorem nested (hS:aP cx G g a w){r j ver iv lo m:Nat}{p:List (Nat×Nat)}{v:Value}(hx:gW (gl g) G w (.vn r j ver iv p lo m) v){h:Hv}(q1:gl g r j=some h)(hgd:gP h ver iv=true){l:L}(hc:h.c=.own l){k:Nat}{es:af}(hs:fC l p=some (k,es)):
 ∃ rec o bb oo hv S,bQ l p=some (rec,o)/\rec[o]?=some (.s k es)/\bL w l (G.val r j) p bb oo/\w.cell? ⟨bb,oo,none⟩=some hv/\lo+m<=es.length/\dE hv k lo m v/\bM w (.s k es) hv S/\S.Nodup:=by
 obtain⟨h2,f1,f2,f2',fne,f3⟩:=hx;rw[q1]at f1;cases f1;unfold fC at hs;cases hg:bQ l p with
 |none=>simp[hg]at hs
 | some pr=>
   obtain⟨rec,j0⟩:=pr;simp only[hg]at hs;split at hs
   case h_2=>cases hs
   rename_i sz es' hrec;cases hs;obtain⟨bb,oo,hvv,f4,f5,f6,f7⟩:=f3 hgd l rec j0 k es hc hg hrec;have hok:=hS.hok q1;simp only[dN,hc]at hok;obtain⟨cur,ty,fz,base,Sa,S1,Sb,m1,m2,m3,m4,m5,m6,_⟩:=focus p l _ _ bb oo rec j0 hok.1 hok.2.1 f4 hg;obtain⟨Sp,Sx,Sq,v',k1,k2,k3⟩:=m6.at j0 _ hrec;have hvv':v'=hvv:=by
    have:=dt m1 k2;rw[<-m4,f5]at this;exact(YB this).symm
   subst hvv';have hn:=hok.2.1;rw[m2]at hn;have hn1:=(mb hn).1;rw[k1]at hn1;exact⟨rec,j0,bb,oo,v',Sx,rfl,hrec,f4,f5,f6,f7,k3,(mb hn1).1⟩
end
def uT (pr:(Unit->Prop)->Prop)(ad:Nat->Int->Nat)(df:Int->Int->Nat)(zi:Nat->Int)(el:TypeId->Option (TypeId×TI×Nat))(n:Nat)(d:Option Tmp)(t:TypeId)(x:Operand)(low high max:Option Operand):Rd Out:=
 match el t,max with
 | some (_,ti,_),none=>fk x fun
   | .vn r j ver iv p lo m=>gp r j fun h=>match h.c with
     | .own l=>if gP h ver iv then d5 low 0 fun a=>d5 high (zi m) fun b=>
        .req (pr fun _=>0<=a/\a<=b/\b<=m/\∃ es,fC l p=some (ti.zero.length,es)) (bG n d (.one (.vn r j ver iv p (ad lo a) (df b a))))else .fail
     |_=>.fail
   |_=>.fail
 |_,_=>.fail
def rI (pr:(Unit->Prop)->Prop)(ps:OL)(sub:af->Nat->Nat->af)(up:UpF)(ty:TypeId->Option TI)(t:TypeId)(x y:Operand):Rd Out:=
 match ty t with
 |none=>.fail
 | some ti=>match ti.slots with
   | [some k]=>fk x fun
     | .pn r j ver iv p=>fk y fun
       | .vn r2 j2 ver2 iv2 p2 lo m=>if ZL r r2&&ZL j j2 then gp r j fun h=>if vV h ver iv p&&gP h ver2 iv2 then match h.c with
         | .own (.s sz es)=>.req (pr fun _=>p=p2/\fC (.s sz es) p=some (k,ps (.s sz es) p)/\bE (ps (.s sz es) p))
            (.ret (.ws [.leaf r j ⟨h.ver,h.iv+1,h.org,.own (.s sz (up (.s sz es) p [.s k (sub (ps (.s sz es) p) lo m)]))⟩]))
         |_=>.fail else .fail else .fail
       |_=>.fail
     |_=>.fail
   |_=>.fail
section
variable {P: Program} {o: Oper} {cx: Cx} {G: Gh} {g: Gm} {a: Act} {w: World} {ls: List Loc} {ws: List W} {K: Act -> World -> Prop} {Q: Exit -> Act -> World -> Prop}
theorem xQ {t:TypeId}{x:Operand}{lo hi mx:Option Operand}(ho:o.op=.slice t x lo hi mx)(hS:aP cx G g a w)(h:(uT mf (fun lo i=>lo+i.toNat) (fun h l=>h.toNat-l.toNat) (fun n=>n) (x9 P) cx.n o.dst t x lo hi mx).Runs g ls (.ws ws)) 
 (hk:∀ a' w',d6 cx (aU g ws) a' w'->K a' w'):o.wp P a w K Q:=by
 unfold uT at h;split at h
 ·rename_i e ti bytes hel;obtain⟨x0,ls',hx,h⟩:=bz hS h;cases x0 with
  | vn r j ver iv p lo0 m=>
    simp only at h;obtain⟨hv,ls3,q1,_,h⟩:=bD h;split at h
    ·rename_i l hc;split at h
     ·rename_i hgd;obtain⟨la,ls2,h,hl⟩:=eR hS h;obtain⟨hh,ls3,h,hhi⟩:=eR hS h;obtain⟨⟨h0,h1,h2,es,hes⟩,h⟩:=h;obtain⟨rec,o0,bb,oo,hvv,S,n1,n2,n3,n4,n5,n6,n7,n8⟩:=nested hS hx q1 hgd hc hes;obtain⟨_,f1,f2,f3,fne,_⟩:=hx;rw[q1]at f1;cases f1;obtain⟨base,len,cap,base',cap',g1,g2,g3,g4,g5,g6⟩:=id n6;rw[g2]at n6;have hw:=n6.part n7 n5 h0 h1 h2;refine aY hS h ?_ (sN hel base' m cap' g2 la hh hl hhi h0 h1 (by omega) ho) hk;simp only[cM];refine⟨hv,q1,f2,f3,fne,fun _ l' rec' o' sz' es' hc' hr' hr2=>?_⟩;rw[hc]at hc';cases hc';rw[n1]at hr';cases hr';rw[n2]at hr2;cases hr2;exact⟨bb,oo,hvv,n3,n4,by omega,hw⟩
     ·exact h.elim
    ·exact h.elim
  |_=>exact h.elim
 ·exact h.elim
theorem xR {t:TypeId}{x y:Operand}(ho:o.op=.store t x y)(hdst:o.dst=none)(hS:aP cx G g a w)(h:(rI mf kh (fun es lo m=>(es.drop lo).take m) jq (lp P) t x y).Runs g ls (.ws ws)) 
 (hk:∀ a' w',d6 cx (aU g ws) a' w'->K a' w'):o.wp P a w K Q:=by
 unfold rI at h;split at h
 ·exact h.elim
 ·rename_i ti hti;split at h
  case h_2=>exact h.elim
  rename_i k hsl;obtain⟨x0,ls1,hx,h⟩:=bz hS h;cases x0 with
  | pn r j ver iv p=>
    obtain⟨y0,ls2,hy,h⟩:=bz hS h;cases y0 with
    | vn r2 j2 ver2 iv2 p2 lo m=>
      simp only at h;split at h
      case isFalse=>exact h.elim
      rename_i hrj;simp only[Zc]at hrj;have e1:=Z5 hrj.1;have e2:=Z5 hrj.2;subst e1 e2;obtain⟨h0,ls3,q1,q2,hq⟩:=bD h;split at hq
      case isFalse=>exact hq.elim
      rename_i hgd;simp only[Zc]at hgd;split at hq
      case h_2=>exact hq.elim
      rename_i sz es hc;obtain⟨⟨rfl,hes,hsc⟩,hq⟩:=hq;simp only[Rd.Runs,Out.ws.injEq]at hq;obtain⟨_,rfl⟩:=hq;obtain⟨rec,o0,bb,oo,hvv,S,n1,n2,n3,n4,n5,n6,n7,n8⟩:=nested hS hy q1 hgd.2 hc hes;obtain⟨h1,f1,f2,f3,f4,f5⟩:=hx;rw[q1]at f1;cases f1;obtain⟨b,o1,g1,g2⟩:=f5 hgd.1 _ hc;obtain⟨e3,e4⟩:=bL.det _ _ _ _ _ _ _ g1 n3;subst e3 e4;obtain⟨S2,k1,knd,k2⟩:=n6.own n7 n5 hsc (sM (sL hsc));have hlt:o0<rec.length:=(ZC.1 n2).1;obtain⟨w',s1,s2⟩:=hS.storeAt (P:=P) q2 hc g1 n1 [.s k (((kh (.s sz es) p).drop lo).take m)] [a.eval y] S2 (by simp;omega) rfl (by simpa using bM.one k1) (by simp only[ai];exact⟨_,[],S2,[],rfl,k1,⟨rfl,rfl⟩,by simp⟩)
       knd (by
        intro cur ty fz Sy m1 m2 c hc2;have er:(rec.drop o0).take [a.eval y].length=[.s k (kh (.s sz es) p)]:=by
         simp only[Zj,Zk,ZS];rw[List.take_one,List.head?_drop,n2];rfl
        rw[er]at m2;simp only[ai]at m2;obtain⟨v0,vs0,S3,S4,x1,x2,⟨x3,x4⟩,x5⟩:=m2;have e0:v0=hvv:=by
         have hx1:((cur.toList.drop oo).take 1)[0]?=some v0:=by rw[show(cur.toList.drop oo).take 1=_ from x1];rfl
         rw[Zz,VT (by omega),Zv,Yr,ZX]at hx1;have:=n4;simp only[World.cell?,m1]at this;rw[hx1]at this;exact YB this
        subst e0;rw[x5,x4,ZY];exact k2 S3 x2 c hc2)
      obtain⟨iti,z,ei1,ei2,ei3,ei4,ei5⟩:=eO hti;have hzl:=(eV ei4).2.2;refine kZ hdst (nu hti ho g2 (my (vs:=[a.eval y]) (.inr rfl) (by simpa using bM.one k1)) (by rw[<-hzl,hsl];rfl) s1) (hk _ _ ?_);simp only[aU];have eu:(L.s sz (jq (.s sz es) p [.s k (((kh (.s sz es) p).drop lo).take m)]))=j3 (.s sz es) p [.s k (((kh (.s sz es) p).drop lo).take m)]:=(wM n1).symm;rw[eu];exact s2
    |_=>exact h.elim
  |_=>exact h.elim
end
end Go.V
namespace Go.V
def CC (P:Program)(f:FuncId)(ds res:List DV):Prop:=
 ∀ (w:World) (vs:List Value) (S:List Nat),bW w ds vs S->S.Nodup->(∀ b∈S,eh w b)->
  Calls P f vs.toArray w fun e w'=>∃ v Sr,e=.returned v/\gq w' res v Sr/\Sr.Nodup/\(∀ b∈Sr,eh w' b/\(w.heap.size<=b\/b∈S))/\Same (fun b=>b∉S) w w'
abbrev OJ :=List DV->Option ((Unit->Prop)×List DV)
section
variable (tk: ∀ {β : Type}, List (Option Nat) -> List A -> (List (L × Option Nat) -> List (Nat × Nat) -> Rd β) -> Rd β) (ty: TypeId -> Option TI)
def GC {α:Type}(t:TypeId)(x:Operand)(k:DV->List (Nat×Nat)->Rd α):Rd α:=
 match ty t with
 |none=>.fail
 | some ti=>ev x fun val=>match val with
   | .one a=>if ti.agg then .fail else tk ti.slots [a] fun lts srcs=>match lts with
     |[(l,_)]=>k (.one l) srcs
     |_=>.fail
   | .agg as=>if ti.agg then tk ti.slots as fun lts srcs=>k (.agg (lts.map (·.1))) srcs else .fail
   | .tup _=>.fail
def wP {α:Type}:List TypeId->List Operand->(List DV->List (Nat×Nat)->Rd α)->Rd α
 |[],[],k=>k [] []
 |t::ts,x::xs,k=>GC tk ty t x fun d src=>wP ts xs fun ds srcs=>k (d::ds) (src++srcs)
 |_,_,_=>.fail
def sV (pr:(Unit->Prop)->Prop)(n:Nat)(d:Option Tmp)(body:Bool)(ts:Array TypeId)(args:Array Operand)(mk:OJ)(rw:Nat->List DV->List W):Rd Out:=
 if body then wP tk ty ts.toList args.toList fun ds srcs=>match mk ds with
  |some (pre,res)=>.req (pr pre) (if bC srcs then iH srcs fun w1=>fresh n d fun d=>.ret (.ws (w1++rw d res))else .fail)
  |none=>.fail
 else .fail
end
section
variable {P: Program} {o: Oper} {cx: Cx} {G: Gh} {g: Gm} {a: Act} {w: World} {ls: List Loc} {ws: List W} {K: Act -> World -> Prop} {Q: Exit -> Act -> World -> Prop}
theorem JL (hS:aP cx G g a w){d:Nat}(hlt:d<cx.n)(hm:g (.meta_ d)=none){res:List DV}{v:Value}{S:List Nat}{w':World}(hres:gq w' res v S)(hnd:S.Nodup)(hfr:∀ b∈S,eh w' b/\pI g G w b)(hos:w'.os=w.os)(htape:w'.tape=w.tape)(hout:w'.output=w.output)(hsize:w.heap.size<=w'.heap.size) 
 (hsame:∀ b,b<w.heap.size->(∀ r j,G.ow b=some (.leaf r j)->∃ h l,gl g r j=some h/\h.c=.own l)->w'.heap[b]?=w.heap[b]?):
 d6 cx (aU g (dC d res)) (a.put (some d) v) w':=by
 obtain⟨vs,lv,hlv,hv⟩:∃ vs lv,yO w' res vs lv S/\((∃ dv,res=[dv]/\vs=[v])\/v=.tuple vs.toArray/\∀ dv,res≠[dv]):=by
  cases res with
  |nil=>obtain⟨vs,e,h2⟩:=hres;obtain⟨lv,k⟩:=bW.lv h2;exact⟨vs,lv,k,.inr ⟨e,fun dv e=>by cases e⟩⟩
  | cons d1 rest=>
    cases rest with
    | nil=>
      have h2:bW w' [d1] [v] S:=by simp only[bW];exact⟨v,[],S,[],rfl,hres,⟨rfl,rfl⟩,by simp⟩
      obtain⟨lv,k⟩:=bW.lv h2;exact⟨[v],lv,k,.inl ⟨d1,rfl,rfl⟩⟩
    |cons d2 rest=>obtain⟨vs,e,h2⟩:=hres;obtain⟨lv,k⟩:=bW.lv h2;exact⟨vs,lv,k,.inr ⟨e,fun dv e=>by cases e⟩⟩
 have hrec:=hlv.rec_;obtain⟨Ss,s1,s2,s3⟩:=hrec.items;rw[<-s1]at hnd;obtain⟨G',k1,k2,_,_⟩:=hS.newRoot' hm false ((res.flatMap bK).map fun l=>⟨0,0,none,.own l⟩) w' hos htape hout hsize hsame (fun j=>lv.getD j undef) (fun j=>Ss.getD j [])
  (by
    intro j h hj;simp only[ZE,ZA]at hj;obtain⟨l,e1,rfl⟩:=hj;obtain⟨u,q1,q2⟩:=s3 j l e1;simp only[CB];refine⟨by simpa[ZF,q1]using q2,jd hnd j,fun b hb=>?_⟩;exact hfr b (by rw[<-s1];exact fX hb))
  (by
    intro j h hj;simp only[ZE,ZA]at hj;obtain⟨l,e1,rfl⟩:=hj;exact eZ.none)
  (fun i j _ _ hij=>fW hnd i j hij) 0 0 (by simp)
 simp only[dC,aU];refine⟨G',k1.put hlt ?_⟩;have hgl:∀ i l,(res.flatMap bK)[i]?=some l->gl ((W.root d false ((res.flatMap bK).map fun l=>⟨0,0,none,.own l⟩)).app g) d (0+i)=some ⟨0,0,none,.own l⟩:=by
  intro i l e;simp[gl,W.app,e]
 have hval:∀ i u,lv[i]?=some u->G'.val d (0+i)=u:=by
  intro i u e;rw[k2,ZS];simp[ZF,e]
 have hall:=oR (G:=G') res 0 vs lv S hlv (fun i l e=>⟨none,hgl i l e⟩) hval;rcases hv with⟨dv,rfl,rfl⟩|⟨rfl,hne⟩
 ·simp only[iC];simp only[kT,iI]at hall;obtain⟨v',vs',e,h1,_⟩:=hall;cases e;exact h1
 ·have:iC d res=.tup (kT d 0 res):=by
   unfold iC;split;exact absurd rfl (hne _);rfl
  rw[this];simp only[cM];exact⟨vs,rfl,hall⟩
theorem Cp.tok2 (hS:aP cx G g a w){ls:List (L×Option Nat)}{srcs:List (Nat×Nat)}{vs:List Value}{Ss:List (List Nat)}(h:Cp g G w ls srcs vs Ss):
 ∀ b∈Ss.flatten,eh w b/\∃ r j,(r,j)∈srcs/\G.ow b=some (.leaf r j):=by
 induction h with
 |nil=>intro b hb;simp at hb
 | cons h hs ih=>
   have f:=h.facts hS;intro b hb;rw[List.flatten_cons,Zg]at hb;rcases hb with hb|hb
   ·obtain⟨u,r,j,m1,m2⟩:=f.2.2 b hb;exact⟨u,r,j,by simp[m1],m2⟩
   ·obtain⟨u,r,j,m1,m2⟩:=ih b hb;exact⟨u,r,j,by simp[m1],m2⟩
def TkD (g:Gm)(G:Gh)(w:World)(ds:List DV)(srcs:List (Nat×Nat))(vs:List Value)(S:List Nat):Prop:=
 bW w ds vs S/\(bC srcs=true->S.Nodup)/\∀ b∈S,eh w b/\∃ r j,(r,j)∈srcs/\G.ow b=some (.leaf r j)
theorem Ec (hS:aP cx G g a w){t:TypeId}{x:Operand}{α:Type}{k:DV->List (Nat×Nat)->Rd α}{ls:List Loc}{out:α}(h:(GC cU (lp P) t x k).Runs g ls out):
 ∃ d src S ls',gY w d (a.eval x) S/\(bC src=true->S.Nodup)/\(∀ b∈S,eh w b/\∃ r j,(r,j)∈src/\G.ow b=some (.leaf r j))/\(k d src).Runs g ls' out:=by
 unfold GC at h;cases hti:lp P t with
 |none=>simp only[hti]at h;exact h.elim
 | some ti=>
   simp only[hti]at h;obtain⟨r,ls1,hr,h⟩:=dk hS h;cases r with
   | one x0=>
     simp only[cM]at hr;simp only at h;split at h
     ·exact h.elim
     ·obtain⟨lts,srcs,Ss,ls2,ht,hl,h⟩:=eU hS _ [x0] [a.eval x] (by simp[bS,hr]) _ _ _ h;split at h
      ·rename_i l og;have hrec:=ht.rec_ hS;simp only[ZT,List.map_nil,ai]at hrec;obtain⟨v,vs',S1,S2,e1,k2,⟨e2,e3⟩,e4⟩:=hrec;cases e1;rw[e3,ZY]at e4;refine⟨.one l,srcs,S1,ls2,k2,fun hd=>?_,fun b hb=>?_,h⟩
       ·have:=(ht.facts hS hd).1;rwa [e4]at this
       ·have:=ht.tok2 hS b (by rw[e4];exact hb);exact this
      ·exact h.elim
   | agg as=>
     simp only[cM]at hr;obtain⟨vs,e,hr⟩:=hr;simp only at h;split at h
     ·obtain⟨lts,srcs,Ss,ls2,ht,hl,h⟩:=eU hS _ as vs hr _ _ _ h;have hrd:gY w (.agg (lts.map (·.1))) (a.eval x) Ss.flatten:=⟨vs,e,ht.rec_ hS⟩;exact⟨_,srcs,Ss.flatten,ls2,hrd,fun hd=>(ht.facts hS hd).1,ht.tok2 hS,h⟩
     ·exact h.elim
   |tup rs=>exact h.elim
theorem tP (hS:aP cx G g a w){α:Type}:∀ (ts:List TypeId) (xs:List Operand) (k:List DV->List (Nat×Nat)->Rd α) (ls:List Loc) (out:α),(wP cU (lp P) ts xs k).Runs g ls out->
 ∃ ds srcs S ls',TkD g G w ds srcs (xs.map a.eval) S/\(k ds srcs).Runs g ls' out
 |[],[],k,ls,out,h=>⟨[],[],[],ls,⟨⟨rfl,rfl⟩,fun _=>ZQ,by simp⟩,h⟩
 |[],_::_,k,ls,out,h=>h.elim
 |_::_,[],k,ls,out,h=>h.elim
 | t::ts,x::xs,k,ls,out,h=>by
   simp only[wP]at h;obtain⟨d,src,S,ls2,k1,k2,k3,h⟩:=Ec hS h;obtain⟨ds,srcs,S',ls3,⟨m1,m2,m3⟩,h⟩:=tP hS ts xs _ _ _ h;refine⟨_,_,S++S',ls3,⟨?_,fun hd=>?_,fun b hb=>?_⟩,h⟩
   ·simp only[ZT,bW];exact⟨_,_,S,S',rfl,k1,m1,rfl⟩
   ·obtain⟨d1,d2,d3⟩:=cY hd;rw[Zx];refine⟨k2 d1,m2 d2,fun b hb b' hb' e=>?_⟩;subst e;obtain⟨_,r,j,q1,q2⟩:=k3 b hb;obtain⟨_,r',j',q3,q4⟩:=m3 b hb';rw[q2]at q4;cases q4;exact d3 _ q1 q3
   ·rcases Zg.1 hb with hb|hb
    ·obtain⟨u,r,j,q1,q2⟩:=k3 b hb;exact⟨u,r,j,by simp[q1],q2⟩
    ·obtain⟨u,r,j,q1,q2⟩:=m3 b hb;exact⟨u,r,j,by simp[q1],q2⟩
theorem Am {f:FuncId}{ts:Array TypeId}{args:Array Operand}(ho:o.op=.call {callee:=.value (.func f),args:=args,argTypes:=ts})(hS:aP cx G g a w){mk:OJ} 
 (hmk:∀ ds pre res,mk ds=some (pre,res)->pre ()->CC P f ds res) (h:(sV cU (lp P) mf cx.n o.dst (dd P f) ts args mk dC).Runs g ls (.ws ws))
 (hk:∀ a' w',d6 cx (aU g ws) a' w'->K a' w'):o.wp P a w K Q:=by
 unfold sV at h;split at h
 case isFalse=>exact h.elim
 rename_i hbody;obtain⟨ds,srcs,S,ls1,⟨t1,t2,t3⟩,h⟩:=tP hS _ _ _ _ _ h;split at h
 case h_2=>exact h.elim
 rename_i pre res he;obtain⟨hpre,h⟩:=h;split at h
 case isFalse=>exact h.elim
 rename_i hdist;obtain⟨w1,ls2,hS1,h,hg1,hg2⟩:=fD srcs g hS (fun _ _ _=>rfl) hdist _ _ _ h;obtain⟨d,ls3,hd,hlt,hm,h⟩:=cL h;simp only[Rd.Runs,Out.ws.injEq]at h;obtain⟨_,rfl⟩:=h;have hm1:aU g w1 (.meta_ d)=none:=by rw[hg2 _ (by intro r j e;cases e)];exact hm
 have hex:(execOp a.eval o).run P w=.ok (.enter f (args.map a.eval)) w:=by
  unfold execOp;simp only[ho,resolve,ZK,Y9,ZP,Yn,Z1,invoke,Xa,XF];exact ew hbody _
 unfold YK;rw[hex];simp only[Y6];have hcall:=hmk ds pre res he hpre w (args.toList.map a.eval) S t1 (t2 hdist) (fun b hb=>(t3 b hb).1);have harr:(args.toList.map a.eval).toArray=args.map a.eval:=by rw[<-Yy,Yz]
 rw[harr]at hcall;refine hcall.mono ?_;rintro e w' ⟨v,Sr,rfl,hres,hnd,hfr,hsame⟩;rw[hd];have gone:∀ b∈S,∃ r j,G.ow b=some (.leaf r j)/\∀ h l,gl (aU g w1) r j=some h->h.c=.own l->False:=by
  intro b hb;obtain⟨_,r,j,m1,m2⟩:=t3 b hb;refine⟨r,j,m2,fun h l e1 e2=>?_⟩;obtain⟨h',q1,q2⟩:=hg1 r j m1;rw[au,q1]at e1;cases e1;rw[q2]at e2;cases e2
 rw[show aU g (w1++dC d res)=aU (aU g w1) (dC d res)from cp g w1 _]at hk;refine hk _ _ (JL hS1 hlt hm1 hres hnd (fun b hb=>⟨(hfr b hb).1,?_⟩) hsame.os hsame.tape hsame.output hsame.size (fun b hb hl=>?_))
 ·rcases(hfr b hb).2 with q|q;exact .inl q
  ·obtain⟨r,j,m1,m2⟩:=gone b q;exact .inr ⟨r,j,m1,m2⟩
 ·refine hsame.block b hb (fun q=>?_);obtain⟨r,j,m1,m2⟩:=gone b q;obtain⟨h,l,e1,e2⟩:=hl r j m1;exact m2 h l e1 e2
end
end Go.V
namespace Go.V
open Go.MapKept
open Go.ChangeMaps (setBlock)
def kOf:Value->Int
 | .int _ n=>n
 |_=>0
def m9 (es:af):List Int:=es.map fun e=>kOf (match e with
 | .v x::_=>x
 |_=>.bool false)
theorem zw {kb:Bool}:∀ {l:List MapEntry} {es:af},dW kb l es->(∀ e∈l,∃ k∈m9 es,e.key=.int Za k)/\(∀ k∈m9 es,∃ e∈l,e.key=.int Za k)/\l.length=es.length
 | [],es,h=>by
   have h:es=[]:=h;subst h;exact⟨(fun e he=>by cases he),(fun k hk=>by cases hk),rfl⟩
 | e::l,es,h=>by
   obtain⟨k,r,e1,e2,e3,e4⟩:=h;subst e1;obtain⟨h1,h2,h3⟩:=zw e4;refine⟨fun x hx=>?_,fun k' hk=>?_,by simp[h3]⟩
   ·rcases Zl.1 hx with rfl|hx;exact⟨k,by simp[m9,kOf],e2⟩
    ·obtain⟨k',q1,q2⟩:=h1 x hx;exact⟨k',by simp only[m9,ZT,Zl];exact .inr q1,q2⟩
   ·simp only[m9,ZT,Zl,kOf]at hk;rcases hk with rfl|hk;exact⟨e,by simp,e2⟩
    ·obtain⟨e',q1,q2⟩:=h2 k' hk;exact⟨e',by simp[q1],q2⟩
def s7 (mp:TypeId->Option Bool)(n:Nat)(d:Option Tmp)(t:TypeId)(x:Operand):Rd Out:=
 match mp t,d with
 | some kb,some d=>if d<n then fk x fun
    | .mv r j ver=>gp r j fun h=>match h.c with
      | .own (.m kb' es)=>if h.ver==ver&&kb'==kb then .ret (.ws [.leaf r j ⟨h.ver+1,h.iv,none,.gone⟩,.reg d (.one (.it es []))])else .fail
      |_=>.fail
    |_=>.fail else .fail
 |_,_=>.fail
def xc (n:Nat)(d:Option Tmp)(x:Operand):Rd Out:=
 fk x fun
  | .it _ (k::_)=>bG n d (.tup [.j k,.one .un])
  |_=>.fail
def sX (cm:TypeId->Option (List Bool))(n:Nat)(d:Option Tmp)(t:TypeId)(x:Operand)(f:Nat):Rd Out:=
 match cm t with
 |none=>.fail
 | some ks=>ev x fun
   | .agg as=>match as[f]?,ks[f]? with
     |some y,some _=>bG n d (.one y)
     |_,_=>.fail
   |_=>.fail
theorem Hw {P:Program}:∀ {fs:List Field} {j:Nat} {ks:List Bool} {f:Nat} {k:Bool},KJ P j fs=some ks->ks[f]?=some k->∃ fd,fs[f]?=some fd/\fd.offset=j+f/\(P.underlying fd.type=some .bool\/∃ ik,P.underlying fd.type=some (.int ik))
 |[],j,ks,f,k,h,hk=>by simp only[KJ,Ya]at h;subst h;simp at hk
 | fd::fs,j,ks,f,k,h,hk=>by
   simp only[KJ]at h;split at h
   ·rename_i hc;simp only[Zc,beq_iff_eq]at hc;split at h
    ·rename_i k0 ks0 e1 e2;cases h;cases f with
     | zero=>
       refine⟨fd,rfl,hc.2,?_⟩;unfold cmL at e1;split at e1
       ·rename_i ik e;exact .inr ⟨ik,e⟩
       ·rename_i e;exact .inl e
       ·cases e1
     | succ f=>
       simp at hk;obtain⟨fd',g1,g2,g3⟩:=Hw e2 hk;exact⟨fd',by simpa using g1,by omega,g3⟩
    ·cases h
   ·cases h
theorem bS.at {γ:Nat->Nat->Option Hv}{G:Gh}{w:World}:∀ {as:List A} {vs:List Value} {f:Nat} {y:A},bS γ G w as vs->as[f]?=some y->∃ v,vs[f]?=some v/\gW γ G w y v
 |[],_,f,y,_,h=>by simp at h
 | a::as,_,f,y,hx,h=>by
   obtain⟨v,vs',e,h1,h2⟩:=hx;subst e;cases f with
   |zero=>simp at h;subst h;exact⟨v,rfl,h1⟩
   |succ f=>simp at h;obtain⟨v',g1,g2⟩:=bS.at h2 h;exact⟨v',by simpa using g1,g2⟩
section
variable {P: Program} {o: Oper} {cx: Cx} {G: Gh} {g: Gm} {a: Act} {w: World} {ls: List Loc} {ws: List W} {K: Act -> World -> Prop} {Q: Exit -> Act -> World -> Prop}
theorem aP.iter (hS:aP cx G g a w){bm r j:Nat}{h:Hv}(hh:g (.leaf r j)=some (.h h))(hc:h.c=.gone)(ho:G.ow bm=some (.leaf r j))(ob:Obj):
 aP cx {G with ow:=fun b=>if b=bm\/b=w.heap.size then some .fz else G.ow b} g a (w.alloc ob):=by
 let G2:Gh:={G with ow:=fun b=>if b=bm\/b=w.heap.size then some .fz else G.ow b}
 have keep:∀ b t,G.ow b=some t->t≠ .leaf r j->G2.ow b=some t:=by
  intro b t ht hn;have h1:¬ (b=bm\/b=w.heap.size):=by
   rintro(rfl|rfl)
   ·rw[ho]at ht;cases ht;exact hn rfl
   ·exact absurd (hS.lt _ _ ht) (Wi _)
  show(if b=bm\/b=w.heap.size then some Tok.fz else G.ow b)=some t;rw[VU h1];exact ht
 have old:∀ b t,G.ow b=some t->(w.alloc ob).heap[b]?=w.heap[b]?:=fun b t ht=>heap_alloc_old w ob (hS.lt b t ht)
 have lf:∀ r' j' h' l,gl g r' j'=some h'->h'.c=.own l->Tok.leaf r' j'≠ .leaf r j:=by
  intro r' j' h' l e hl q;cases q;rw[au,hh]at e;cases e;rw[hc]at hl;cases hl
 have st:Step g G w g G2 (w.alloc ob):=by
  refine⟨fun r1 j1 h1 e=>⟨h1,e,.inl ⟨rfl,rfl,fun l hl b hb=>?_⟩⟩,fun b hb=>⟨keep b _ hb (by simp),old b _ hb⟩,fun b hb=>⟨?_,old b _ hb⟩,fun _ _ h=>h⟩
  ·have:=hS.hok e;simp only[dN,hl]at this;exact old b _ (this.2.2 b hb).1
  ·exact keep b _ hb (by simp)
 have fro:∀ b,(b=bm\/b=w.heap.size)->b<cx.w0.heap.size->cx.fr b->False:=by
  rintro b (rfl|rfl) h1 h2
  ·rcases hS.frow _ h1 h2 with q|q<;>(rw[ho]at q;cases q)
  ·exact absurd (Yt h1 hS.frame.size) (Wi _)
 have hsz:w.heap.size<=(w.alloc ob).heap.size:=by show w.heap.size<=(w.heap.push ob).size;rw[Vn];omega
 refine⟨hS.defers,hS.tm,?_,?_,?_,hS.metas,hS.noloc,?_,?_,?_,hS.anc,hS.aloc,?_,hS.sep,hS.newb,?_⟩
 ·intro d x hx;obtain⟨h1,r1,e,h2⟩:=hS.reg d x hx;exact⟨h1,r1,e,cM.step hS st r1 _ h2⟩
 ·intro r1 k hk;obtain⟨b,off,cur,ty,f1,f2,f3,f4⟩:=hS.boxes r1 k hk;exact⟨b,off,cur,ty,f1,keep b _ f2 (by simp),by rw[old b _ f2];exact f3,f4⟩
 ·intro r1 j1 x hx;obtain⟨h1,k,box,e1,e2,e3,e4⟩:=hS.leaf r1 j1 x hx;refine⟨h1,k,box,e1,e2,e3,?_⟩;unfold dN at e4 ⊢;split at e4
  ·rename_i l hl;subst e1;have hne:=lf r1 j1 h1 l (au.2 hx) hl;exact⟨bM.keep _ _ _ e4.1 (fun b hb=>old b _ (e4.2.2 b hb).1),e4.2.1,fun b hb=>⟨keep b _ (e4.2.2 b hb).1 hne,(e4.2.2 b hb).2.keep (old b _ (e4.2.2 b hb).1)⟩⟩
  ·obtain⟨S,q1,q2⟩:=e4;exact⟨S,bM.keep _ _ _ q1 (fun b hb=>old b _ (q2 b hb)),fun b hb=>keep b _ (q2 b hb) (by simp)⟩
  ·trivial
 ·intro b t ht;have ht:(if b=bm\/b=w.heap.size then some Tok.fz else G.ow b)=some t:=ht;have hs:(w.alloc ob).heap.size=w.heap.size+1:=by show(w.heap.push ob).size=_;rw[Vn]
  split at ht
  ·rename_i c;rcases c with rfl|rfl
   ·have:=hS.lt _ _ ho;omega
   ·omega
  ·have:=hS.lt b t ht;omega
 ·exact⟨hS.frame.os,hS.frame.tape,hS.frame.output,Nat.le_trans hS.frame.size hsz,fun b h1 h2=>by rw[heap_alloc_old w ob (Yt h1 hS.frame.size)];exact hS.frame.block b h1 h2⟩
 ·intro b h1 h2;show(if b=bm\/b=w.heap.size then some Tok.fz else G.ow b)=none\/(if b=bm\/b=w.heap.size then some Tok.fz else G.ow b)=some .ro;rw[VU (fun c=>fro b c h1 h2)];exact hS.frow b h1 h2
 ·intro r1 b off e;have q:=hS.afr r1 b off e;obtain⟨c0,c,ty,h1,h2,h3⟩:=id q;exact q.keep (heap_alloc_old w ob (ZD.1 h2).1)
 ·intro b hb;have hb:(if b=bm\/b=w.heap.size then some Tok.fz else G.ow b)=some .ro:=hb;split at hb
  ·cases hb
  ·exact hS.roX b hb
theorem As {t:TypeId}{x:Operand}(ho:o.op=.range t x)(hS:aP cx G g a w)(h:(s7 (zB P) cx.n o.dst t x).Runs g ls (.ws ws)) 
 (hk:∀ a' w',d6 cx (aU g ws) a' w'->K a' w'):o.wp P a w K Q:=by
 unfold s7 at h;split at h
 case h_2=>exact h.elim
 rename_i kb d hmp hd;split at h
 case isFalse=>exact h.elim
 rename_i hlt;obtain⟨x0,ls1,hx,h3⟩:=bz hS h;cases x0 with
 | mv r j ver=>
   obtain⟨hv,ls4,q1,q2,h4⟩:=bD h3;split at h4
   case h_2=>exact h4.elim
   rename_i kb' es hc;split at h4
   case isFalse=>exact h4.elim
   rename_i hb;simp only[Zc,beq_iff_eq]at hb;obtain⟨hb,rfl⟩:=hb;simp only[Rd.Runs,Out.ws.injEq]at h4;obtain⟨_,rfl⟩:=h4;obtain⟨h2,f1,f2,f3⟩:=hx;rw[q1]at f1;cases f1;have e:=f3 hb _ _ hc;have hok:=hS.hok q1;simp only[dN,hc,bM]at hok;obtain⟨⟨b,ents,clock,g1,g2,g3,g4,g5⟩,hnd,htok⟩:=hok;have hob:=(htok b (by rw[g5];simp)).1;have S1:=hS.gone q2;have hl1:(W.leaf r j ⟨hv.ver+1,hv.iv,none,.gone⟩).app g (.leaf r j)=some (.h ⟨hv.ver+1,hv.iv,none,.gone⟩):=by simp[W.app]
   have S2:=S1.iter hl1 rfl hob (.mapIter (some b) clock #[] clock);obtain⟨k',e',ht,_⟩:=qY (w:=w) hmp;refine cX (v:=.pointer (some ⟨w.heap.size,0,none⟩)) (w':=w.alloc (.mapIter (some b) clock #[] clock)) ?_ (hk _ _ ?_)
   ·unfold execOp;simp only[ho,e,g1];simp only[ZP,run_range_map w t k' e' b ents clock ht g2,Z2];rfl
   ·simp only[aU];rw[hd];refine⟨_,S2.put hlt ?_⟩;simp only[cM,gW];have hbl:b<w.heap.size:=(ZD.1 g2).1;obtain⟨s1,s2,s3⟩:=(stamped_iff ents clock).1 g3;refine⟨w.heap.size,b,kb',rfl,by simp,by simp,clock,clock,clock, #[],ents,heap_alloc_new w _,by rw[heap_alloc_old w _ hbl];exact g2,g3,g4,s1,Ze _,Ze _,(fun x _ hx=>by simp at hx),?_,(fun k vs' h=>by cases h)⟩;have hlen:=(zw g4).2.2;unfold leftOf;have hf:=Array.size_filter_le (p:=fun e:MapEntry=> !(#[]:Array Nat).contains e.born) (xs:=ents);rw[ZH]at hlen;simp only[Zk,Yr];omega
 |_=>exact h3.elim
theorem Ap {t:TypeId}{x:Operand}{f:Nat}(ho:o.op=.field t x f)(hS:aP cx G g a w)(h:(sX (MS P) cx.n o.dst t x f).Runs g ls (.ws ws)) 
 (hk:∀ a' w',d6 cx (aU g ws) a' w'->K a' w'):o.wp P a w K Q:=by
 unfold sX at h;split at h
 ·exact h.elim
 ·rename_i ks hcm;obtain⟨r,ls1,hx,h3⟩:=dk hS h;cases r with
  | agg as=>
    simp only at h3;split at h3
    ·rename_i y k e1 e2;simp only[cM]at hx;obtain⟨vs,ev,hx⟩:=hx;obtain⟨v,g1,g2⟩:=hx.at e1;unfold MS at hcm;split at hcm
     ·rename_i fs hu;split at hcm
      ·obtain⟨fd,q1,q2,q3⟩:=Hw hcm e2;rw[ZX]at q1;refine aY hS h3 (v:=v) (by simp only[cM];exact g2) ?_ hk;have hag:(isAgg fd.type).run P w=.ok false w:=by
        rcases q3 with q3|⟨ik,q3⟩<;>simp[isAgg,run_underlying q3]
       unfold execOp;simp only[ho,ev,Instr.field,ZP,run_underlying hu,Z2,q1];simp[asAgg,part,hag,q2,g1]
      ·cases hcm
     ·cases hcm
    ·exact h3.elim
  |one y=>exact h3.elim
  |tup rs=>exact h3.elim
theorem Ao {x:Operand}(ho:o.op=.entry x)(hS:aP cx G g a w)(h:(xc cx.n o.dst x).Runs g ls (.ws ws)) 
 (hk:∀ a' w',d6 cx (aU g ws) a' w'->K a' w'):o.wp P a w K Q:=by
 unfold xc at h;obtain⟨x0,ls1,hx,h⟩:=bz hS h;split at h
 case h_2=>exact h.elim
 rename_i es k vs;obtain⟨r,bm,kb,e1,e2,e3,since,c0,clock,seen,ents,i1,i2,i3,i4,i5,i6,i7,i8,i9,i10⟩:=hx;obtain⟨e,m1,seen',rfl,m2,rfl⟩:=i10 k vs rfl;have hrun:=run_entry_at (P:=P) w r bm since seen' ents c0 e i1 i2 m1 ((stamped_iff ents c0).1 i3).2.1;refine aY hS h (v:=.tuple #[e.key,e.val]) ?_ ?_ hk
 ·simp only[cM];refine⟨[e.key,e.val],rfl,?_⟩;simp only[iI,cM];exact⟨_,_,rfl,m2,_,_,rfl,trivial,rfl⟩
 ·unfold execOp;simp only[ho,e1];simp only[ZP,hrun,Z2];rfl
end
end Go.V
namespace Go.V
open Go.MapKept
open Go.ChangeMaps (setBlock)
def Fq:A->Bool
 | .it _ _=>false
 |_=>true
mutual
def tG:R->Bool
 | .one a=>Fq a
 | .agg as=>as.all Fq
 | .tup rs=>zC rs
def zC:List R->Bool
 |[]=>true
 |r::rs=>tG r&&zC rs
end
def sO (it:Nat):VS->Bool
 |[]=>true
 | .reg d x::σ=>(ZL d it||tG x)&&sO it σ
 |_::σ=>sO it σ
theorem kU {it:Nat}:∀ {σ:VS},sO it σ=true->∀ d x,get σ (.reg d)=some (.r x)->d≠it->tG x=true
 |[],_,d,x,h,_=>by simp[get]at h
 | .reg d' y::σ,hs,d,x,h,hd=>by
   simp only[sO,Zc,Z4]at hs;simp only[get,W.app]at h;split at h
   ·rename_i e;cases e;cases h;rcases hs.1 with q|q;exact absurd (Z5 q) hd;exact q
   ·exact kU hs.2 d x h hd
 | .leaf _ _ _::σ,hs,d,x,h,hd=>by
   simp only[get,W.app]at h;rw[VU (by simp)]at h;exact kU (σ:=σ) hs d x h hd
 | .gap _ _ _::σ,hs,d,x,h,hd=>by
   simp only[get,W.app]at h;rw[VU (by simp)]at h;exact kU (σ:=σ) hs d x h hd
 | .root _ _ _::σ,hs,d,x,h,hd=>by
   simp only[get,W.app]at h;exact kU (σ:=σ) hs d x h hd
section
variable {P: Program} {cx: Cx} {G: Gh} {g: Gm} {a: Act} {w: World}
theorem Fs {γ:Nat->Nat->Option Hv}{G1:Gh}(hl:G1.loc=G.loc)(hv:G1.val=G.val)(hr:∀ b,G.ow b=some .ro->G1.ow b=some .ro):∀ (y:A) (v:Value),Fq y=true->gW γ G w y v->gW γ G1 w y v:=by
 intro y v hn h;cases y with
 |it es vs=>cases hn
 |ro sz es=>obtain⟨S,h1,h2⟩:=h;exact⟨S,h1,fun b hb=>hr b (h2 b hb)⟩
 |rp rec j=>obtain⟨b,off,cur,ty,fz,S,e1,e2,e3,e4,e5,e6⟩:=h;exact⟨b,off,cur,ty,fz,S,e1,e2,hr b e3,e4,e5,fun c hc=>hr c (e6 c hc)⟩
 |pt r j=>obtain⟨b,off,e1,e2⟩:=h;exact⟨b,off,by rw[hl];exact e1,e2⟩
 | fn f caps=>
   obtain⟨ps,e,h⟩:=h;have key:∀ (caps:List Cu) (ps:List Value),dM G w caps ps->dM G1 w caps ps:=by
    intro caps
    induction caps with
    |nil=>intro ps h;exact h
    | cons c cs ih=>
      intro ps h;obtain⟨v,vs',e,h1,h2⟩:=h;refine⟨v,vs',e,?_,ih vs' h2⟩;cases c with
      |pt r j=>obtain⟨b,off,e1,e2⟩:=h1;exact⟨b,off,by rw[hl];exact e1,e2⟩
      |rp rec j=>obtain⟨b,off,cur,ty,fz,S,e1,e2,e3,e4,e5,e6⟩:=h1;exact⟨b,off,cur,ty,fz,S,e1,e2,hr b e3,e4,e5,fun c hc=>hr c (e6 c hc)⟩
   exact⟨ps,e,key caps ps h⟩
 |v x=>exact h
 |nl=>exact h
 |un=>exact h
 |pn r j ver iv p=>unfold gW at h ⊢;rw[hv];exact h
 |vw r j ver lo n=>unfold gW at h ⊢;rw[hv];exact h
 |vn r j ver iv p lo n=>unfold gW at h ⊢;rw[hv];exact h
 |mv r j ver=>unfold gW at h ⊢;rw[hv];exact h
 |st r j ver iv k=>unfold gW at h ⊢;rw[hv];exact h
theorem BD {γ:Nat->Nat->Option Hv}{G1:Gh}(hl:G1.loc=G.loc)(hv:G1.val=G.val)(hr:∀ b,G.ow b=some .ro->G1.ow b=some .ro):∀ (ys:List A) (vs:List Value),ys.all Fq=true->bS γ G w ys vs->bS γ G1 w ys vs
 |[],vs,_,h=>h
 | y::ys,vs,hn,h=>by
   simp only[List.all_cons,Zc]at hn;obtain⟨v,vs',e,h1,h2⟩:=h;exact⟨v,vs',e,Fs hl hv hr y v hn.1 h1,BD hl hv hr ys vs' hn.2 h2⟩
mutual
theorem IU {γ:Nat->Nat->Option Hv}{G1:Gh}(hl:G1.loc=G.loc)(hv:G1.val=G.val)(hr:∀ b,G.ow b=some .ro->G1.ow b=some .ro):∀ (y:R) (v:Value),tG y=true->cM γ G w y v->cM γ G1 w y v
 | .one y,v,hn,h=>by simp only[cM,tG]at*;exact Fs hl hv hr y v hn h
 | .agg ys,v,hn,h=>by simp only[cM,tG]at*;obtain⟨vs,e,h⟩:=h;exact⟨vs,e,BD hl hv hr ys vs hn h⟩
 | .tup rs,v,hn,h=>by simp only[cM,tG]at*;obtain⟨vs,e,h⟩:=h;exact⟨vs,e,Ft hl hv hr rs vs hn h⟩
theorem Ft {γ:Nat->Nat->Option Hv}{G1:Gh}(hl:G1.loc=G.loc)(hv:G1.val=G.val)(hr:∀ b,G.ow b=some .ro->G1.ow b=some .ro):∀ (ys:List R) (vs:List Value),zC ys=true->iI γ G w ys vs->iI γ G1 w ys vs
 |[],vs,_,h=>by simpa only[iI]using h
 | y::ys,vs,hn,h=>by
   simp only[iI,zC,Zc]at*;obtain⟨v,vs',e,h1,h2⟩:=h;exact⟨v,vs',e,IU hl hv hr y v hn.1 h1,Ft hl hv hr ys vs' hn.2 h2⟩
end
theorem aP.drop (hS:aP cx G g a w){g1:Gm}{it r:Nat}(hg:∀ l,g1 l=if l=.reg it then none else g l)(hn:∀ d x,g (.reg d)=some (.r x)->d≠it->tG x=true)(hr:G.ow r=some .fz):
 aP cx {G with ow:=fun b=>if b=r then none else G.ow b} g1 a w:=by
 have keep:∀ b t,G.ow b=some t->t≠ .fz->(if b=r then none else G.ow b)=some t:=by
  intro b t ht hne;rw[VU (by rintro rfl;rw[hr]at ht;cases ht;exact hne rfl)];exact ht
 have keep':∀ b t,(if b=r then none else G.ow b)=some t->G.ow b=some t:=by
  intro b t ht;split at ht
  ·cases ht
  ·exact ht
 have hm:∀ r,g1 (.meta_ r)=g (.meta_ r):=fun r=>by rw[hg,VU (by simp)]
 have hl:∀ r j,g1 (.leaf r j)=g (.leaf r j):=fun r j=>by rw[hg,VU (by simp)]
 have hgl:gl g1=gl g:=by funext r j;simp[gl,hl]
 refine⟨hS.defers,hS.tm,?_,?_,?_,?_,?_,?_,hS.frame,?_,?_,?_,hS.afr,?_,hS.newb,?_⟩
 ·intro d x hx;rw[hg]at hx;split at hx
  ·cases hx
  ·rename_i hne;obtain⟨h1,r1,e,h2⟩:=hS.reg d x hx;subst e;rw[hgl];exact⟨h1,r1,rfl,IU (G:=G) (G1:={G with ow:=fun b=>if b=r then none else G.ow b}) rfl rfl (fun b hb=>keep b _ hb (by simp)) r1 _ (hn d r1 hx (by rintro rfl;exact hne rfl)) h2⟩
 ·intro r1 k hk;rw[hm]at hk;obtain⟨b,off,cur,ty,f1,f2,f3,f4⟩:=hS.boxes r1 k hk;exact⟨b,off,cur,ty,f1,keep b _ f2 (by simp),f3,f4⟩
 ·intro r1 j1 x hx;rw[hl]at hx;obtain⟨h1,k,box,e1,e2,e3,e4⟩:=hS.leaf r1 j1 x hx;refine⟨h1,k,box,e1,by rw[hm];exact e2,e3,?_⟩;unfold dN at e4 ⊢;split at e4
  ·exact⟨e4.1,e4.2.1,fun b hb=>⟨keep b _ (e4.2.2 b hb).1 (by simp),(e4.2.2 b hb).2⟩⟩
  ·obtain⟨S,q1,q2⟩:=e4;exact⟨S,q1,fun b hb=>keep b _ (q2 b hb) (by simp)⟩
  ·trivial
 ·intro r1 x hx;rw[hm]at hx;exact hS.metas r1 x hx
 ·intro r1 b hb;obtain⟨k,hk⟩:=hS.noloc r1 b hb;exact⟨k,by rw[hm];exact hk⟩
 ·intro b t ht;exact hS.lt b t (keep' b t ht)
 ·intro b h1 h2;show(if b=r then none else G.ow b)=none\/(if b=r then none else G.ow b)=some .ro;by_cases c:b=r
  ·rw[VT c];exact .inl rfl
  ·rw[VU c];exact hS.frow b h1 h2
 ·intro r1 j1 h e;rw[hgl]at e;exact hS.anc r1 j1 h e
 ·intro r1 x e;rw[hm];exact hS.aloc r1 x e
 ·intro r1 r2 k1 k2 b o1 o2 hne h1 h2 q1 q2;rw[hm]at h1 h2;exact hS.sep r1 r2 k1 k2 b o1 o2 hne h1 h2 q1 q2
 ·intro b hb;exact hS.roX b (keep' b _ hb)
theorem aP.other (hS:aP cx G g a w){r:Nat}(hr:G.ow r=none)(hfr:¬ (r<cx.w0.heap.size/\cx.fr r))(hnc:∀ cur ty fz,w.heap[r]?≠some (.cells cur ty fz)){w':World} 
 (hos:w'.os=w.os) (htape:w'.tape=w.tape) (hout:w'.output=w.output) (hsz:w'.heap.size=w.heap.size) (hh:∀ b,b≠r->w'.heap[b]?=w.heap[b]?):aP cx G g a w':=by
 have ne:∀ b t,G.ow b=some t->b≠r:=by rintro b t ht rfl;rw[hr]at ht;cases ht
 have old:∀ b t,G.ow b=some t->w'.heap[b]?=w.heap[b]?:=fun b t ht=>hh b (ne b t ht)
 have st:Step g G w g G w':=by
  refine⟨fun r1 j1 h1 e=>⟨h1,e,.inl ⟨rfl,rfl,fun l hl b hb=>?_⟩⟩,fun b hb=>⟨hb,old b _ hb⟩,fun b hb=>⟨hb,old b _ hb⟩,fun _ _ h=>h⟩;have:=hS.hok e;simp only[dN,hl]at this;exact old b _ (this.2.2 b hb).1
 refine⟨hS.defers,hS.tm,?_,?_,?_,hS.metas,hS.noloc,?_,?_,hS.frow,hS.anc,hS.aloc,?_,hS.sep,hS.newb,hS.roX⟩
 ·intro d x hx;obtain⟨h1,r1,e,h2⟩:=hS.reg d x hx;exact⟨h1,r1,e,cM.step hS st r1 _ h2⟩
 ·intro r1 k hk;obtain⟨b,off,cur,ty,f1,f2,f3,f4⟩:=hS.boxes r1 k hk;exact⟨b,off,cur,ty,f1,f2,by rw[old b _ f2];exact f3,f4⟩
 ·intro r1 j1 x hx;obtain⟨h1,k,box,e1,e2,e3,e4⟩:=hS.leaf r1 j1 x hx;refine⟨h1,k,box,e1,e2,e3,?_⟩;unfold dN at e4 ⊢;split at e4
  ·exact⟨bM.keep _ _ _ e4.1 (fun b hb=>old b _ (e4.2.2 b hb).1),e4.2.1,fun b hb=>⟨(e4.2.2 b hb).1,(e4.2.2 b hb).2.keep (old b _ (e4.2.2 b hb).1)⟩⟩
  ·obtain⟨S,q1,q2⟩:=e4;exact⟨S,bM.keep _ _ _ q1 (fun b hb=>old b _ (q2 b hb)),q2⟩
  ·trivial
 ·intro b t ht;rw[hsz];exact hS.lt b t ht
 ·exact⟨hos.trans hS.frame.os,htape.trans hS.frame.tape,hout.trans hS.frame.output,by rw[hsz];exact hS.frame.size,fun b h1 h2=>by rw[hh b (by rintro rfl;exact hfr ⟨h1,h2⟩)];exact hS.frame.block b h1 h2⟩
 ·intro r1 b off e;have q:=hS.afr r1 b off e;obtain⟨c0,c,ty,h1,h2,h3⟩:=id q;exact q.keep (hh b (by rintro rfl;exact hnc _ _ _ h2))
theorem aP.hold (hS:aP cx G g a w){r:Nat}(hr:G.ow r=none)(hlt:r<w.heap.size)(hfr:¬ (r<cx.w0.heap.size/\cx.fr r)):
 aP cx {G with ow:=fun b=>if b=r then some .fz else G.ow b} g a w:=by
 have keep:∀ b t,G.ow b=some t->(if b=r then some Tok.fz else G.ow b)=some t:=by
  intro b t ht;rw[VU (by rintro rfl;rw[hr]at ht;cases ht)];exact ht
 have st:Step g G w g {G with ow:=fun b=>if b=r then some .fz else G.ow b} w:=
  ⟨fun r1 j1 h1 e=>⟨h1,e,.inl ⟨rfl,rfl,fun _ _ _ _=>rfl⟩⟩,fun b hb=>⟨keep b _ hb,rfl⟩,fun b hb=>⟨keep b _ hb,rfl⟩,fun _ _ h=>h⟩
 refine⟨hS.defers,hS.tm,?_,?_,?_,hS.metas,hS.noloc,?_,hS.frame,?_,hS.anc,hS.aloc,hS.afr,hS.sep,hS.newb,?_⟩
 ·intro d x hx;obtain⟨h1,r1,e,h2⟩:=hS.reg d x hx;exact⟨h1,r1,e,cM.step hS st r1 _ h2⟩
 ·intro r1 k hk;obtain⟨b,off,cur,ty,f1,f2,f3,f4⟩:=hS.boxes r1 k hk;exact⟨b,off,cur,ty,f1,keep b _ f2,f3,f4⟩
 ·intro r1 j1 x hx;obtain⟨h1,k,box,e1,e2,e3,e4⟩:=hS.leaf r1 j1 x hx;refine⟨h1,k,box,e1,e2,e3,?_⟩;unfold dN at e4 ⊢;split at e4
  ·exact⟨e4.1,e4.2.1,fun b hb=>⟨keep b _ (e4.2.2 b hb).1,(e4.2.2 b hb).2⟩⟩
  ·obtain⟨S,q1,q2⟩:=e4;exact⟨S,q1,fun b hb=>keep b _ (q2 b hb)⟩
  ·trivial
 ·intro b t ht;have ht:(if b=r then some Tok.fz else G.ow b)=some t:=ht;split at ht
  ·rename_i c;rw[c];exact hlt
  ·exact hS.lt b t ht
 ·intro b h1 h2;show(if b=r then some Tok.fz else G.ow b)=none\/(if b=r then some Tok.fz else G.ow b)=some .ro;rw[VU (by rintro rfl;exact hfr ⟨h1,h2⟩)];exact hS.frow b h1 h2
 ·intro b hb;have hb:(if b=r then some Tok.fz else G.ow b)=some .ro:=hb;split at hb
  ·cases hb
  ·exact hS.roX b hb
theorem aP.know (hS:aP cx G g a w){d:Nat}{x:R}(hd:d<cx.n)(hx:cM (gl g) G w x (a.tmps.getD d undef)):aP cx G ((W.reg d x).app g) a w:=by
 have h:=hS.put hd hx;have e:a.put (some d) (a.tmps.getD d undef)=a:=by
  have ht:=hS.tm;cases a with
  | mk tmps defers=>
    unfold ZI;simp only at ht ⊢
    congr 1
    refine Array.ext (by simp) (fun i h1 h2=>?_);rw[Array.getElem_setIfInBounds];split
    ·rename_i c;subst c;rw[Array.getD_eq_getD_getElem?,Array.getElem?_eq_getElem h2];rfl
    ·rfl
 rw[e]at h;exact h
theorem DG {σ:VS}{it d1 d2:Nat}{es:af}{vs:List Int}{o1 o2:Oper}{ops:Array Oper}{Q:Exit->Act->World->Prop}(hS:d6 cx (get σ) a w) 
 (hit:get σ (.reg it)=some (.r (.one (.it es vs)))) (hs:sO it σ=true) (h1:d1<cx.n) (h2:d2<cx.n) (n1:d1≠it) (n2:d2≠it)
 (p1:o1.op=.next (.tmp it) false) (p2:o1.dst=some d1) (p3:o1.guard=none) (p4:o2.op=.extract (.tmp d1) 0) (p5:o2.dst=some d2) (p6:o2.guard=none)
 (hT:∀ k,k∈m9 es->vs.length<es.length->∀ a' w',d6 cx (get (.reg d2 (.k true):: .reg d1 (.one .un):: .reg it (.one (.it es (k::vs)))::σ)) a' w'->Q .normal a' w')
 (hF:(∀ k∈m9 es,k∈vs)->∀ a' w',d6 cx (get (.reg d2 (.k false):: .reg d1 (.one .un)::σ)) a' w'->Q .normal a' w'):
 wpList P ops Q [o1,o2] a w:=by
 obtain⟨G,hS⟩:=hS;obtain⟨hn,y,e0,hx⟩:=hS.reg it _ hit;cases e0;simp only[cM]at hx;obtain⟨r,bm,kb,e1,e2,e3,since,c0,clock,seen,ents,i1,i2,i3,i4,i5,i6,i7,i8,i9,i10⟩:=hx;have hev:a.eval (.tmp it)=.pointer (some ⟨r,0,none⟩):=e1;have w1':YO o1 (yielded ops a.tmps)=true:=by simp[YO,p3]
 have w2':∀ a':Act,YO o2 (yielded ops a'.tmps)=true:=fun a'=>by simp[YO,p6]
 have hrb:r≠bm:=by rintro rfl;rw[i1]at i2;cases i2
 have hrl:r<w.heap.size:=(ZD.1 i1).1;have hfr:¬ (r<cx.w0.heap.size/\cx.fr r):=by
  rintro⟨q1,q2⟩;rcases hS.frow r q1 q2 with q|q<;>(rw[e2]at q;cases q)
 have step2:∀ (b:Bool) (vv:Array Value) (G':Gh) (g':Gm) (w':World) (a1:Act),aP cx G' g' a1 w'->(∀ a' w'',d6 cx ((W.reg d2 (.k b)).app ((W.reg d1 (.one .un)).app g')) a' w''->Q .normal a' w'')->vv[0]?=some (.bool b)->
  wpList P ops Q [o2] (a1.put (some d1) (.tuple vv)) w':=by
  intro b vv G' g' w' a1 hS' hQ hv;simp only[wpList];rw[VT (w2' _)];refine .inl ?_;have S1:=hS'.put (x:=.one .un) (v:=.tuple vv) h1 (by simp only[cM,gW]);have ht:(a1.put (some d1) (.tuple vv)).eval (.tmp d1)=.tuple vv:=by
   show(a1.put (some d1) (.tuple vv)).tmps.getD d1 undef=_;rw[Bd (by rw[hS'.tm];exact h1),VT rfl]
  refine cX (v:=.bool b) (w':=w') ?_ ?_
  ·unfold execOp;simp only[p4,ht,Instr.extract,hv];rfl
  ·rw[p5];exact hQ _ _ ⟨G',S1.put h2 (by simp only[cM,gW])⟩
 simp only[wpList];rw[VT w1'];refine .inl ?_;rcases run_next_at (P:=P) w o1.type r bm since c0 seen ents clock i1 i2 i5 i6 with⟨q1,q2⟩|⟨e,m1,w1,m2,q2⟩
 ·refine cX (v:=.tuple #[.bool false]) (w':=w) ?_ ?_
  ·unfold execOp;simp only[p1,hev];simp only[ZP,q2,Z2];rfl
  ·rw[p2];refine step2 false _ G (get σ) w a hS (fun a' w'' hs'=>hF (fun k hk=>?_) a' w'' hs') rfl;obtain⟨e,f1,f2⟩:=(zw i4).2.1 k hk;obtain⟨k',f3,f4⟩:=i8 e f1 (all_seen ents seen q1 e f1);rw[f2]at f4;cases f4;exact f3
 ·obtain⟨me,mc⟩:=mem_left m1;obtain⟨k,k1,k2⟩:=(zw i4).1 e me;have hlt:vs.length<es.length:=by
   have:0<(leftOf ents seen).size:=by
    rw[<-ZH];exact List.length_pos_of_mem m1
   omega
  have hw1:w1.os=w.os/\w1.tape=w.tape/\w1.output=w.output/\w1.heap=w.heap:=by
   rcases m2 with rfl|rfl;exact⟨rfl,rfl,rfl,rfl⟩;exact⟨rfl,rfl,rfl,rfl⟩
  refine cX (v:=.tuple #[.bool true,e.key,e.val]) (w':=setBlock w1 r (.mapIter (some bm) since (seen.push e.born) clock)) ?_ ?_
  ·unfold execOp;simp only[p1,hev];simp only[ZP,q2,Z2];rfl
  ·rw[p2];have hset:=heap_set (w:=w) (o':=.mapIter (some bm) since (seen.push e.born) clock) i1;have hheap:(setBlock w1 r (.mapIter (some bm) since (seen.push e.born) clock)).heap=w.heap.setIfInBounds r (.mapIter (some bm) since (seen.push e.born) clock):=by
    show w1.heap.setIfInBounds _ _=_;rw[hw1.2.2.2]
   have S1:=hS.drop (g1:=fun l=>if l=.reg it then none else get σ l) (it:=it) (fun l=>rfl) (fun d x h hd=>kU hs d x h hd) e2;have S2:=S1.other (r:=r) (w':=setBlock w1 r (.mapIter (some bm) since (seen.push e.born) clock)) (by simp) hfr (fun cur ty fz c=>by rw[i1]at c;cases c) hw1.1 hw1.2.1 hw1.2.2.1 (by rw[hheap];simp) (fun b hb=>by rw[hheap];exact hset.2 b hb);have S3:=S2.hold (r:=r) (by simp) (by rw[hheap];simpa using hrl) hfr;have S4:=S3.know (d:=it) (x:=.one (.it es (k::vs))) hn (by
    simp only[cM];rw[e1];refine⟨r,bm,kb,rfl,by simp,?_,since,clock,clock,seen.push e.born,ents,by rw[hheap];exact hset.1,by rw[hheap,hset.2 bm (Ne.symm hrb)];exact i2,i3,i4,i5,i7,i7,?_,?_,?_⟩
    ·simp only[VU (Ne.symm hrb)];exact e3
    ·intro x hx hc;rw[contains_push,Z4]at hc;rcases hc with hc|hc
     ·obtain⟨k',f1,f2⟩:=i8 x hx hc;exact⟨k',Wk _ f1,f2⟩
     ·have hb:x.born=e.born:=by simpa using hc
      have:x=e:=by
       have nd:=((stamped_iff ents clock).1 i3).2.1;have f1:=find_born e ents.toList nd me;have f2:=find_born x ents.toList nd hx;rw[hb,f1]at f2;cases f2;rfl
      subst this;exact⟨k,by simp,k2⟩
    ·have sh:=left_shrinks ents seen e m1;simp only[Zj];omega
    ·intro k' vs' hkv;cases hkv;exact⟨e,me,seen,rfl,k2,rfl⟩)
   have hg:(W.reg it (.one (.it es (k::vs)))).app (fun l=>if l=.reg it then none else get σ l)=get (.reg it (.one (.it es (k::vs)))::σ):=by
    funext l
    simp only[get,W.app];split;rfl;rfl
   rw[hg]at S4;exact step2 true _ _ _ _ a S4 (fun a' w'' hs'=>hT k k1 hlt a' w'' hs') rfl
end
end Go.V
namespace Go.V
def rB (pr:(Unit->Prop)->Prop)(ps:OL)(sub:af->Nat->Nat->af)(up:UpF)(cat:af->af->af)(own:Nat->Nat->af->List W)(se:TI->A->(af->List (Nat×Nat)->Rd Out)->Rd Out)(el:TypeId->Option (TypeId×TI×Nat))(n:Nat)(d:Option Tmp)(t t':TypeId)(s x:Operand):Rd Out:=
 match el t with
 |none=>.fail
 | some (_,ti,bytes)=>if t==t' then fk s fun
    | .vn r j ver iv p lo m=>gp r j fun h=>match h.c with
      | .own (.s sz es)=>if gP h ver iv then fk x fun b=>se ti b fun es2 src2=>match src2 with
        | []=>.req (pr fun _=>fC (.s sz es) p=some (ti.zero.length,ps (.s sz es) p)/\bE (ps (.s sz es) p)/\(m+es2.length)*bytes<=70368744177664/\m+es2.length<=70368744177664)
           (fresh n d fun d=>.ret (.ws (.gap r j ⟨h.ver,h.iv+1,h.org,.own (.s sz (up (.s sz es) p [.g]))⟩::own d ti.zero.length (cat (sub (ps (.s sz es) p) lo m) es2))))
        |_=>.fail else .fail
      |_=>.fail
    |_=>.fail
   else .fail
section
variable {P: Program} {o: Oper} {cx: Cx} {G: Gh} {g: Gm} {a: Act} {w: World} {ls: List Loc} {ws: List W} {K: Act -> World -> Prop} {Q: Exit -> Act -> World -> Prop}
theorem aP.shedN (hS:aP cx G g a w){r j:Nat}{h:Hv}(hh:g (.leaf r j)=some (.h h)){sz:Nat}{es0:af}(hc:h.c=.own (.s sz es0)){p:List (Nat×Nat)}{bb oo o:Nat}{rec:aT}{k:Nat}{es:af}{hv:Value} 
 (hg:bQ (.s sz es0) p=some (rec,o)) (hr:rec[o]?=some (.s k es)) (hT:bL w (.s sz es0) (G.val r j) p bb oo) (hcell:w.cell? ⟨bb,oo,none⟩=some hv) {S2:List Nat} (hsub:∀ S3,bM w (.s k es) hv S3->∀ c∈S2,c∈S3):
 ∃ G',aP cx G' ((W.gap r j ⟨h.ver,h.iv+1,h.org,.own (.s sz (rowOf (j3 (.s sz es0) p [.g])))⟩).app g) a w/\∀ b∈S2,eh w b/\∃ J,G'.ow b=some (.leaf r J)/\g (.leaf r J)=none/\J≠j:=by
 have hok:=hS.hok (au.2 hh);simp only[dN,hc]at hok;obtain⟨hrd,hnd,htok⟩:=hok;obtain⟨h0,k0,box,e0,em,ej,_⟩:=hS.leaf r j _ hh;cases e0;have hJ:g (.leaf r k0)=none:=by
  cases q:g (.leaf r k0)with
  |none=>rfl
  | some x=>
    obtain⟨_,k2,b2,_,m2,l2,_⟩:=hS.leaf r k0 _ q;rw[em]at m2;cases m2;omega
 obtain⟨cur,ty,fz,base,Sa,S1,Sb,m1,m2,m3,m4,m5,m6,m7⟩:=focus p _ _ _ bb oo rec o hrd hnd hT hg;obtain⟨Sp,Sx,Sq,v',k1,k2,k3,k4⟩:=m6.upd o _ hr;have hvv':v'=hv:=by
  have:=dt m1 k2;rw[<-m4,hcell]at this;exact(YB this).symm
 subst hvv';have hS2:=hsub _ k3;have hlt:o<rec.length:=(ZC.1 hr).1;have hone:=bM.one k3;have hrec:=k4 w .g [] (by simp only[bM];exact⟨hone,trivial⟩) (fun _ _=>rfl);have hset:rec.set o L.g=rec.take o++[.g]++rec.drop (o+[L.g].length):=by
  rw[List.set_eq_take_append_cons_drop,VT hlt];simp
 rw[hset]at hrec;have hn:=hnd;rw[m2,k1]at hn;have hrd':=m7 w cur (rec.take o++[.g]++rec.drop (o+[L.g].length)) (Sp++[]++Sq) m1 rfl (fun _ _=>rfl) (by simp only[Zf,Zh,Zn,Zj,Zk];omega) hrec (fun _ _ _=>rfl);rw[<-lI p _ rec o _ hg]at hrd';have hn':(Sa++(Sp++[]++Sq)++Sb).Nodup/\∀ c∈Sx,c∉Sa++(Sp++[]++Sq)++Sb:=by
  have e5:Sa++(Sp++Sx++Sq)++Sb=(Sa++Sp)++Sx++(Sq++Sb):=by simp
  have e6:Sa++(Sp++[]++Sq)++Sb=(Sa++Sp)++[]++(Sq++Sb):=by simp
  rw[e5]at hn;rw[e6];refine⟨p7 hn ZQ (fun c hc=>by cases hc) (fun c hc=>by cases hc),fun c hc hq=>?_⟩;have:=(mb hn).2 c hc;rw[ZY,Zg]at hq;exact hq.elim this.1 this.2
 have hmem:∀ c∈Sa++(Sp++[]++Sq)++Sb,c∈G.fp r j:=by
  intro c hc;rw[m2,k1];simp only[Zg,YR,or_false]at hc ⊢;rcases hc with(q|q|q)|q;exact .inl (.inl q);exact .inl (.inr (.inl (.inl q)));exact .inl (.inr (.inr q));exact .inr q
 obtain⟨es',hes1,hes2⟩:=ww (.s sz es0) p (rec.take o++[.g]++rec.drop (o+[L.g].length)) sz es0 rfl;rw[<-lI p _ rec o _ hg]at hes1;have hrow:L.s sz (rowOf (j3 (.s sz es0) p [.g]))=j3 (.s sz es0) p [.g]:=(wM hg).symm;have hro:rowOf (j3 (.s sz es0) p [.g])=es':=by rw[hes1];rfl
 obtain⟨G1,u1,_,u2,u3,u4,u5,u6⟩:=hS.upd' hh ⟨h.ver,h.iv+1,h.org,.own (.s sz (rowOf (j3 (.s sz es0) p [.g])))⟩ (G.val r j) (Sa++(Sp++[]++Sq)++Sb) w
  (.inr ⟨rfl,YN _,rfl,.inl ⟨sz,es0,es',hc,by simp only[hro],hes2⟩⟩) rfl rfl rfl (Ze _) (fun _ _ _ _=>rfl)
  (fun b off hl=>by
    obtain⟨kk,hk2⟩:=hS.noloc r _ hl;obtain⟨b',off',cur,ty,m1,m2,m3,m4,m5⟩:=hS.boxes r kk hk2;rw[hl]at m1;cases m1;refine⟨cur,cur,ty,m3,m3,rfl,fun hlt=>?_,fun _ _=>rfl⟩;rw[hk2]at em;cases em;exact m5 j ej)
  (fun l _ b hb=>(htok b hb).2)
  (by
    simp only[hrow];exact⟨hrd',hn'.1,fun b hb=>⟨(htok b (hmem b hb)).2,.inr ⟨_,hc,hmem b hb⟩⟩⟩)
  (fun i e=>hS.anc r j h (au.2 hh) i e)
 have hfx:∀ b∈S2,b∈G.fp r j:=fun b hb=>by rw[m2,k1];simp[hS2 b hb]
 have hro2:∀ b∈S2,G1.ow b=some (.leaf r j):=fun b hb=>by rw[u5 b (fun _=>hn'.2 b (hS2 b hb))];exact(htok b (hfx b hb)).1
 have u7:=u1.reown (J:=k0) hro2 (fun b hb=>by rw[u6,VT ⟨rfl,rfl⟩];exact hn'.2 b (hS2 b hb));exact⟨_,u7,fun b hb=>⟨(htok b (hfx b hb)).2,k0,VT hb,hJ,by omega⟩⟩
theorem wY {t t':TypeId}{s x:Operand}(ho:o.op=.call {callee:=.builtin .append,args:= #[s,x],argTypes:= #[t,t']})(hS:aP cx G g a w) 
 (h:(rB mf kh (fun es lo m=>(es.drop lo).take m) jq (· ++ ·) ownRow oW (x9 P) cx.n o.dst t t' s x).Runs g ls (.ws ws))
 (hk:∀ a' w',d6 cx (aU g ws) a' w'->K a' w'):o.wp P a w K Q:=by
 unfold rB at h;split at h
 ·exact h.elim
 rename_i e ti bytes hel;split at h
 case isFalse=>exact h.elim
 rename_i htt;simp only[beq_iff_eq]at htt;subst htt;obtain⟨x0,ls1,hx,h⟩:=bz hS h;cases x0 with
 | vn r j ver iv p lo m=>
   simp only at h;obtain⟨h0,ls3,q1,_,h⟩:=bD h;split at h
   case h_2=>exact h.elim
   rename_i sz es hc;split at h
   case isFalse=>exact h.elim
   rename_i hgd;obtain⟨xb,ls2,hxb,h⟩:=bz hS h;obtain⟨es2,src2,base2,m2,c2,news,S3,ls4,hsrc,h⟩:=oX hS hxb h;split at h
   case h_2=>exact h.elim
   obtain⟨⟨hgs,hsc,hb1,hb2⟩,h⟩:=h;obtain⟨d,ls6,hd,hlt,hm,h⟩:=cL h;simp only[Rd.Runs,Out.ws.injEq]at h;obtain⟨_,rfl⟩:=h;obtain⟨rec,o0,bb,oo,hvv,S,n1,n2,n3,n4,n5,n6,n7,n8⟩:=nested hS hx q1 hgd hc hgs;obtain⟨S2,k1,knd,k2⟩:=n6.own n7 n5 hsc (sM (sL hsc));have hS3:S3=[]:=by
    cases S3 with
    |nil=>rfl
    | cons b S3=>
      obtain⟨_,r',j',hq,_⟩:=hsrc.tok b (by simp);cases hq
   subst hS3;obtain⟨G',hS1,z⟩:=hS.shedN (au.1 q1) hc n1 n2 n3 n4 k2;have hml:((((kh (.s sz es) p).drop lo).take m)).length=m:=by simp only[Zh,Zn];omega
   refine tc ho hS1 hd hlt (by simpa[W.app]using hm) hel k1 knd (fun b hb=>?_) hsrc.val hsrc.len hsrc.cells hsrc.rd hsrc.nodup (fun b hb=>by cases hb) (fun b _ hq=>by cases hq) (by rw[hml];exact hb1) (by rw[hml];exact hb2) (fun a' w' h2=>hk a' w' ?_)
   ·obtain⟨u,J,z1,z2,z3⟩:=z b hb;refine⟨u,.inr ⟨r,J,z1,?_⟩⟩;intro h' l' p1 p2;rw[au]at p1;simp[W.app,z3,z2]at p1
   ·exact h2
 |_=>exact h.elim
theorem xg {t:TypeId}{x i:Operand}(ho:o.op=.indexAddr t x i)(hS:aP cx G g a w){e:TypeId}{ti:TI}{bytes:Nat}(hel:x9 P t=some (e,ti,bytes)){r j ver lo m:Nat}(hx:gW (gl g) G w (.vw r j ver lo m) (a.eval x)){kd:IntKind}{idx:Int}(hi:a.eval i=.int kd idx){hv:Hv}{es:af}(q1:gl g r j=some hv)(hc:hv.c=.own (.s ti.zero.length es))(hver:hv.ver=ver)(h0:0<=idx)(h1:idx<m) 
 (h:(bG cx.n o.dst (.one (.pn r j ver 0 [(lo+idx.toNat,0)]))).Runs g ls (.ws ws)) (hk:∀ a' w',d6 cx (aU g ws) a' w'->K a' w'):o.wp P a w K Q:=by
 have run:∀ b o0 len cap,a.eval x=.slice (some ⟨b,o0,none⟩) len cap->0<=idx->idx<len->
  (execOp a.eval o).run P w=.ok (.value (.pointer (some ⟨b,o0+idx.toNat*ti.zero.length,none⟩))) w:=by
  intro b o0 len cap he h0 h1;unfold execOp;simp[ho,he,hi,tw hel w b o0 len cap kd idx h0 h1]
 obtain⟨h2,f1,f2,f3⟩:=hx;rw[q1]at f1;cases f1;obtain⟨f4,base,len,cap,base',cap',g1,g2,g3,g4,g5,g6⟩:=f3 hver _ es hc;rcases g6 with⟨_,_,g7⟩|⟨b,off,off',g7,g8,g9,g10⟩;omega
 subst g7 g8;have hoff:=g10 (by omega);refine aY hS h (v:=.pointer (some ⟨b,off'+idx.toNat*ti.zero.length,none⟩)) ?_ (run b off' m cap' g2 h0 (by omega)) hk;simp only[cM];refine⟨hv,q1,f2,Nat.zero_le _,by simp,fun _ l hl=>⟨b,off'+idx.toNat*ti.zero.length,?_,rfl⟩⟩;rw[hc]at hl;cases hl;simp only[bL];exact⟨b,off,len,cap,g1,by omega,rfl,by rw[hoff,Zq];omega⟩
end
end Go.V
namespace Go.V
def Gc (l:L)(p:List (Nat×Nat)):Value:=
 match bQ l p with
 | some (rec,o)=>match rec[o]? with
   |some (.v x)=>x
   |_=>.bool false
 |none=>.bool false
def intOf:Value->Int
 | .int _ n=>n
 |_=>0
def OX:Value->Bool
 | .bool b=>b
 |_=>false
def strOf:Value->ByteArray
 | .string s=>s
 |_=>.empty
def Ly:L->Int
 | .v (.int _ n)=>n
 |_=>0
def lfB:L->Bool
 | .v (.bool b)=>b
 |_=>false
def lfT:L->ByteArray
 | .v (.string b)=>b
 |_=>.empty
def Nv:L->af
 | .s _ es=>es
 |_=>[]
structure CF where
 pr:(Unit->Prop)->Prop
 ar:BinOp->IntKind->Int->Int->Int
 sh:BinOp->IntKind->Int->Int->Int
 cmp:BinOp->Int->Int->Bool
 wr:IntKind->Int->Int
 bq:BinOp->Bool->Bool->Bool
 bn:Bool->Bool
 sel:Bool->Bool->Bool->Bool
 mm:Bool->Int->Int->Int
 ln:af->Nat
 zi:Nat->Int
 nn:Int->Nat
 ad:Nat->Int->Nat
 df:Int->Int->Nat
 cat:af->af->af
 sub:af->Nat->Nat->af
 rep:Int->aT->af
 gi:af->Int->Nat->Int
 gb:af->Int->Nat->Bool
 gt:af->Int->Nat->ByteArray
 gs:af->Int->Nat->af
 pi:L->List (Nat×Nat)->Int
 pb:L->List (Nat×Nat)->Bool
 pt:L->List (Nat×Nat)->ByteArray
 ps:L->List (Nat×Nat)->af
 up:L->List (Nat×Nat)->aT->af
 mgb:af->Int->Bool
 mgi:af->Int->Int
 mu:af->Int->L->af
 lnOk:∀ a b:af,a.length=b.length->ln a=ln b
def bO (op:BinOp)(k:IntKind)(a b:Int):Int:=
 match op with
 | .add=>k.wrap (a+b)
 | .sub=>k.wrap (a-b)
 | .mul=>k.wrap (a*b)
 | .quo=>k.wrap (a.tdiv b)
 | .rem=>a.tmod b
 | .and=>k.wrap (ZV k.bits a&&&ZV k.bits b).toNat
 | .or=>k.wrap (ZV k.bits a|||ZV k.bits b).toNat
 | .xor=>k.wrap (ZV k.bits a^^^ZV k.bits b).toNat
 | .andNot=>k.wrap (ZV k.bits a&&& ~~~ ZV k.bits b).toNat
 |_=>0
def JD (op:BinOp)(k:IntKind)(a b:Int):Int:=
 match op with
 | .shl=>k.wrap (a*2^(min b.toNat k.bits))
 |_=>a.fdiv (2^(min b.toNat k.bits))
def prI (f:Unit->Prop):Prop:=f ()
def Oo (k:IntKind)(a:Int):Int:=k.wrap a
def mmI (isMax:Bool)(a b:Int):Int:=if isMax then(if b>a then b else a)else(if b<a then b else a)
def lnI (es:af):Nat:=es.length
def ziI (n:Nat):Int:=n
def nnI (i:Int):Nat:=i.toNat
def adI (lo:Nat)(i:Int):Nat:=lo+i.toNat
def vM (h l:Int):Nat:=h.toNat-l.toNat
def Tm (a b:af):af:=a++b
def jf (es:af)(lo m:Nat):af:=(es.drop lo).take m
def D4 (n:Int)(r:aT):af:=Zt n.toNat r
def ag (es:af)(i:Int)(j:Nat):Int:=Ly ((es.getD i.toNat []).getD j .g)
def pX (es:af)(i:Int)(j:Nat):Bool:=lfB ((es.getD i.toNat []).getD j .g)
def Nj (es:af)(i:Int)(j:Nat):ByteArray:=lfT ((es.getD i.toNat []).getD j .g)
def aw (es:af)(i:Int)(j:Nat):af:=Nv ((es.getD i.toNat []).getD j .g)
def zI (l:L)(p:List (Nat×Nat)):Int:=intOf (Gc l p)
def SJ (l:L)(p:List (Nat×Nat)):Bool:=OX (Gc l p)
def SK (l:L)(p:List (Nat×Nat)):ByteArray:=strOf (Gc l p)
def aj:CF:=⟨prI,bO,JD,cW,Oo,AB,Hh,zV,mmI,lnI,ziI,nnI,adI,vM,Tm,jf,D4,ag,pX,Nj,aw,zI,SJ,SK,kh,jq,mgbI,jc,mO,fun _ _ h=>h⟩
structure xz where
 tyL:List (Nat×TI)
 elL:List (Nat×(TypeId×TI×Nat))
 fdL:List (Nat×List (Option Nat))
 bdL:List (Nat×List (Nat×Nat))
 itL:List (Nat×IntKind)
 boL:List (Nat×Unit)
 slL:List (Nat×Unit)
 fnL:List (Nat×Unit)
 ptL:List (Nat×TI)
 pnL:List (Nat×Unit)
 mpL:List (Nat×Bool)
 cmL:List (Nat×List Bool)
 alL:List (Nat×Unit):=[]
def lk {α:Type}:List (Nat×α)->Nat->Option α
 |[],_=>none
 | (k,x)::r,t=>match ZL k t with
  |true=>some x
  |false=>lk r t
def lkF:Option (List (Option Nat))->Nat->Option Nat
 |none,_=>none
 |some l,f=>l.getD f none
def bJ (P:Program)(T:xz):Prop:=
 (T.tyL.map fun p=>lp P p.1)=(T.tyL.map fun p=>some p.2)/\
 (T.elL.map fun p=>x9 P p.1)=(T.elL.map fun p=>some p.2)/\
 (T.fdL.map fun p=>(Zo p.2.length).map (PL P p.1))=(T.fdL.map fun p=>p.2)/\
 (T.bdL.map fun p=>bdI P p.1)=(T.bdL.map fun p=>some p.2)/\
 (T.itL.map fun p=>Ir P p.1)=(T.itL.map fun p=>some p.2)/\
 (T.boL.map fun p=>uH P p.1)=(T.boL.map fun _=>true)/\
 (T.slL.map fun p=>oF P p.1)=(T.slL.map fun _=>true)/\
 (T.fnL.map fun p=>dd P p.1)=(T.fnL.map fun _=>true)/\
 (T.ptL.map fun p=>Fy P p.1)=(T.ptL.map fun p=>some p.2)/\
 (T.pnL.map fun p=>(lp P p.1).isNone)=(T.pnL.map fun _=>true)/\
 (T.mpL.map fun p=>zB P p.1)=(T.mpL.map fun p=>some p.2)/\
 (T.cmL.map fun p=>MS P p.1)=(T.cmL.map fun p=>some p.2)
theorem iZ {α:Type}:∀ {l:List (Nat×α)} {t:Nat} {x:α},lk l t=some x->(t,x)∈l
 |[],_,_,h=>by cases h
 | (k,y)::r,t,x,h=>by
  simp only[lk]at h;split at h
  ·rename_i e;cases h;cases Z5 e;simp
  ·exact Wk _ (iZ h)
theorem fZ {α β:Type}{f g:α->β}:∀ {l:List α},l.map f=l.map g->∀ x∈l,f x=g x
 |[],_,x,hx=>by cases hx
 | y::l,h,x,hx=>by
   simp only[ZT,Vo]at h;rcases Zl.1 hx with rfl|hx;exact h.1;exact fZ h.2 x hx
section
variable {P: Program} {T: xz}
theorem bJ.ty (h:bJ P T)(t:Nat):lk T.tyL t=none\/∃ x,lk T.tyL t=some x/\lp P t=some x:=by
 cases e:lk T.tyL t with
 |none=>exact .inl rfl
 |some x=>exact .inr ⟨x,rfl,fZ h.1 _ (iZ e)⟩
theorem bJ.el (h:bJ P T)(t:Nat):lk T.elL t=none\/∃ x,lk T.elL t=some x/\x9 P t=some x:=by
 cases e:lk T.elL t with
 |none=>exact .inl rfl
 |some x=>exact .inr ⟨x,rfl,fZ h.2.1 _ (iZ e)⟩
theorem bJ.fd (h:bJ P T)(s f:Nat):lkF (lk T.fdL s) f=none\/∃ x,lkF (lk T.fdL s) f=some x/\PL P s f=some x:=by
 cases e:lk T.fdL s with
 |none=>exact .inl rfl
 | some l=>
   have h1:=fZ h.2.2.1 _ (iZ e);simp only at h1;cases e2:l.getD f none with
   |none=>exact .inl e2
   | some x=>
     refine .inr ⟨x,e2,?_⟩;have hlt:f<l.length:=by
      rcases Yb f l.length with c|c;exact c
      ·rw[Zm,Yc c]at e2;cases e2
     have h2:((Zo l.length).map (PL P s))[f]?=l[f]?:=by rw[h1]
     rw[ZE,List.getElem?_range hlt,Zu hlt]at h2;rw[Zm,Zu hlt]at e2;simp at h2 e2;rw[h2,e2]
theorem bJ.bd (h:bJ P T)(t:Nat):lk T.bdL t=none\/∃ x,lk T.bdL t=some x/\bdI P t=some x:=by
 cases e:lk T.bdL t with
 |none=>exact .inl rfl
 |some x=>exact .inr ⟨x,rfl,fZ h.2.2.2.1 _ (iZ e)⟩
theorem bJ.it (h:bJ P T)(t:Nat):lk T.itL t=none\/∃ x,lk T.itL t=some x/\Ir P t=some x:=by
 cases e:lk T.itL t with
 |none=>exact .inl rfl
 |some x=>exact .inr ⟨x,rfl,fZ h.2.2.2.2.1 _ (iZ e)⟩
theorem bJ.bo (h:bJ P T)(t:Nat):lk T.boL t=none\/∃ x,lk T.boL t=some x/\uH P t=true:=by
 cases e:lk T.boL t with
 |none=>exact .inl rfl
 |some x=>exact .inr ⟨x,rfl,fZ h.2.2.2.2.2.1 _ (iZ e)⟩
theorem bJ.sl (h:bJ P T)(t:Nat):lk T.slL t=none\/∃ x,lk T.slL t=some x/\oF P t=true:=by
 cases e:lk T.slL t with
 |none=>exact .inl rfl
 |some x=>exact .inr ⟨x,rfl,fZ h.2.2.2.2.2.2.1 _ (iZ e)⟩
theorem bJ.fn (h:bJ P T)(t:Nat):lk T.fnL t=none\/∃ x,lk T.fnL t=some x/\dd P t=true:=by
 cases e:lk T.fnL t with
 |none=>exact .inl rfl
 |some x=>exact .inr ⟨x,rfl,fZ h.2.2.2.2.2.2.2.1 _ (iZ e)⟩
theorem bJ.pt (h:bJ P T)(t:Nat):lk T.ptL t=none\/∃ x,lk T.ptL t=some x/\Fy P t=some x:=by
 cases e:lk T.ptL t with
 |none=>exact .inl rfl
 |some x=>exact .inr ⟨x,rfl,fZ h.2.2.2.2.2.2.2.2.1 _ (iZ e)⟩
theorem bJ.pn (h:bJ P T)(t:Nat):lk T.pnL t=none\/∃ x,lk T.pnL t=some x/\lp P t=none:=by
 cases e:lk T.pnL t with
 |none=>exact .inl rfl
 |some x=>exact .inr ⟨x,rfl,Option.isNone_iff_eq_none.1 (fZ h.2.2.2.2.2.2.2.2.2.1 _ (iZ e))⟩
theorem bJ.mp (h:bJ P T)(t:Nat):lk T.mpL t=none\/∃ x,lk T.mpL t=some x/\zB P t=some x:=by
 cases e:lk T.mpL t with
 |none=>exact .inl rfl
 |some x=>exact .inr ⟨x,rfl,fZ h.2.2.2.2.2.2.2.2.2.2.1 _ (iZ e)⟩
theorem bJ.cm (h:bJ P T)(t:Nat):lk T.cmL t=none\/∃ x,lk T.cmL t=some x/\MS P t=some x:=by
 cases e:lk T.cmL t with
 |none=>exact .inl rfl
 |some x=>exact .inr ⟨x,rfl,fZ h.2.2.2.2.2.2.2.2.2.2.2 _ (iZ e)⟩
end
abbrev CT :=FuncId->List DV->Option ((Unit->Prop)×List DV)
abbrev MT :=FuncId->Option MK
structure Ev where
 rd:CT
 mu:MT
 pt:FuncId->Option PK
 nw:FuncId->Option NK
 tk:FuncId->Option OJ
section
variable (T: xz) (O: CF) (ct: Ev) (n: Nat)
def k8 (O:CF)(es:af)(i:Int):Nat->aT->aT
 |_,[]=>[]
 |j,.v (.int k _)::zs=>.v (.int k (O.gi es i j))::k8 O es i (j+1) zs
 |j,.v (.bool _)::zs=>.v (.bool (O.gb es i j))::k8 O es i (j+1) zs
 |j,.v (.string _)::zs=>.v (.string (O.gt es i j))::k8 O es i (j+1) zs
 |j,.s sz _::zs=>.s sz (O.gs es i j)::k8 O es i (j+1) zs
 |j,_::zs=>.g::k8 O es i (j+1) zs
def js (O:CF)(l:L)(p:List (Nat×Nat)):Nat->aT->aT
 |_,[]=>[]
 |j,.v (.int k _)::zs=>.v (.int k (O.pi l (uB p j)))::js O l p (j+1) zs
 |j,.v (.bool _)::zs=>.v (.bool (O.pb l (uB p j)))::js O l p (j+1) zs
 |j,.v (.string _)::zs=>.v (.string (O.pt l (uB p j)))::js O l p (j+1) zs
 |j,.s sz _::zs=>.s sz (O.ps l (uB p j))::js O l p (j+1) zs
 |j,_::zs=>.g::js O l p (j+1) zs
def Dr (r j:Nat)(h:Hv):A:=
 match h.c with
 | .own (.v x)=>.v x
 | .own (.s _ es)=>.vw r j h.ver 0 (O.ln es)
 | .own .g=>.un
 | .own (.m _ _)=>.mv r j h.ver
 | .ro (.v x)=>.v x
 | .ro (.s sz es)=>.ro sz es
 | .ro .g=>.un
 | .ro (.m _ _)=>.un
 | .gone=>.un
def Ds {α:Type}(r j:Nat)(h:Hv)(k:A->Rd α):Rd α:=
 match h.c with
 | .gone=>match ML h.org with
   | some i=>gp (G9 i) (Kq i) fun h'=>match h'.c with
     | .own (.s _ es)=>match ML h'.org with
       |some i'=>if ZL (G9 i') (G9 i)&&ZL (Kq i') (Kq i)then k (.vw (G9 i) (Kq i) h'.ver 0 (O.ln es))else k .un
       |none=>k .un
     |_=>k .un
   |none=>k .un
 | .own _=>k (Dr O r j h)
 | .ro _=>k (Dr O r j h)
def gQ {α:Type}(r:Nat):Nat->Nat->(List A->Rd α)->Rd α
 |_,0,k=>k []
 |j,m+1,k=>gp r j fun h=>Ds O r j h fun a=>gQ r (j+1) m fun as=>k (a::as)
def md (r j ver iv:Nat)(p:List (Nat×Nat)):Nat->aT->List A
 |_,[]=>[]
 |o,.v x::ls=>.v x::md r j ver iv p (o+1) ls
 |o,.s _ es::ls=>.vn r j ver iv (uB p o) 0 (O.ln es)::md r j ver iv p (o+1) ls
 |o,.g::ls=>.un::md r j ver iv p (o+1) ls
 |o,.m _ _::ls=>.un::md r j ver iv p (o+1) ls
def qg (d:Option Tmp)(t:TypeId)(x:Operand):Rd Out:=
 match lk T.tyL t with
 |none=>.fail
 | some ti=>fk x fun
   | .pt r j=>gQ O r j ti.zero.length fun as=>LF ti as (bG n d)
   | .pn r j ver iv p=>gp r j fun h=>
     if vV h ver iv p then match h.c with
      | .own l=>.req (O.pr fun _=>∃ rec o,bQ l p=some (rec,o)/\o+ti.zero.length<=rec.length/\(rec.drop o).take ti.zero.length=js O l p 0 ti.zero)
         (LF ti (md O r j ver h.iv p 0 (js O l p 0 ti.zero)) (bG n d))
      |_=>.fail
     else .fail
   | .rp rec o=>if o+ti.zero.length<=rec.length then LF ti (((rec.drop o).take ti.zero.length).map roA) (bG n d)else .fail
   |_=>.fail
def wR {α:Type}(slot:Option Nat)(a:A)(k:L->Option Nat->List (Nat×Nat)->Rd α):Rd α:=
 match a,slot with
 | .v x,none=>if scal x then k (.v x) none []else .fail
 | .nl,some sz=>k (.s sz []) none []
 | .vw r j ver lo m,some sz=>gp r j fun h=>
   match h.c with
   | .own (.s sz' es)=>if h.ver==ver&&sz'==sz then .req (O.pr fun _=>lo=0/\m=es.length) (k (.s sz' es) h.org [(r,j)])else .fail
   |_=>.fail
 | .mv r j ver,some _=>gp r j fun h=>
   match h.c with
   | .own (.m kb es)=>if h.ver==ver then k (.m kb es) h.org [(r,j)]else .fail
   |_=>.fail
 |_,_=>.fail
def jv {α:Type}:List (Option Nat)->List A->(List (L×Option Nat)->List (Nat×Nat)->Rd α)->Rd α
 |[],[],k=>k [] []
 |sl::sls,a::as,k=>wR O sl a fun l og src=>jv sls as fun ls srcs=>k ((l,og)::ls) (src++srcs)
 |_,_,_=>.fail
def NJ {α:Type}(slot:Option Nat)(a:A)(k:H->Option Nat->List (Nat×Nat)->Rd α):Rd α:=
 match a,slot with
 | .ro sz' es,some sz=>if sz'==sz then k (.ro (.s sz' es)) none []else .fail
 | .vw r j ver lo m,some sz=>gp r j fun h=>match ML h.org with
   | some i=>match h.c with
     | .own (.s sz' es)=>if h.ver==ver&&sz'==sz then .req (O.pr fun _=>lo=0/\m=es.length) (k .gone (some i) [])else .fail
     |_=>.fail
   |none=>wR O (some sz) (.vw r j ver lo m) fun l og src=>k (.own l) og src
 |a,slot=>wR O slot a fun l og src=>k (.own l) og src
def rl {α:Type}:List (Option Nat)->List A->(List (H×Option Nat)->List (Nat×Nat)->Rd α)->Rd α
 |[],[],k=>k [] []
 |sl::sls,a::as,k=>NJ O sl a fun h og src=>rl sls as fun hs srcs=>k ((h,og)::hs) (src++srcs)
 |_,_,_=>.fail
def Aw (t:TypeId)(x y:Operand):Rd Out:=
 match lk T.tyL t with
 |none=>.fail
 | some ti=>fk x fun p=>ev y fun val=>
   match dz val with
   |none=>.fail
   | some as=>
     match p with
     | .pt r j=>rl O ti.slots as fun hs srcs=>
       if bC srcs&&srcs.all (fun s=> !zq r j hs.length s)then
        iH srcs fun w1=>gS r j hs fun w2=>.ret (.ws (w1++w2))
       else .fail
     | .pn r j ver iv p=>jv O ti.slots as fun ls srcs=>
       if bC srcs&&srcs.all (fun s=>s !=(r,j))then
        iH srcs fun w1=>gp r j fun h=>
         if vV h ver iv p then match h.c with
          | .own (.s sz es)=>.req (O.pr fun _=>∃ rec o,bQ (.s sz es) p=some (rec,o)/\o+ls.length<=rec.length)
             (.ret (.ws (w1++[.leaf r j ⟨h.ver,h.iv+1,h.org,.own (.s sz (O.up (.s sz es) p (ls.map (·.1))))⟩])))
          |_=>.fail
         else .fail
       else .fail
     |_=>.fail
def JV (d:Option Tmp)(t:TypeId)(x:Operand):Rd Out:=
 match lk T.tyL t with
 |none=>.fail
 | some ti=>ev x fun val=>
   match dz val with
   |none=>.fail
   | some as=>fresh n d fun d=>rl O ti.slots as fun hs srcs=>
     if bC srcs then iH srcs fun w1=>.ret (.ws (w1++[.root d true (uu hs),.reg d (.one (.pt d 0))]))else .fail
def pa (d sz:Nat)(es:af):List W:=[.root d false [⟨0,0,none,.own (.s sz es)⟩],.reg d (.one (.vw d 0 0 0 (O.ln es)))]
def Er (d:Option Tmp)(t:TypeId)(len cap:Operand):Rd Out:=
 match lk T.elL t with
 |none=>.fail
 | some (_,ti,bytes)=>j5 len fun kl l=>j5 cap fun kc c=>
   if kl==.i64&&kc==.i64 then
    .req (O.pr fun _=>0<=l/\l<=c/\c*(bytes:Int)<=70368744177664/\c<=70368744177664) (fresh n d fun d=>.ret (.ws (pa O d ti.zero.length (O.rep l ti.zero))))
   else .fail
def ri {α:Type}(ti:TI)(len:Nat):List (Nat×Operand)->(List (Nat×aT)->List (Nat×Nat)->Rd α)->Rd α
 |[],k=>k [] []
 | (i,x)::ps,k=>if i<len then ev x fun val=>match dz val with
     |none=>.fail
     |some as=>jv O ti.slots as fun ls src=>ri ti len ps fun rest srcs=>k ((i,ls.map (·.1))::rest) (src++srcs)
  else .fail
def nz (d:Option Tmp)(t:TypeId)(len:Nat)(parts:Array (Nat×Operand)):Rd Out:=
 match lk T.elL t with
 |none=>.fail
 | some (_,ti,_)=>if len*ti.zero.length<=16777216 then
    ri O ti len parts.toList fun ps srcs=>if bC srcs then iH srcs fun w1=>fresh n d fun d=>.ret (.ws (w1++pa O d ti.zero.length (fF (Zt len ti.zero) ps)))else .fail
   else .fail
def oZ (d:Option Tmp)(t:TypeId)(x i:Operand):Rd Out:=
 match lk T.elL t with
 |none=>.fail
 | some (_,ti,_)=>fk x fun a=>j5 i fun _ i=>
   match a with
   | .ro sz es=>if sz==ti.zero.length then .req (O.pr fun _=>0<=i/\i<es.length/\es.getD i.toNat []=k8 O es i 0 ti.zero) (bG n d (.one (.rp (k8 O es i 0 ti.zero) 0)))else .fail
   | .vw r j ver lo m=>gp r j fun h=>match h.c with
     | .own (.s sz _)=>if h.ver==ver&&sz==ti.zero.length then .req (O.pr fun _=>0<=i/\i<m) (bG n d (.one (.pn r j ver h.iv [(O.ad lo i,0)])))else .fail
     |_=>.fail
   | .vn r j ver iv p lo m=>gp r j fun h=>match h.c with
     | .own l=>if gP h ver iv then .req (O.pr fun _=>0<=i/\i<m/\∃ es,fC l p=some (ti.zero.length,es)) (bG n d (.one (.pn r j ver iv (p++[(O.ad lo i,0)]))))else .fail
     |_=>.fail
   |_=>.fail
def rF (d:Option Tmp)(t:TypeId)(x:Operand)(low high max:Option Operand):Rd Out:=
 match lk T.elL t,max with
 | some (_,ti,_),none=>fk x fun
   | .ro sz es=>if sz==ti.zero.length then d5 low 0 fun l=>d5 high (O.zi (O.ln es)) fun h=>
      .req (O.pr fun _=>0<=l/\l<=h/\h<=es.length) (bG n d (.one (.ro sz (O.sub es (O.nn l) (O.df h l)))))else .fail
   | .vw r j ver lo m=>gp r j fun hv=>match hv.c with
     | .own (.s sz _)=>if hv.ver==ver&&sz==ti.zero.length then d5 low 0 fun l=>d5 high (O.zi m) fun h=>
        .req (O.pr fun _=>0<=l/\l<=h/\h<=m) (bG n d (.one (.vw r j ver (O.ad lo l) (O.df h l))))else .fail
     |_=>.fail
   |_=>.fail
 |_,_=>.fail
def Iv:BinOp->Bool
 | .shl=>true
 | .shr=>true
 |_=>false
def Li:BinOp->Bool
 | .add=>true
 | .sub=>true
 | .mul=>true
 | .quo=>true
 | .rem=>true
 | .and=>true
 | .or=>true
 | .xor=>true
 | .andNot=>true
 |_=>false
def E3:BinOp->Bool
 | .quo=>true
 | .rem=>true
 |_=>false
def E2:BinOp->Bool
 | .eql=>true
 | .neq=>true
 | .lss=>true
 | .leq=>true
 | .gtr=>true
 | .geq=>true
 |_=>false
def Qn:BinOp->Bool
 | .eql=>true
 | .neq=>true
 |_=>false
def JR (d:Option Tmp)(op:BinOp)(t:TypeId)(x y:Operand):Rd Out:=
 fk x fun a=>fk y fun b=>
  match a,b with
  | .v (.int k a),.v (.int k' b)=>
    if Iv op then .req (O.pr fun _=>0<=b) (bG n d (.one (.v (.int k (O.sh op k a b)))))
    else if k==k' then
     (if E3 op then .req (O.pr fun _=>b≠0) (bG n d (.one (.v (.int k (O.ar op k a b)))))
      else if Li op then bG n d (.one (.v (.int k (O.ar op k a b))))
      else if E2 op then bG n d (.k (O.cmp op a b))
      else .fail)
    else .fail
  | .v (.bool a),.v (.bool b)=>if(lk T.boL t).isSome&&Qn op then bG n d (.k (O.bq op a b))else .fail
  |_,_=>.fail
def R0 (d:Option Tmp)(op:UnOp)(x:Operand):Rd Out:=
 fk x fun a=>match op,a with
  | .not,.v (.bool b)=>bG n d (.k (O.bn b))
  | .neg,.v (.int k a)=>bG n d (.one (.v (.int k (O.ar .sub k 0 a))))
  |_,_=>.fail
def Nu {α:Type}(a:A)(k:Nat->Rd α):Rd α:=
 match a with
 | .nl=>k 0
 | .ro _ es=>k (O.ln es)
 | .vw r j ver _ m=>gp r j fun h=>match h.c with
   | .own (.s _ _)=>if h.ver==ver then k m else .fail
   |_=>.fail
 | .vn r j ver iv p _ m=>gp r j fun h=>match h.c with
   | .own l=>if gP h ver iv then .req (O.pr fun _=>(fC l p).isSome=true) (k m)else .fail
   |_=>.fail
 |_=>.fail
def sP {α:Type}(ti:TI)(a:A)(k:af->List (Nat×Nat)->Rd α):Rd α:=
 match a with
 | .nl=>k [] []
 | .ro sz es=>if sz==ti.zero.length&&lz ti.slots then .req (O.pr fun _=>bE es) (k es [])else .fail
 | .vw r j ver lo m=>gp r j fun h=>match h.c with
   | .own (.s sz es)=>if h.ver==ver&&sz==ti.zero.length then
      (if lz ti.slots then .req (O.pr fun _=>bE es) (k (O.sub es lo m) [])
       else .req (O.pr fun _=>lo=0/\m=es.length) (k es [(r,j)]))
     else .fail
   |_=>.fail
 | .vn r j ver iv p lo m=>gp r j fun h=>match h.c with
   | .own l=>if gP h ver iv&&lz ti.slots then .req (O.pr fun _=>fC l p=some (ti.zero.length,O.ps l p)/\bE (O.ps l p)) (k (O.sub (O.ps l p) lo m) [])else .fail
   |_=>.fail
 |_=>.fail
def wZ (d:Option Tmp)(t t':TypeId)(s x:Operand):Rd Out:=
 match lk T.elL t with
 |none=>.fail
 | some (_,ti,bytes)=>if t==t' then fk s fun a=>fk x fun b=>
    wR O (some ti.zero.length) a fun l _ src=>match l with
     | .s sz es=>if sz==ti.zero.length then sP O ti b fun es2 src2=>if bC (src++src2)then
        .req (O.pr fun _=>(es.length+es2.length)*bytes<=70368744177664/\es.length+es2.length<=70368744177664) (iH (src++src2) fun w1=>fresh n d fun d=>.ret (.ws (w1++pa O d ti.zero.length (O.cat es es2))))
       else .fail else .fail
     |_=>.fail
   else .fail
def pj (d:Option Tmp)(t t':TypeId)(s x:Operand):Rd Out:=
 fk s fun
  | .vn _ _ _ _ _ _ _=>rB O.pr O.ps O.sub O.up O.cat (pa O) (fun ti b k=>sP O ti b k) (lk T.elL) n d t t' s x
  |_=>wZ T O n d t t' s x
def Ez {α:Type}(slot:Option Nat)(a:A)(k:L->Rd α):Rd α:=
 match a,slot with
 | .v x,none=>if scal x then k (.v x)else .fail
 | .nl,some sz=>k (.s sz [])
 | .ro sz' es,some sz=>if sz'==sz then k (.s sz' es)else .fail
 | .vw r j ver lo m,some sz=>gp r j fun h=>match h.c with
   | .own (.s sz' es)=>if h.ver==ver&&sz'==sz then k (.s sz' (O.sub es lo m))else .fail
   |_=>.fail
 | .vn r j ver iv p lo m,some sz=>gp r j fun h=>match h.c with
   | .own l=>if gP h ver iv then .req (O.pr fun _=>fC l p=some (sz,O.ps l p)) (k (.s sz (O.sub (O.ps l p) lo m)))else .fail
   |_=>.fail
 |_,_=>.fail
def kn {α:Type}:List (Option Nat)->List A->(aT->Rd α)->Rd α
 |[],[],k=>k []
 |sl::sls,a::as,k=>Ez O sl a fun l=>kn sls as fun ls=>k (l::ls)
 |_,_,_=>.fail
def Ha {α:Type}(t:TypeId)(x:Operand)(k:DV->Rd α):Rd α:=
 match lk T.tyL t with
 |none=>if(lk T.pnL t).isSome then Hd (lk T.ptL t) x k else .fail
 | some ti=>ev x fun val=>match val with
   | .one a=>if ti.agg then .fail else kn O ti.slots [a] fun ls=>match ls with
     |[l]=>k (.one l)
     |_=>.fail
   | .agg as=>if ti.agg then kn O ti.slots as fun ls=>k (.agg ls)else .fail
   | .tup _=>.fail
def yR {α:Type}:List TypeId->List Operand->(List DV->Rd α)->Rd α
 |[],[],k=>k []
 |t::ts,x::xs,k=>Ha T O t x fun d=>yR ts xs fun ds=>k (d::ds)
 |_,_,_=>.fail
def fG (d:Nat):Nat->aT->List A
 |_,[]=>[]
 |j,.v x::ls=>.v x::fG d (j+1) ls
 |j,.s _ es::ls=>.vw d j 0 0 (O.ln es)::fG d (j+1) ls
 |j,.g::ls=>.un::fG d (j+1) ls
 |j,.m _ _::ls=>.un::fG d (j+1) ls
def FF (d j:Nat):DV->R
 | .one l=>match fG O d j [l]with
   |[a]=>.one a
   |_=>.agg []
 | .agg ls=>.agg (fG O d j ls)
 |_=>.agg []
def zO (d:Nat):Nat->List DV->List R
 |_,[]=>[]
 |j,r::rs=>FF O d j r::zO d (j+(bK r).length) rs
def FE (d:Nat)(res:List DV):R:=match res with
 |[r]=>FF O d 0 r
 |rs=>.tup (zO O d 0 rs)
def fJ (d:Nat)(res:List DV):List W:=
 [.root d false ((res.flatMap bK).map fun l=>⟨0,0,none,.own l⟩),.reg d (FE O d res)]
def Em (d:Option Tmp)(f:FuncId)(ts:Array TypeId)(args:Array Operand):Rd Out:=
 if(lk T.fnL f).isSome then yR T O ts.toList args.toList fun ds=>match ct.rd f ds with
  |some (pre,res)=>.req (O.pr pre) (fresh n d fun d=>.ret (.ws (fJ O d res)))
  |none=>.fail
 else .fail
def Ah (d:Option Tmp)(t:Tmp)(ts:Array TypeId)(args:Array Operand):Rd Out:=
 fk (.tmp t) fun
  | .fn f caps=>yR T O ts.toList args.toList fun ds=>fO caps fun recs=>match ct.rd f (ds++recs.map .ptr)with
    |some (pre,res)=>.req (O.pr pre) (.req (O.pr fun _=>(lk T.fnL f).isSome=true) (fresh n d fun d=>.ret (.ws (fJ O d res))))
    |none=>.fail
  |_=>.fail
def Q7:Option TI->Bool
 |some ti=> !ti.agg&&ti.zero.length.beq 1
 |none=>false
def rE (d:Option Tmp)(t:TypeId)(x:Operand):Rd Out:=
 match Q7 (lk T.tyL t)with
 | true=>fk x fun
   | .pt r j=>.peek r j ⟨O.ln,O.lnOk⟩ fun
     |some (ver,_,m)=>bG n d (.one (.vw r j ver 0 m))
     |none=>qg T O n d t x
   |_=>qg T O n d t x
 |false=>qg T O n d t x
def kf (d:Option Tmp)(t:TypeId)(x i:Operand):Rd Out:=
 match lk T.elL t with
 |none=>.fail
 | some (_,ti,_)=>fk x fun
   | .vw r j ver lo m=>.peek r j ⟨O.ln,O.lnOk⟩ fun
     |some (ver',sz,_)=>if ver'==ver&&sz==ti.zero.length then j5 i fun _ i=>.req (O.pr fun _=>0<=i/\i<m) (bG n d (.one (.pn r j ver 0 [(O.ad lo i,0)])))else .fail
     |none=>.fail
   |_=>oZ T O n d t x i
def xk (d:Option Tmp)(t:TypeId)(x:Operand)(low high max:Option Operand):Rd Out:=
 match lk T.elL t,max with
 | some (_,ti,_),none=>fk x fun
   | .vw r j ver lo m=>.peek r j ⟨O.ln,O.lnOk⟩ fun
     | some (ver',sz,_)=>if ver'==ver&&sz==ti.zero.length then d5 low 0 fun l=>d5 high (O.zi m) fun h=>
        .req (O.pr fun _=>0<=l/\l<=h/\h<=m) (bG n d (.one (.vw r j ver (O.ad lo l) (O.df h l))))else .fail
     |none=>.fail
   |_=>rF T O n d t x low high max
 |_,_=>.fail
def rG (d:Option Tmp)(t:TypeId)(x:Operand)(low high max:Option Operand):Rd Out:=
 fk x fun
  | .vn _ _ _ _ _ _ _=>uT O.pr O.ad O.df O.zi (lk T.elL) n d t x low high max
  |_=>xk T O n d t x low high max
def xm (t:TypeId)(x y:Operand):Rd Out:=
 ev y fun
  | .one (.vn _ _ _ _ _ _ _)=>rI O.pr O.ps O.sub O.up (lk T.tyL) t x y
  |_=>Aw T O t x y
def An (d:Option Tmp)(t:Tmp)(ts:Array TypeId)(args:Array Operand):Rd Out:=
 fk (.tmp t) fun
  | .fn f _=>match ct.pt f with
    |some _=>pk O.pr (fun {β}=>kn O (α:=β)) (lk T.tyL) (lk T.ptL) (fun t=>(lk T.pnL t).isSome) n d (fun f=>(lk T.fnL f).isSome) t ts args ct.pt (fJ O)
    |none=>Ah T O ct n d t ts args
  |_=>.fail
def Ac (d:Option Tmp)(t:TypeId):Rd Out:=
 match lk T.tyL t with
 |none=>.fail
 |some ti=>fresh n d fun d=>.ret (.ws [.root d true (ti.zero.map fun l=>⟨0,0,none,.own l⟩),.reg d (.one (.pt d 0))])
def Ae (d:Option Tmp)(t:TypeId)(parts:Array (Nat×Operand)):Rd Out:=
 match lk T.tyL t with
 |none=>.fail
 | some ti=>match lk T.bdL t with
   |none=>.fail
   |some bd=>iK bd parts.toList (ti.zero.map J5) fun as=>bG n d (.agg as)
def oY (d:Option Tmp)(s:TypeId)(x:Operand)(f:Nat):Rd Out:=
 match lkF (lk T.fdL s) f with
 |none=>.fail
 | some o=>fk x fun
   | .pt r j=>bG n d (.one (.pt r (j+o)))
   | .rp rec j=>bG n d (.one (.rp rec (j+o)))
   | .pn r j ver iv p=>gp r j fun h=>match h.c with
     | .own _=>if vV h ver iv p then bG n d (.one (.pn r j ver iv (uB p o)))else .fail
     |_=>.fail
   |_=>.fail
def mmO (isMax:Bool):List Value->Option Value
 |[.int k a,.int k' b]=>if k==k' then some (.int k (O.mm isMax a b))else none
 |_=>none
def nT (o:Oper):Rd Out:=
 match o.op with
 | .move x=>ev x fun r=>bG n o.dst r
 | .assign x=>ev x fun r=>
   match x,r,o.dst with
   | .tmp t,.one (.vw r0 j ver lo m),some d=>
     if r0=t/\r0≠d/\d<n then .get (.meta_ r0) fun
      | some (.m 1 false)=>gp r0 j fun h=>match h.c,h.org with
        | .own (.s sz es),none=>if h.ver==ver then .req (O.pr fun _=>lo=0/\m=es.length) (.get (.meta_ d) fun
          |none=>.ret (.ws ([.leaf r0 j ⟨h.ver+1,h.iv,none,.gone⟩]++pa O d sz es))
          |some (.m 1 false)=>gp d 0 fun h2=>.ret (.ws [.leaf r0 j ⟨h.ver+1,h.iv,none,.gone⟩,.leaf d 0 ⟨h2.ver+1,h2.iv+1,none,.own (.s sz es)⟩,.reg d (.one (.vw d 0 (h2.ver+1) 0 (O.ln es)))])
          |_=>.fail)else .fail
        |_,_=>.fail
      |_=>.fail
     else bG n o.dst r
   |_,_,_=>bG n o.dst r
 | .pick c a b=>zh c fun c=>fk a fun a=>fk b fun b=>match a,b with
   | .v x,.v y=>match x,y with
     | .bool x,.bool y=>bG n o.dst (.k (O.sel c x y))
     | .tuple _,.bool y=>.br c .fail (bG n o.dst (.k y))
     | .bool x,.tuple _=>.br c (bG n o.dst (.k x)) .fail
     |_,_=>.fail
   |_,_=>.fail
 | .alloc t=>Ac T n o.dst t
 | .box t x=>JV T O n o.dst t x
 | .build t parts=>Ae T n o.dst t parts
 | .buildSlice t len parts=>nz T O n o.dst t len parts
 | .load t x=>rE T O n o.dst t x
 | .store t x y=>match o.dst with
   |none=>xm T O t x y
   |some _=>.fail
 | .fieldAddr s x f=>oY T n o.dst s x f
 | .indexAddr t x i=>kf T O n o.dst t x i
 | .nilCheck x=>fk x fun a=>match a with
   | .pt _ _=>bG n o.dst (.one a)
   | .rp _ _=>bG n o.dst (.one a)
   |_=>.fail
 | .binOp op t x y _=>JR T O n o.dst op t x y
 | .unOp op _ x=>R0 O n o.dst op x
 | .convert src dst x=>j5 x fun _ a=>match lk T.itL src,lk T.itL dst with
   |some _,some k=>bG n o.dst (.one (.v (.int k (O.wr k a))))
   |_,_=>.fail
 | .makeSlice t l c=>Er T O n o.dst t l c
 | .slice t x lo hi mx=>rG T O n o.dst t x lo hi mx
 | .makeFunc fn first captured=>match fn,first.toList with
   | .func f,[]=>AV captured.toList fun cs=>bG n o.dst (.one (.fn f cs))
   |_,_=>.fail
 | .extract x i=>ev x fun r=>match r with
   | .tup rs=>match rs[i]? with
     |some r=>bG n o.dst r
     |none=>.fail
   |_=>.fail
 | .makeMap t r=>mM (lk T.mpL) n o.dst t r
 | .field t x f=>sX (lk T.cmL) n o.dst t x f
 | .range t x=>s7 (lk T.mpL) n o.dst t x
 | .entry x=>xc n o.dst x
 | .lookup t x i ok=>pm O.mgb O.mgi (lk T.mpL) n o.dst t x i ok
 | .mapEntry t m k=>kj O.mgb O.mgi O.mu (lk T.mpL) n o.dst t m k
 | .entryStore t m s x=>match o.dst with
   |none=>gT O.mu (lk T.mpL) t m s x
   |some _=>.fail
 | .mapUpdate t m k v=>match o.dst with
   |none=>po O.mu (lk T.mpL) t m k v
   |some _=>.fail
 | .call c=>match c.callee with
   | .builtin .len=>match c.args.toList,c.argTypes.toList with
     |[x],[t]=>if(lk T.slL t).isSome then fk x fun a=>Nu O a fun m=>bG n o.dst (.j (O.zi m))else .fail
     |_,_=>.fail
   | .builtin .append=>match c.args.toList,c.argTypes.toList with
     |[s,x],[t,t']=>pj T O n o.dst t t' s x
     |_,_=>.fail
   | .builtin .min=>oB c.args.toList fun vs=>match mmO O false vs with
     |some v=>bG n o.dst (.one (.v v))
     |none=>.fail
   | .builtin .max=>oB c.args.toList fun vs=>match mmO O true vs with
     |some v=>bG n o.dst (.one (.v v))
     |none=>.fail
   | .value (.func f)=>match ct.nw f with
    |some mk=>sT O.pr n o.dst (lk T.fnL f).isSome c.args mk
    |none=>match ct.tk f with
    |some mk=>sV (fun {β}=>jv O (α:=β)) (lk T.tyL) O.pr n o.dst (lk T.fnL f).isSome c.argTypes c.args mk (fJ O)
    | none=>match ct.pt f with
     |some mk=>sU O.pr (fun {β}=>kn O (α:=β)) (lk T.tyL) (lk T.ptL) (fun t=>(lk T.pnL t).isSome) n o.dst (lk T.fnL f).isSome c.argTypes c.args mk (fJ O)
     | none=>match ct.mu f with
       |some mk=>sS O.pr O.ps O.up (lk T.tyL) n o.dst (lk T.fnL f).isSome c.argTypes c.args mk (fJ O)
       |none=>Em T O ct n o.dst f c.argTypes c.args
   | .value (.tmp t)=>An T O ct n o.dst t c.argTypes c.args
   |_=>.fail
 |_=>.fail
end
end Go.V
namespace Go.V
theorem Gq {α:Type}(r j:Nat)(h:Hv)(k:A->Rd α):Ds aj r j h k=v7 r j h k:=rfl
theorem kR {α:Type}(r:Nat):∀ (m j:Nat) (k:List A->Rd α),gQ aj r j m k=dY r j m k
 |0,j,k=>rfl
 | m+1,j,k=>by
   simp only[gQ,dY]
   congr 1;funext h
   rw[Gq]
   congr 1;funext a
   exact kR r m (j+1) _
theorem mF (r j ver iv:Nat)(p:List (Nat×Nat)):∀ (ls:aT) (o:Nat),md aj r j ver iv p o ls=j7 r j ver iv p o ls
 |[],o=>rfl
 | .v x::ls,o=>by simp only[md,j7,mF r j ver iv p ls]
 | .s sz es::ls,o=>by simp only[md,j7,mF r j ver iv p ls];rfl
 | .g::ls,o=>by simp only[md,j7,mF r j ver iv p ls]
 | .m _ _::ls,o=>by simp only[md,j7,mF r j ver iv p ls]
theorem yF: @wR aj= @take1:=rfl
theorem jx {α:Type}:∀ (sl:List (Option Nat)) (as:List A) (k:List (L×Option Nat)->List (Nat×Nat)->Rd α),jv aj sl as k=cU sl as k
 |[],[],k=>rfl
 |[],_::_,k=>rfl
 |_::_,[],k=>rfl
 | s::sl,a::as,k=>by
   simp only[jv,cU,yF]
   congr 1;funext l og src
   exact jx sl as _
theorem Jd: @NJ aj= @LX:=rfl
theorem qa {α:Type}:∀ (sl:List (Option Nat)) (as:List A) (k:List (H×Option Nat)->List (Nat×Nat)->Rd α),rl aj sl as k=mg sl as k
 |[],[],k=>rfl
 |[],_::_,k=>rfl
 |_::_,[],k=>rfl
 | s::sl,a::as,k=>by
   simp only[rl,mg,Jd]
   congr 1;funext l og src
   exact qa sl as _
theorem wt:pa aj=ownRow:=rfl
theorem tM {α:Type}(ti:TI)(len:Nat):∀ (ps:List (Nat×Operand)) (k:List (Nat×aT)->List (Nat×Nat)->Rd α),ri aj ti len ps k=partsOf ti len ps k
 |[],k=>rfl
 | (i,x)::ps,k=>by
  simp only[ri,partsOf,jx,tM ti len ps];rfl
theorem ju (d:Nat):∀ (ls:aT) (j:Nat),fG aj d j ls=dK d j ls
 |[],j=>rfl
 | .v x::ls,j=>by simp only[fG,dK,ju d ls]
 | .s sz es::ls,j=>by simp only[fG,dK,ju d ls];rfl
 | .g::ls,j=>by simp only[fG,dK,ju d ls]
 | .m _ _::ls,j=>by simp only[fG,dK,ju d ls]
theorem BL (d j:Nat)(r:DV):FF aj d j r=D6 d j r:=by
 cases r<;>simp only[FF,D6,ju]<;>rfl
theorem yC (d:Nat):∀ (rs:List DV) (j:Nat),zO aj d j rs=kT d j rs
 |[],j=>rfl
 |r::rs,j=>by simp only[zO,kT,BL,yC d rs]
theorem ki (d:Nat)(res:List DV):fJ aj d res=dC d res:=by
 unfold fJ dC FE iC;split<;>simp only[BL,yC]
section
variable {P: Program} {T: xz} {n: Nat} {g: Gm}
theorem JW (hT:bJ P T){d:Option Tmp}{t:TypeId}{x:Operand}{ls:List Loc}{out:Out}(h:(JV T aj n d t x).Runs g ls out):(JU P n d t x).Runs g ls out:=by
 revert h;unfold JV JU
 rcases hT.ty t with e|⟨ti,e,e2⟩
 ·simp only[e];exact fun h=>h.elim
 ·simp only[e,e2,qa];exact fun h=>h
theorem GJ (hT:bJ P T){d:Option Tmp}{t:TypeId}{x y:Operand}{ls:List Loc}{out:Out}(h:(Er T aj n d t x y).Runs g ls out):(Ci P n d t x y).Runs g ls out:=by
 revert h;unfold Er Ci
 rcases hT.el t with e|⟨ti,e,e2⟩
 ·simp only[e];exact fun h=>h.elim
 ·simp only[e,e2,wt];exact fun h=>h
theorem uz (hT:bJ P T){d:Option Tmp}{t:TypeId}{len:Nat}{parts:Array (Nat×Operand)}{ls:List Loc}{out:Out}(h:(nz T aj n d t len parts).Runs g ls out):(jB P n d t len parts).Runs g ls out:=by
 revert h;unfold nz jB
 rcases hT.el t with e|⟨ti,e,e2⟩
 ·simp only[e];exact fun h=>h.elim
 ·simp only[e,e2,wt,tM];exact fun h=>h
theorem Ei (hT:bJ P T){d:Option Tmp}{t:TypeId}{ls:List Loc}{out:Out}(h:(Ac T n d t).Runs g ls out):(wW P n d t).Runs g ls out:=by
 revert h;unfold Ac wW
 rcases hT.ty t with e|⟨ti,e,e2⟩
 ·simp only[e];exact fun h=>h.elim
 ·simp only[e,e2];exact fun h=>h
theorem Ek (hT:bJ P T){d:Option Tmp}{t:TypeId}{parts:Array (Nat×Operand)}{ls:List Loc}{out:Out}(h:(Ae T n d t parts).Runs g ls out):(w9 P n d t parts).Runs g ls out:=by
 revert h;unfold Ae w9
 rcases hT.ty t with e|⟨ti,e,e2⟩
 ·simp only[e];exact fun h=>h.elim
 ·rcases hT.bd t with f|⟨bd,f,f2⟩
  ·simp only[e,f];exact fun h=>h.elim
  ·simp only[e,e2,f,f2];exact fun h=>h
theorem xd (hT:bJ P T){d:Option Tmp}{s:TypeId}{x:Operand}{f:Nat}{ls:List Loc}{out:Out}(h:(oY T n d s x f).Runs g ls out):(kX P n d s x f).Runs g ls out:=by
 revert h;unfold oY kX
 rcases hT.fd s f with e|⟨ti,e,e2⟩
 ·simp only[e];exact fun h=>h.elim
 ·simp only[e,e2];exact fun h=>h
theorem FD {α:Type}{l:Loc}{k' k:Val->Rd α}{x:α}{ls:List Loc}(hk:∀ v ls,(k' v).Runs g ls x->(k v).Runs g ls x)(h:(rd l k').Runs g ls x):(rd l k).Runs g ls x:=by
 unfold rd at*;simp only[Rd.Runs]at*;obtain⟨ls',e,h⟩:=h;refine⟨ls',e,?_⟩;cases hg:g l with
 |none=>simp[hg,Rd.Runs]at h
 |some v=>simp only[hg]at h ⊢;exact hk v _ h
theorem wy {α:Type}{d:Nat}{k' k:R->Rd α}{x:α}{ls:List Loc}(hk:∀ v ls,(k' v).Runs g ls x->(k v).Runs g ls x)(h:(AG d k').Runs g ls x):(AG d k).Runs g ls x:=by
 refine FD ?_ h;intro v ls h;cases v with
 |r y=>exact hk _ _ h
 |h y=>exact h
 |m a b=>exact h
theorem dm {α:Type}{r j:Nat}{k' k:Hv->Rd α}{x:α}{ls:List Loc}(hk:∀ v ls,(k' v).Runs g ls x->(k v).Runs g ls x)(h:(gp r j k').Runs g ls x):(gp r j k).Runs g ls x:=by
 refine FD ?_ h;intro v ls h;cases v with
 |h y=>exact hk _ _ h
 |r y=>exact h
 |m a b=>exact h
theorem qO {α:Type}{y:Operand}{k' k:R->Rd α}{x:α}{ls:List Loc}(hk:∀ v ls,(k' v).Runs g ls x->(k v).Runs g ls x)(h:(ev y k').Runs g ls x):(ev y k).Runs g ls x:=by
 cases y with
 |tmp t=>exact wy hk h
 |const c=>exact hk _ _ h
 |_=>exact h
theorem dH {α:Type}{y:Operand}{k' k:A->Rd α}{x:α}{ls:List Loc}(hk:∀ v ls,(k' v).Runs g ls x->(k v).Runs g ls x)(h:(fk y k').Runs g ls x):(fk y k).Runs g ls x:=by
 refine qO ?_ h;intro v ls h;cases v with
 |one a=>exact hk _ _ h
 |agg as=>exact h
 |tup rs=>exact h
theorem pT {α:Type}{y:Operand}{k' k:IntKind->Int->Rd α}{x:α}{ls:List Loc}(hk:∀ v w ls,(k' v w).Runs g ls x->(k v w).Runs g ls x)(h:(j5 y k').Runs g ls x):(j5 y k).Runs g ls x:=by
 refine dH ?_ h;intro v ls h;cases v with
 | v y=>cases y with
   |int kd m=>exact hk _ _ _ h
   |_=>exact h
 |_=>exact h
theorem qN {α:Type}{y:Option Operand}{dflt:Int}{k' k:Int->Rd α}{x:α}{ls:List Loc}(hk:∀ v ls,(k' v).Runs g ls x->(k v).Runs g ls x)(h:(d5 y dflt k').Runs g ls x):(d5 y dflt k).Runs g ls x:=by
 cases y with
 |none=>exact hk _ _ h
 |some y=>exact pT (fun _ _ ls h=>hk _ ls h) h
theorem kS {α:Type}{c' c:Prop}{k' k:Rd α}{x:α}{ls:List Loc}(hc:c'->c)(hk:∀ ls,k'.Runs g ls x->k.Runs g ls x)(h:(Rd.req c' k').Runs g ls x):(Rd.req c k).Runs g ls x:=⟨hc h.1,hk _ h.2⟩
theorem cO {α:Type}{b:Prop}[Decidable b]{k' k:Rd α}{x:α}{ls:List Loc}(hk:∀ ls,k'.Runs g ls x->k.Runs g ls x)(h:(if b then k' else Rd.fail).Runs g ls x):(if b then k else Rd.fail).Runs g ls x:=by
 split at h
 ·rename_i hb;rw[VT hb];exact hk _ h
 ·exact h.elim
theorem Es (hT:bJ P T){d:Option Tmp}{t:TypeId}{x:Operand}{lo hi mx:Option Operand}{ls:List Loc}{out:Out}(h:(rF T aj n d t x lo hi mx).Runs g ls out):(xj P n d t x lo hi mx).Runs g ls out:=by
 revert h
 unfold rF xj;rcases hT.el t with e|⟨q,e,e2⟩
 ·simp only[e];exact fun h=>h.elim
 simp only[e,e2];intro h;cases mx with
 |some _=>exact h.elim
 | none=>
   ·
     obtain⟨e,ti,b⟩:=q;refine dH ?_ h;intro a ls h;cases a with
     | ro sz es=>
       refine cO (fun ls h=>?_) h;refine qN (fun l ls h=>?_) h;refine qN (fun u ls h=>?_) h;refine kS id (fun ls h=>?_) h;rw[show(es.take u.toNat).drop l.toNat=(es.drop l.toNat).take (u.toNat-l.toNat)from YS ..];exact h
     | vw r j ver lo m=>
       refine dm ?_ h;intro hv ls h
       revert h
       generalize hv.c=c;intro h;cases c with
       | own l=>cases l with
         |s sz es=>exact h
         |v x=>exact h
         |g=>exact h
         |m _ _=>exact h
       |ro l=>exact h
       |gone=>exact h
     |_=>exact h
theorem wT {α:Type}{slot:Option Nat}{a:A}{k' k:L->Option Nat->List (Nat×Nat)->Rd α}{x:α}{ls:List Loc}(hk:∀ l og src ls,(k' l og src).Runs g ls x->(k l og src).Runs g ls x)(h:(take1 slot a k').Runs g ls x):(take1 slot a k).Runs g ls x:=by
 cases slot with
 | none=>
   cases a with
   |v y=>exact cO (fun ls h=>hk _ _ _ _ h) h
   |_=>exact h
 | some sz=>
   cases a with
   |nl=>exact hk _ _ _ _ h
   | vw r j ver lo m=>
     refine dm ?_ h;intro hv ls h
     revert h
     generalize hv.c=c;intro h;cases c with
     | own l=>cases l with
       |s sz' es=>exact cO (fun ls h=>kS id (fun ls h=>hk _ _ _ _ h) h) h
       |v x=>exact h
       |g=>exact h
       |m _ _=>exact h
     |ro l=>exact h
     |gone=>exact h
   | mv r j ver=>
     refine dm ?_ h;intro hv ls h
     revert h
     generalize hv.c=c;intro h;cases c with
     | own l=>cases l with
       |m kb es=>exact cO (fun ls h=>hk _ _ _ _ h) h
       |v x=>exact h
       |g=>exact h
       |s _ _=>exact h
     |ro l=>exact h
     |gone=>exact h
   |_=>exact h
theorem iE {α:Type}:∀ {sl:List (Option Nat)} {as:List A} {k' k:List (L×Option Nat)->List (Nat×Nat)->Rd α} {x:α} {ls:List Loc},(∀ l src ls,(k' l src).Runs g ls x->(k l src).Runs g ls x)->(cU sl as k').Runs g ls x->(cU sl as k).Runs g ls x
 |[],[],k',k,x,ls,hk,h=>hk _ _ _ h
 |[],_::_,k',k,x,ls,hk,h=>h
 |_::_,[],k',k,x,ls,hk,h=>h
 |s::sl,a::as,k',k,x,ls,hk,h=>wT (fun l og src ls h=>iE (fun _ _ ls h=>hk _ _ ls h) h) h
theorem vU {α:Type}:∀ {xs:List (Nat×Nat)} {k' k:List W->Rd α} {x:α} {ls:List Loc},(∀ l ls,(k' l).Runs g ls x->(k l).Runs g ls x)->(iH xs k').Runs g ls x->(iH xs k).Runs g ls x
 |[],k',k,x,ls,hk,h=>hk _ _ h
 |(r,j)::xs,k',k,x,ls,hk,h=>dm (fun v ls h=>vU (fun _ ls h=>hk _ ls h) h) h
theorem o8 {l:L}{p:List (Nat×Nat)}{sz:Nat}{es:af}(h:fC l p=some (sz,es)):∃ rec o,bQ l p=some (rec,o)/\rec[o]?=some (.s sz es):=by
 unfold fC at h;split at h
 ·rename_i rec o e;split at h
  ·rename_i sz' es' e';cases h;exact⟨rec,o,e,e'⟩
  ·cases h
 ·cases h
theorem GI (hT:bJ P T){d:Option Tmp}{t:TypeId}{x:Operand}{ls:List Loc}{out:Out}(h:(qg T aj n d t x).Runs g ls out):(Cf P n d t x).Runs g ls out:=by
 revert h
 unfold qg Cf;rcases hT.ty t with e|⟨ti,e,e2⟩
 ·simp only[e];exact fun h=>h.elim
 simp only[e,e2];intro h
 ·
   refine dH ?_ h;intro a ls h;cases a with
   |pt r j=>simp only[kR]at h;exact h
   | pn r j ver iv p=>
     refine dm ?_ h;intro hv ls h;refine cO (fun ls h=>?_) h
     revert h
     generalize hv.c=c;intro h;cases c with
     | own l=>
       obtain⟨⟨rec,o,e1,e2,e3⟩,h⟩:=h;simp only[e1,Rd.Runs];refine⟨e2,?_⟩;rw[e3];rw[mF]at h;exact h
     |ro l=>exact h
     |gone=>exact h
   | rp rec j=>
     simp only at h ⊢;split at h
     ·rename_i hle;exact⟨hle,h⟩
     ·exact h.elim
   |_=>exact h
theorem xo (hT:bJ P T){t:TypeId}{x y:Operand}{ls:List Loc}{out:Out}(h:(Aw T aj t x y).Runs g ls out):(s8 P t x y).Runs g ls out:=by
 revert h
 unfold Aw s8;rcases hT.ty t with e|⟨ti,e,e2⟩
 ·simp only[e];exact fun h=>h.elim
 simp only[e,e2];intro h
 ·
   refine dH ?_ h;intro a ls h;refine qO ?_ h;intro v ls h;generalize dz v=lv at h ⊢;cases lv with
   |none=>exact h.elim
   | some as=>
     cases a with
     |pt r j=>simp only[qa]at h;exact h
     | pn r j ver iv p=>
       simp only[jx]at h ⊢;refine iE ?_ h;intro lts srcs ls h;refine cO (fun ls h=>?_) h;refine vU ?_ h;intro w1 ls h;refine dm ?_ h;intro hv ls h;refine cO (fun ls h=>?_) h
       revert h
       generalize hv.c=c;intro h;cases c with
       | own l=>
         cases l with
         | s sz es=>
           obtain⟨⟨rec,o,e1,e2⟩,h⟩:=h;simp only[e1,Rd.Runs];refine⟨e2,?_⟩;simp only[Rd.Runs]at h;rw[h.1,h.2];refine⟨rfl,?_⟩;rw[wM e1];rfl
         |v x=>exact h.elim
         |g=>exact h.elim
         |m _ _=>exact h.elim
       |ro l=>exact h.elim
       |gone=>exact h.elim
     |_=>exact h
theorem xf (hT:bJ P T){d:Option Tmp}{t:TypeId}{x y:Operand}{ls:List Loc}{out:Out}(h:(oZ T aj n d t x y).Runs g ls out):(kY P n d t x y).Runs g ls out:=by
 revert h
 unfold oZ kY;rcases hT.el t with e|⟨q,e,e2⟩
 ·simp only[e];exact fun h=>h.elim
 simp only[e,e2];intro h
 ·
   obtain⟨e,ti,b⟩:=q;refine dH ?_ h;intro a ls h;refine pT ?_ h;intro kd i ls h;cases a with
   | ro sz es=>
     refine cO (fun ls h=>?_) h;obtain⟨⟨e1,e2,e3⟩,h⟩:=h;refine⟨⟨e1,e2⟩,?_⟩;rw[e3];exact h
   | vw r j ver lo m=>
     refine dm ?_ h;intro hv ls h
     revert h
     generalize hv.c=c;intro h;cases c with
     |own l=>cases l<;>exact h
     |ro l=>exact h
     |gone=>exact h
   | vn r j ver iv p lo m=>
     refine dm ?_ h;intro hv ls h
     revert h
     generalize hv.c=c;intro h;cases c with
     | own l=>
       refine cO (fun ls h=>?_) h;obtain⟨⟨e1,e2,es,e3⟩,h⟩:=h;obtain⟨rec,o,f1,f2⟩:=o8 e3;simp only[f1,f2,beq_self_eq_true,if_true];exact⟨⟨e1,e2⟩,h⟩
     |ro l=>exact h
     |gone=>exact h
   |_=>exact h
end
end Go.V