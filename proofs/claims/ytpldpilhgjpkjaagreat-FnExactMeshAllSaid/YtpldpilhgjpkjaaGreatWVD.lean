/-
  A condition generator for functions on trees of data, part 4 of 5: values in memory, contracts, soundness.
-/
import Derived.Test.YtpldpilhgjpkjaaGreatWVC
import Derived.IntWalk
import Derived.ProofKit
set_option linter.all false
open Go
open Act renaming put->YK
open Bool renaming false_eq_true->ZI,and_eq_true->Zc,not_eq_true'->YB,rec->W9,or_eq_false_iff->Xh,or_eq_true->ZU
open Cell renaming okWide->XT,ok->XU
open Code renaming region->Vd,wp_mono->Yz
open DataW renaming trod->Xi,TrodAll->XV
open Int renaming toNat_natCast->ZA
open IntKind renaming i64->Za
open IntWalk renaming i64_in->YZ
open List renaming mem_cons->Zk,any_cons->Xg,range->Zl,flatMap_cons->YF,filter_filter->Wr,filter_congr->Xv,mem_range->Z7,range_add->Wg,range_succ->Ws,filter_append->XP,filter_eq_nil_iff->XQ,mem_map->ZO,flatMap_append->XR,append_nil->Yb,any_eq_true->YN,getElem?_eq_getElem->Zr,filter_eq_self->Wt,length_append->Zh,length_cons->Zp,length_nil->Zt,getD_eq_getElem?_getD->Zn,getElem?_append_left->Yd,getElem?_append_right->ZX,getElem?_eq_none->ZV,getElem?_eq_some_iff->ZF,eq_nil_of_length_eq_zero->YS,mem_append->Zg,getElem?_drop->Zy,drop_drop->Ye,take_append_drop->ZR,length_drop->Zz,foldl_cons->Wi,getElem?_range->Y7,length_range->Xm,nil_append->ZJ,map_cons->ZT,replicate->ZM,getD->Zv,range'->YU
open List.cons renaming injEq->Yg
open Nat renaming eq_of_beq_eq_true->Z5,beq->ZK,lt_or_ge->ZY,add_zero->Zi,le_refl->Zf,sub_self->Y4,zero_add->Zx,blt->Wu,blt_eq->Ve,ne_of_beq_eq_false->Wv,add_mul->Zs,zero_le->Ze,succ_mul->Wj,mul_le_mul_right->Z4
open NatCast renaming natCast->VA
open Option renaming isSome_some->W8,bind_some->YC,getD_some->Z0,map_eq_some_iff->ZB,map_some->Yf,bind_eq_some_iff->XS
open Option.some renaming injEq->Ya
open Prod.mk renaming injEq->XH
open Region renaming binds->Va,ready->Vb
open Value renaming okWide->YO
open World renaming cell?->YJ
open _root_.Array renaming getElem?_toList->Z1,getD_eq_getD_getElem?->Yt,getElem?_eq_getElem->Xf,getElem?_eq_some_iff->ZE,replicate->YX,getElem?_append_left->Wn
namespace Go.V
section
variable {P: Program} {T: y9} {n: Nat} {g: Gm}
def OO (hT:bF P T){d:Option Tmp}{op:BinOp}{t:TypeId}{x y:Operand}{ls:List Loc}{out:Out}(h:(ON T ah n d op t x y).Runs g ls out):(Lq P n d op t x y).Runs g ls out:=by
 unfold ON at h;unfold Lq;refine eg ?_ h;intro a ls h;refine eg ?_ h;intro b ls h;cases a with
 | v a=>
   cases b with
   | v b=>
     cases a with
     | int k a=>
       cases b with
       | int k' b=>
         by_cases hk:k=k'
         ·subst hk;cases op<;>first|exact h|(simp only[MV,JQ,Qd,JP,Bh,MN,beq_self_eq_true,if_true,ZI,if_false]at h ⊢;exact h)|(simp only[MV,JQ,Qd,JP,Bh,MN,beq_self_eq_true,if_true,ZI,if_false]at h ⊢;exact⟨trivial,h⟩)|(simp[MV,JQ,Qd,JP,Rd.Runs]at h)
         ·cases op<;>first|exact h|(simp[MV,hk,Rd.Runs]at h)
       |_=>exact h.elim
     | bool a=>
       cases b with
       | bool b=>
         rcases hT.bo t with e|⟨q,e,hb⟩
         ·simp[e,Rd.Runs]at h
         ·cases op<;>first|(simp only[e,hb,W8,aa2,Bool.true_and,Bool.and_true,if_true]at h ⊢;exact h)|(simp[aa2,Rd.Runs]at h)
       |_=>exact h.elim
     |_=>exact h.elim
   |_=>cases a<;>exact h.elim
 |_=>exact h.elim
def Ri {d:Option Tmp}{op:UnOp}{x:Operand}{ls:List Loc}{out:Out}(h:(acw ah n d op x).Runs g ls out):(vUn n d op x).Runs g ls out:=by
 unfold acw at h;unfold vUn;refine eg ?_ h;intro a ls h;cases a with
 |v a=>cases op<;>cases a<;>exact h
 |_=>cases op<;>exact h
def M7 {α:Type}{a:A}{k:Nat->Rd α}{ls:List Loc}{x:α}(h:(SV ah a k).Runs g ls x):(Qj a k).Runs g ls x:=by
 cases a with
 | vn r j ver iv p lo m=>
   refine du ?_ h;intro hv ls h
   revert h
   generalize hv.c=c;intro h;cases c with
   | own l=>
     refine cO (fun ls h=>?_) h;obtain⟨hs,h⟩:=h;obtain⟨⟨sz,es⟩,e⟩:=Option.isSome_iff_exists.1 hs;obtain⟨rec,o,f1,f2⟩:=rW e;simp only[f1,f2];exact h
   |ro l=>exact h
   |gone=>exact h
 | vw r j ver lo m=>
   refine du ?_ h;intro hv ls h
   revert h
   generalize hv.c=c;intro h;cases c with
   |own l=>cases l<;>exact h
   |ro l=>exact h
   |gone=>exact h
 |_=>exact h
def vh {α:Type}{ti:TI}{a:A}{k' k:ab->List (Nat×Nat)->Rd α}{ls:List Loc}{x:α}(hk:∀ es src ls,(k' es src).Runs g ls x->(k es src).Runs g ls x)(h:(wF ah ti a k').Runs g ls x):(rQ ti a k).Runs g ls x:=by
 cases a with
 |nl=>exact hk _ _ _ h
 |ro sz es=>exact cO (fun ls h=>mP id (fun ls h=>hk _ _ _ h) h) h
 | vw r j ver lo m=>
   refine du ?_ h;intro hv ls h
   revert h
   generalize hv.c=c;intro h;cases c with
   | own l=>cases l with
     | s sz es=>
       refine cO (fun ls h=>?_) h;by_cases hs:nj ti.slots=true
       ·rw[VE hs]at h ⊢;exact mP id (fun ls h=>hk _ _ _ h) h
       ·rw[VF hs]at h ⊢;exact mP id (fun ls h=>hk _ _ _ h) h
     |v x=>exact h
     |g=>exact h
     |m _ _=>exact h
   |ro l=>exact h
   |gone=>exact h
 | vn r j ver iv p lo m=>
   refine du ?_ h;intro hv ls h
   revert h
   generalize hv.c=c;intro h;cases c with
   | own l=>
     refine cO (fun ls h=>?_) h;obtain⟨⟨h1,h2⟩,h⟩:=h;obtain⟨rec,o,f1,f2⟩:=rW h1;simp only[f1,f2,beq_self_eq_true,if_true];exact⟨h2,hk _ _ _ h⟩
   |ro l=>exact h
   |gone=>exact h
 |_=>exact h
def Ho (hT:bF P T){d:Option Tmp}{t t':TypeId}{s x:Operand}{ls:List Loc}{out:Out}(h:(B5 T ah n d t t' s x).Runs g ls out):(nJ P n d t t' s x).Runs g ls out:=by
 revert h
 unfold B5 nJ;rcases hT.el t with e|⟨q,e,e2⟩
 ·simp only[e];exact fun h=>h.elim
 simp only[e,e2];intro h
 ·
   obtain⟨e,ti,b⟩:=q;refine cO (fun ls h=>?_) h;refine eg ?_ h;intro a ls h;refine eg ?_ h;intro b ls h;rw[D5]at h;refine BV ?_ h;intro l og src ls h;cases l with
   | s sz es=>
     refine cO (fun ls h=>?_) h;refine vh ?_ h;intro es2 src2 ls h;exact h
   |v y=>exact h
   |g=>exact h
   |m _ _=>exact h
def F9 (g:Gm){α τ:Type}(m:∀ {β:Type},(τ->Rd β)->Rd β)(k':τ->Rd α)(ls:List Loc)(x:α):Prop:=
 ∃ t ls',(k' t).Runs g ls' x/\∀ {β:Type} (k:τ->Rd β) (y:β),(k t).Runs g ls' y->(m k).Runs g ls y
def N9 {α:Type}{l:Loc}{k':Val->Rd α}{ls:List Loc}{x:α}(h:(rd l k').Runs g ls x):F9 g (fun k=>rd l k) k' ls x:=by
 unfold rd at h;obtain⟨ls',e,h⟩:=h;cases hg:g l with
 |none=>simp[hg,Rd.Runs]at h
 | some v=>
   simp only[hg]at h;refine⟨v,ls',h,?_⟩;intro β k y hy;refine⟨ls',e,?_⟩;simp only[hg];exact hy
def QK {α:Type}{d:Nat}{k':R->Rd α}{ls:List Loc}{x:α}(h:(G3 d k').Runs g ls x):F9 g (fun k=>G3 d k) k' ls x:=by
 obtain⟨v,ls',h1,h2⟩:=N9 h;cases v with
 |r y=>exact⟨y,ls',h1,fun k z hz=>h2 _ z hz⟩
 |_=>exact h1.elim
def zz {α:Type}{r j:Nat}{k':Hv->Rd α}{ls:List Loc}{x:α}(h:(ig r j k').Runs g ls x):F9 g (fun k=>ig r j k) k' ls x:=by
 obtain⟨v,ls',h1,h2⟩:=N9 h;cases v with
 |h y=>exact⟨y,ls',h1,fun k z hz=>h2 _ z hz⟩
 |_=>exact h1.elim
def Ib {α:Type}{o:Operand}{k':R->Rd α}{ls:List Loc}{x:α}(h:(ev o k').Runs g ls x):F9 g (fun k=>ev o k) k' ls x:=by
 cases o with
 |tmp t=>exact QK h
 |const c=>exact⟨_,ls,h,fun k y hy=>hy⟩
 |_=>exact h.elim
def LY {α:Type}{slot:Option Nat}{a:A}{k':L->Rd α}{ls:List Loc}{x:α}(h:(Jv ah slot a k').Runs g ls x):F9 g (fun k=>H5 slot a k) k' ls x:=by
 cases slot with
 | none=>
   cases a with
   | v y=>
     simp only[Jv]at h;split at h
     ·rename_i hs;exact⟨_,ls,h,fun k z hz=>by simp only[H5,hs,if_true];exact hz⟩
     ·exact h.elim
   |_=>exact h.elim
 | some sz=>
   cases a with
   |nl=>exact⟨_,ls,h,fun k y hy=>hy⟩
   | ro sz' es=>
     simp only[Jv]at h;split at h
     ·rename_i hs;exact⟨_,ls,h,fun k z hz=>by simp only[H5,hs,if_true];exact hz⟩
     ·exact h.elim
   | vw r j ver lo m=>
     obtain⟨hv,ls',h1,h2⟩:=zz h;cases hc:hv.c with
     | own l=>cases l with
       | s sz' es=>
         simp only[hc]at h1;split at h1
         ·rename_i hs;exact⟨_,ls',h1,fun k z hz=>h2 _ z (by simp only[hc,hs,if_true];exact hz)⟩
         ·exact h1.elim
       |v x=>simp[hc,Rd.Runs]at h1
       |g=>simp[hc,Rd.Runs]at h1
       |m _ _=>simp[hc,Rd.Runs]at h1
     |ro l=>simp[hc,Rd.Runs]at h1
     |gone=>simp[hc,Rd.Runs]at h1
   | vn r j ver iv p lo m=>
     obtain⟨hv,ls',h1,h2⟩:=zz h;cases hc:hv.c with
     | own l=>
       simp only[hc]at h1;split at h1
       ·rename_i hg;obtain⟨e1,h1⟩:=h1;obtain⟨rec,o,f1,f2⟩:=rW e1;refine⟨_,ls',h1,fun k z hz=>h2 _ z ?_⟩;simp only[hc,hg,if_true,f1,f2,beq_self_eq_true];exact hz
       ·exact h1.elim
     |ro l=>simp[hc,Rd.Runs]at h1
     |gone=>simp[hc,Rd.Runs]at h1
   |_=>exact h.elim
def oS {α:Type}:∀ {sl:List (Option Nat)} {as:List A} {k':ax->Rd α} {ls:List Loc} {x:α},(lL ah sl as k').Runs g ls x->F9 g (fun k=>f9 sl as k) k' ls x
 |[],[],_,ls,_,h=>⟨_,ls,h,fun _ _ hy=>hy⟩
 |[],_::_,_,_,_,h=>h.elim
 |_::_,[],_,_,_,h=>h.elim
 | _::_,_::_,_,_,_,h=>by
   obtain⟨l,ls1,h1,h2⟩:=LY h;obtain⟨l2,ls2,h3,h4⟩:=oS h1;exact⟨l::l2,ls2,h3,fun k y hy=>h2 _ y (h4 _ y hy)⟩
def lA {α:Type}{r:Nat}:∀ {m j:Nat} {k':ax->Rd α} {ls:List Loc} {x:α},(gz r j m k').Runs g ls x->F9 g (fun k=>gz r j m k) k' ls x
 |0,_,_,ls,_,h=>⟨_,ls,h,fun _ _ hy=>hy⟩
 | m+1,j,_,_,_,h=>by
   obtain⟨hv,ls1,h1,h2⟩:=zz h;cases hc:hv.c with
   | own l=>
     simp only[hc]at h1;obtain⟨rec,ls2,h3,h4⟩:=lA h1;exact⟨l::rec,ls2,h3,fun k y hy=>h2 _ y (by simp only[hc];exact h4 _ y hy)⟩
   | ro l=>
     simp only[hc]at h1;obtain⟨rec,ls2,h3,h4⟩:=lA h1;exact⟨l::rec,ls2,h3,fun k y hy=>h2 _ y (by simp only[hc];exact h4 _ y hy)⟩
   |gone=>simp[hc,Rd.Runs]at h1
def P4 {α:Type}{l:Loc}{k':Option Val->Rd α}{ls:List Loc}{x:α}(h:(Rd.get l k').Runs g ls x):F9 g (fun k=>Rd.get l k) k' ls x:=by
 obtain⟨ls',e,h⟩:=h;exact⟨g l,ls',h,fun k y hy=>⟨ls',e,hy⟩⟩
def nu {α:Type}:∀ {cs:List HQ} {k':ab->Rd α} {ls:List Loc} {x:α},(gJ cs k').Runs g ls x->F9 g (fun k=>gJ cs k) k' ls x
 |[],_,ls,_,h=>⟨_,ls,h,fun _ _ hy=>hy⟩
 | .pt r j::cs,_,_,_,h=>by
   obtain⟨v,ls1,h1,h2⟩:=P4 h;dsimp only at h1;split at h1
   ·rename_i n;split at h1
    ·rename_i hj;obtain⟨rec,ls2,h3,h4⟩:=lA h1;obtain⟨recs,ls3,h5,h6⟩:=nu h3;exact⟨rec::recs,ls3,h5,fun k y hy=>h2 _ y (by simp only[hj,if_true];exact h4 _ y (h6 _ y hy))⟩
    ·exact h1.elim
   ·exact h1.elim
 | .rp rec j::cs,_,_,_,h=>by
   simp only[gJ]at h;split at h
   ·rename_i hj;obtain⟨recs,ls3,h5,h6⟩:=nu h;exact⟨_,ls3,h5,fun k y hy=>by simp only[gJ,hj,if_true];exact h6 _ y hy⟩
   ·exact h.elim
def ER {α:Type}{o:Operand}{k':A->Rd α}{ls:List Loc}{x:α}(h:(gT o k').Runs g ls x):F9 g (fun k=>gT o k) k' ls x:=by
 obtain⟨v,ls1,h1,h2⟩:=Ib h;cases v with
 |one a=>exact⟨a,ls1,h1,fun k y hy=>h2 _ y hy⟩
 |agg as=>exact h1.elim
 |tup rs=>exact h1.elim
def L0 (hT:bF P T){α:Type}{t:TypeId}{o:Operand}{k':DV->Rd α}{ls:List Loc}{x:α}(h:(LZ (lk T.ptL t) o k').Runs g ls x):F9 g (fun k=>LZ (Kq P t) o k) k' ls x:=by
 obtain⟨v,ls1,h1,h2⟩:=ER h;cases v with
 | pt r j=>
   rcases hT.pt t with e|⟨ti,e,e2⟩
   ·simp[e,Rd.Runs]at h1
   ·simp only[e]at h1;split at h1
    ·rename_i hp;obtain⟨rec,ls2,h3,h4⟩:=lA h1;exact⟨_,ls2,h3,fun k y hy=>h2 _ y (by simp only[e2,hp,if_true];exact h4 _ y hy)⟩
    ·exact h1.elim
 | rp rec j=>
   rcases hT.pt t with e|⟨ti,e,e2⟩
   ·simp[e,Rd.Runs]at h1
   ·simp only[e]at h1;split at h1
    ·rename_i hp;exact⟨_,ls1,h1,fun k y hy=>h2 _ y (by simp only[e2];rw[VE hp];exact hy)⟩
    ·exact h1.elim
 | fn f caps=>
   obtain⟨recs,ls2,h3,h4⟩:=nu h1;exact⟨_,ls2,h3,fun k y hy=>h2 _ y (h4 _ y hy)⟩
 |_=>exact h1.elim
def LX (hT:bF P T){α:Type}{t:TypeId}{o:Operand}{k':DV->Rd α}{ls:List Loc}{x:α}(h:(LW T ah t o k').Runs g ls x):F9 g (fun k=>H3 P t o k) k' ls x:=by
 unfold LW at h;rcases hT.ty t with e|⟨ti,e,hti⟩
 ·simp only[e]at h;split at h
  ·rename_i hp;rcases hT.pn t with f|⟨_,_,f⟩
   ·simp[f]at hp
   ·obtain⟨d,ls1,h1,h2⟩:=L0 hT h;exact⟨d,ls1,h1,fun k y hy=>by unfold H3;simp only[f];exact h2 _ y hy⟩
  ·exact h.elim
 ·simp only[e]at h;obtain⟨v,ls1,h1,h2⟩:=Ib h;cases v with
  | one a=>
    simp only at h1;split at h1
    ·exact h1.elim
    ·rename_i hb;obtain⟨l,ls2,h3,h4⟩:=oS h1;simp only at h3;split at h3
     ·refine⟨_,ls2,h3,fun k y hy=>?_⟩;unfold H3;simp only[hti];refine h2 _ y ?_;simp only;rw[VF hb];exact h4 _ y hy
     ·exact h3.elim
  | agg as=>
    simp only at h1;split at h1
    ·rename_i hb;obtain⟨l,ls2,h3,h4⟩:=oS h1;refine⟨_,ls2,h3,fun k y hy=>?_⟩;unfold H3;simp only[hti];refine h2 _ y ?_;simp only;rw[VE hb];exact h4 _ y hy
    ·exact h1.elim
  |tup rs=>exact h1.elim
def vB (hT:bF P T){α:Type}:∀ {ts:List TypeId} {xs:List Operand} {k':List DV->Rd α} {ls:List Loc} {x:α},(Es T ah ts xs k').Runs g ls x->F9 g (fun k=>tH P ts xs k) k' ls x
 |[],[],_,ls,_,h=>⟨_,ls,h,fun _ _ hy=>hy⟩
 |[],_::_,_,_,_,h=>h.elim
 |_::_,[],_,_,_,h=>h.elim
 | _::_,_::_,_,_,_,h=>by
   obtain⟨l,ls1,h1,h2⟩:=LX hT h;obtain⟨l2,ls2,h3,h4⟩:=vB hT h1;exact⟨l::l2,ls2,h3,fun k y hy=>h2 _ y (h4 _ y hy)⟩
def KY {α:Type}{d:Option Tmp}{k':Nat->Rd α}{ls:List Loc}{x:α}(h:(fresh n d k').Runs g ls x):F9 g (fun k=>fresh n d k) k' ls x:=by
 cases d with
 |none=>exact h.elim
 | some d=>
   simp only[fresh]at h;split at h
   ·rename_i hlt;obtain⟨ls',e,h⟩:=h;cases hg:g (.meta_ d)with
    | none=>
      simp only[hg]at h;refine⟨d,ls',h,fun k y hy=>?_⟩;simp only[fresh,hlt,if_true,Rd.Runs];exact⟨ls',e,by simp only[hg];exact hy⟩
    |some v=>simp[hg,Rd.Runs]at h
   ·exact h.elim
def Ch (P:Program)(ct:CT):Prop:=∀ f ds pre res,ct f ds=some (pre,res)->pre ()->LI P f ds res
def Gc (P:Program)(mt:MT):Prop:=∀ f mk,mt f=some mk->∀ ds pre outs res,mk ds=some (pre,outs,res)->pre ()->Ga P f ds outs res
def Gf (P:Program)(pt:FuncId->Option PK):Prop:=∀ f mk,pt f=some mk->∀ ds pre outs res,mk ds=some (pre,outs,res)->pre ()->Eo P f ds outs res
def Gd (P:Program)(nt:FuncId->Option NK):Prop:=∀ f mk,nt f=some mk->∀ ds pre hs,mk ds=some (pre,hs)->pre ()->acG P f ds hs
def Ge (P:Program)(ot:FuncId->Option OK'):Prop:=∀ f mk,ot f=some mk->∀ ds pre res,mk ds=some (pre,res)->pre ()->KT P f ds res
def zE (P:Program)(ct:Jk):Prop:=Ch P ct.rd/\Gc P ct.mu/\Gf P ct.pt/\Gd P ct.nw/\Ge P ct.tk
def aaf (P:Program)(n:Nat)(o:Oper)(rd:Rd Out):Prop:=
 ∀ (cx:Cx) (G:Gh) (g:Gm) (a:Act) (w:World) (ls:List Loc) (ws:List W),cx.n=n->aO cx G g a w->rd.Runs g ls (.ws ws)->
  ∀ (K:Act->World->Prop) (Q:Exit->Act->World->Prop),(∀ a' w',fC cx (aT g ws) a' w'->K a' w')->o.wp P a w K Q
def gf (P:Program)(n:Nat)(o:Oper)(g:Gm)(ls:List Loc)(ws:List W):Prop:=
 (kj o=none/\(vop P n o).Runs g ls (.ws ws))\/
 (∃ f ts args ds mk res,kj o=some (f,ts,args)/\(D7 P n o.dst f ts args).Runs g ls (.call f ds mk)/\LI P f ds res/\ws=mk res)\/
 (∃ f ts args mk,kj o=some (f,ts,args)/\(∀ ds pre outs res,mk ds=some (pre,outs,res)->pre ()->Ga P f ds outs res)/\(wJ pv vy vk (oO P) n o.dst (eh P f) ts args mk dT).Runs g ls (.ws ws))\/
 ∃ rd,aaf P n o rd/\rd.Runs g ls (.ws ws)
def Lb {α:Type}{slot:Option Nat}{a:A}{k' k:L->List Pl->Rd α}{x:α}{ls:List Loc}(hk:∀ l p ls,(k' l p).Runs g ls x->(k l p).Runs g ls x)(h:(NR pv vy slot a k').Runs g ls x):(NR pv vy slot a k).Runs g ls x:=by
 cases slot with
 | none=>
   cases a with
   |v y=>exact cO (fun ls h=>hk _ _ _ h) h
   |_=>exact h
 | some sz=>
   cases a with
   | vw r j ver lo m=>
     refine du ?_ h;intro hv ls h
     revert h
     generalize hv.c=c;intro h;cases c with
     | own l=>cases l with
       |s sz' es=>exact cO (fun ls h=>mP id (fun ls h=>hk _ _ _ h) h) h
       |v x=>exact h
       |g=>exact h
       |m _ _=>exact h
     |ro l=>exact h
     |gone=>exact h
   | vn r j ver iv p lo m=>
     refine du ?_ h;intro hv ls h
     revert h
     generalize hv.c=c;intro h;cases c with
     | own l=>cases l with
       |s sz' es=>exact cO (fun ls h=>mP id (fun ls h=>hk _ _ _ h) h) h
       |v x=>exact h
       |g=>exact h
       |m _ _=>exact h
     |ro l=>exact h
     |gone=>exact h
   |_=>exact h
def rG {α:Type}:∀ {sl:List (Option Nat)} {as:List A} {k' k:ax->List Pl->Rd α} {x:α} {ls:List Loc},(∀ l p ls,(k' l p).Runs g ls x->(k l p).Runs g ls x)->(wt pv vy sl as k').Runs g ls x->(wt pv vy sl as k).Runs g ls x
 |[],[],k',k,x,ls,hk,h=>hk _ _ _ h
 |[],_::_,k',k,x,ls,hk,h=>h
 |_::_,[],k',k,x,ls,hk,h=>h
 |s::sl,a::as,k',k,x,ls,hk,h=>Lb (fun l p ls h=>rG (fun _ _ ls h=>hk _ _ ls h) h) h
def Ld {ty ty':TypeId->Option TI}(ht:∀ t x,ty t=some x->ty' t=some x){α:Type}{t:TypeId}{o:Operand}{k' k:DV->List Pl->Rd α}{x:α}{ls:List Loc}(hk:∀ d p ls,(k' d p).Runs g ls x->(k d p).Runs g ls x) 
 (h:(Lc pv vy ty t o k').Runs g ls x):(Lc pv vy ty' t o k).Runs g ls x:=by
 unfold Lc at h ⊢;cases hti:ty t with
 |none=>simp[hti,Rd.Runs]at h
 | some ti=>
   simp only[hti]at h;simp only[ht t ti hti];refine ze ?_ h;intro v ls h;cases v with
   | one a=>
     simp only at h ⊢;split at h
     ·exact h.elim
     ·rename_i hb;rw[VF hb];refine rG ?_ h;intro l p ls h;split at h
      ·exact hk _ _ _ h
      ·exact h.elim
   | agg as=>
     simp only at h ⊢;split at h
     ·rename_i hb;rw[VE hb];exact rG (fun l p ls h=>hk _ _ _ h) h
     ·exact h.elim
   |tup rs=>exact h
def By {ty ty':TypeId->Option TI}(ht:∀ t x,ty t=some x->ty' t=some x){α:Type}:∀ {ts:List TypeId} {xs:List Operand} {k' k:List DV->List Pl->Rd α} {x:α} {ls:List Loc},(∀ d p ls,(k' d p).Runs g ls x->(k d p).Runs g ls x)->
 (DU pv vy ty ts xs k').Runs g ls x->(DU pv vy ty' ts xs k).Runs g ls x
 |[],[],k',k,x,ls,hk,h=>hk _ _ _ h
 |[],_::_,k',k,x,ls,hk,h=>h
 |_::_,[],k',k,x,ls,hk,h=>h
 |t::ts,o::xs,k',k,x,ls,hk,h=>Ld ht (fun d p ls h=>By ht (fun _ _ ls h=>hk _ _ ls h) h) h
def Hq (hT:bF P T){o:Oper}{f:FuncId}{ts:Array TypeId}{args:Array Operand}{mk:MK}{ls:List Loc}{ws:List W}(hc:kj o=some (f,ts,args))(hmk:∀ ds pre outs res,mk ds=some (pre,outs,res)->pre ()->Ga P f ds outs res) 
 (h:(wJ ah.pr ah.ps ah.up (lk T.tyL) n o.dst (lk T.fnL f).isSome ts args mk (gD ah)).Runs g ls (.ws ws)):gf P n o g ls ws:=by
 refine .inr (.inr (.inl ⟨f,ts,args,mk,hc,hmk,?_⟩));rw[show ah.pr=pv from rfl,show ah.ps=vy from rfl,show ah.up=vk from rfl,show gD ah=dT from by funext d res;exact lG d res]at h;unfold wJ at h ⊢;split at h
 ·rename_i hb';have hb:eh P f=true:=by
   rcases hT.fn f with e|⟨_,_,e⟩
   ·rw[e]at hb';cases hb'
   ·exact e
  rw[VE hb];refine By ?_ (fun _ _ _ h=>h) h;intro t x e;rcases hT.ty t with q|⟨y,q1,q2⟩
  ·rw[q]at e;cases e
  ·rw[q1]at e;cases e;exact q2
 ·exact h.elim
def Jd (hT:bF P T){ct:Jk}(hct:zE P ct){o:Oper}{f:FuncId}{ts:Array TypeId}{args:Array Operand}{ls:List Loc}{ws:List W}(hc:kj o=some (f,ts,args)) 
 (h:(Jb T ah ct n o.dst f ts args).Runs g ls (.ws ws)):gf P n o g ls ws:=by
 unfold Jb at h;split at h
 ·rename_i hb';have hb:eh P f=true:=by
   rcases hT.fn f with e|⟨_,_,e⟩
   ·rw[e]at hb';cases hb'
   ·exact e
  obtain⟨ds,ls1,h1,h2⟩:=vB hT h;simp only at h1;split at h1
  ·rename_i pre res he;obtain⟨hp,h1⟩:=h1;obtain⟨d,ls2,h3,h4⟩:=KY h1;simp only[Rd.Runs,Out.ws.injEq]at h3;obtain⟨rfl,rfl⟩:=h3;refine .inr (.inl ⟨f,ts,args,ds,dT d,res,hc,?_,hct.1 _ _ _ _ he hp,by rw[lG]⟩);unfold D7;rw[VE hb];refine h2 _ _ (h4 _ _ ?_);simp[Rd.Runs]
  ·exact h1.elim
 ·exact h.elim
def tj {α:Type}{r:Nat}:∀ {m j:Nat} {k':List H->Rd α} {ls:List Loc} {x:α},(oD r j m k').Runs g ls x->F9 g (fun k=>oD r j m k) k' ls x
 |0,_,_,ls,_,h=>⟨_,ls,h,fun _ _ hy=>hy⟩
 | m+1,j,_,_,_,h=>by
   obtain⟨hv,ls1,h1,h2⟩:=zz h;cases hc:hv.c with
   | own l=>
     simp only[hc]at h1;obtain⟨rec,ls2,h3,h4⟩:=tj h1;exact⟨.own l::rec,ls2,h3,fun k y hy=>h2 _ y (by simp only[hc];exact h4 _ y hy)⟩
   | ro l=>
     simp only[hc]at h1;obtain⟨rec,ls2,h3,h4⟩:=tj h1;exact⟨.ro l::rec,ls2,h3,fun k y hy=>h2 _ y (by simp only[hc];exact h4 _ y hy)⟩
   |gone=>simp[hc,Rd.Runs]at h1
def NV (hT:bF P T){α:Type}{t:TypeId}{o:Operand}{k':DV×List (Nat×Nat)×List mX->Rd α}{ls:List Loc}{x:α} 
 (h:(Fj (fun {β}=>lL ah (α:=β)) (lk T.tyL) (lk T.ptL) (fun t=>(lk T.pnL t).isSome) t o fun d s p=>k' (d,s,p)).Runs g ls x):F9 g (fun k=>Fj f9 (oO P) (Kq P) (fun _=>true) t o fun d s p=>k (d,s,p)) k' ls x:=by
 unfold Fj at h;rcases hT.ty t with e|⟨ti,e,hti⟩
 ·simp only[e]at h;split at h
  case isFalse=>exact h.elim
  rename_i hp;rcases hT.pn t with f|⟨_,_,f⟩
  ·simp[f]at hp
  obtain⟨v,ls1,h1,h2⟩:=ER h;cases v with
  | pt r j=>
    rcases hT.pt t with e3|⟨ti,e3,e4⟩
    ·simp[e3,Rd.Runs]at h1
    ·simp only[e3]at h1;split at h1
     ·rename_i hpos;obtain⟨hs,ls2,h3,h4⟩:=tj h1;exact⟨(_,_,_),ls2,h3,fun k y hy=>by unfold Fj;simp only[f,if_true];exact h2 _ y (by simp only[e4,hpos,if_true];exact h4 _ y hy)⟩
     ·exact h1.elim
  |_=>exact h1.elim
 ·simp only[e]at h;obtain⟨v,ls1,h1,h2⟩:=Ib h;cases v with
  | one a=>
    simp only at h1;split at h1
    ·exact h1.elim
    ·rename_i hb;obtain⟨l,ls2,h3,h4⟩:=oS h1;simp only at h3;split at h3
     ·refine⟨(_,_,_),ls2,h3,fun k y hy=>?_⟩;unfold Fj;simp only[hti];refine h2 _ y ?_;simp only;rw[VF hb];exact h4 _ y hy
     ·exact h3.elim
  | agg as=>
    simp only at h1;split at h1
    ·rename_i hb;obtain⟨l,ls2,h3,h4⟩:=oS h1;refine⟨(_,_,_),ls2,h3,fun k y hy=>?_⟩;unfold Fj;simp only[hti];refine h2 _ y ?_;simp only;rw[VE hb];exact h4 _ y hy
    ·exact h1.elim
  |tup rs=>exact h1.elim
def wv (hT:bF P T){α:Type}:∀ {ts:List TypeId} {xs:List Operand} {k':List DV×List (Nat×Nat)×List mX->Rd α} {ls:List Loc} {x:α},
 (uW (fun {β}=>lL ah (α:=β)) (lk T.tyL) (lk T.ptL) (fun t=>(lk T.pnL t).isSome) ts xs fun d s p=>k' (d,s,p)).Runs g ls x->F9 g (fun k=>uW f9 (oO P) (Kq P) (fun _=>true) ts xs fun d s p=>k (d,s,p)) k' ls x
 |[],[],_,ls,_,h=>⟨(_,_,_),ls,h,fun _ _ hy=>hy⟩
 |[],_::_,_,_,_,h=>h.elim
 |_::_,[],_,_,_,h=>h.elim
 | t::ts,o::xs,k',_,_,h=>by
   obtain⟨⟨d,s,p⟩,ls1,h1,h2⟩:=NV hT (k':=fun q=>uW (fun {β}=>lL ah (α:=β)) (lk T.tyL) (lk T.ptL) (fun t=>(lk T.pnL t).isSome) ts xs fun ds srcs pts=>k' (q.1::ds,q.2.1++srcs,q.2.2++pts)) h;obtain⟨⟨ds,ss,ps⟩,ls2,h3,h4⟩:=wv hT (k':=fun q=>k' (d::q.1,s++q.2.1,p++q.2.2)) h1;exact⟨(_,_,_),ls2,h3,fun k y hy=>h2 (fun q=>uW f9 (oO P) (Kq P) (fun _=>true) ts xs fun ds srcs pts=>k (q.1::ds,q.2.1++srcs,q.2.2++pts)) y (h4 (fun q=>k (d::q.1,s++q.2.1,p++q.2.2)) y hy)⟩
def Hr (hT:bF P T){o:Oper}{f:FuncId}{ts:Array TypeId}{args:Array Operand}{mk:PK}{ls:List Loc}{ws:List W}(hc:kj o=some (f,ts,args))(hmk:∀ ds pre outs res,mk ds=some (pre,outs,res)->pre ()->Eo P f ds outs res) 
 (h:(wK ah.pr (fun {β}=>lL ah (α:=β)) (lk T.tyL) (lk T.ptL) (fun t=>(lk T.pnL t).isSome) n o.dst (lk T.fnL f).isSome ts args mk (gD ah)).Runs g ls (.ws ws)):gf P n o g ls ws:=by
 refine .inr (.inr (.inr ⟨wK pv f9 (oO P) (Kq P) (fun _=>true) n o.dst (eh P f) ts args mk dT,?_,?_⟩))
 ·intro cx G g a w ls ws hn hS h K Q hk;subst hn;exact FM (q8 hc) hS hmk h hk
 ·rw[show ah.pr=pv from rfl,show gD ah=dT from by funext d res;exact lG d res]at h;unfold wK at h ⊢;split at h
  ·rename_i hb';have hb:eh P f=true:=by
    rcases hT.fn f with e|⟨_,_,e⟩
    ·rw[e]at hb';cases hb'
    ·exact e
   rw[VE hb];obtain⟨⟨ds,ss,ps⟩,ls1,h1,h2⟩:=wv hT (k':=fun q=>match mk q.1 with
    | some (pre,outs,res)=>if qL q.2.2&&q.2.1.all (fun s=>q.2.2.all fun p=> !GH s p)then .req (pv pre) (Lp q.2.2 outs fun ws=>match o.dst with
       |some _=>fresh n o.dst fun d=>.ret (Out.ws (ws++dT d res))
       |none=>.ret (Out.ws ws))else .fail
    |none=>.fail) h
   exact h2 (fun q=>match mk q.1 with
    | some (pre,outs,res)=>if qL q.2.2&&q.2.1.all (fun s=>q.2.2.all fun p=> !GH s p)then .req (pv pre) (Lp q.2.2 outs fun ws=>match o.dst with
       |some _=>fresh n o.dst fun d=>.ret (Out.ws (ws++dT d res))
       |none=>.ret (Out.ws ws))else .fail
    |none=>.fail) _ h1
  ·exact h.elim
def Ja (hT:bF P T){ct:Jk}{d:Option Tmp}{t:Tmp}{ts:Array TypeId}{args:Array Operand}{ls:List Loc}{out:Out} 
 (h:(FJ T ah ct n d t ts args).Runs g ls out):(FI P ct.rd n d t ts args).Runs g ls out:=by
 unfold FJ at h;obtain⟨v,ls1,h1,h2⟩:=ER h;cases v with
 | fn f caps=>
   obtain⟨ds,ls2,h3,h4⟩:=vB hT h1;obtain⟨recs,ls3,h5,h6⟩:=nu h3;unfold FI;refine h2 _ _ (h4 _ _ (h6 _ _ ?_));cases hm:ct.rd f (ds++recs.map .ptr)with
   |none=>simp[hm,Rd.Runs]at h5
   | some pr=>
     obtain⟨pre,res⟩:=pr;simp only[hm]at h5 ⊢;obtain⟨hp,hb,h5⟩:=h5;refine⟨⟨hp,?_⟩,?_⟩
     ·rcases hT.fn f with e|⟨_,_,e⟩
      ·have hb:(lk T.fnL f).isSome=true:=hb;rw[e]at hb;cases hb
      ·exact e
     ·rw[show gD ah=dT from by funext d res;exact lG d res]at h5;exact h5
 |_=>exact h1.elim
def Hp (hT:bF P T){d:Option Tmp}{t:Tmp}{ts:Array TypeId}{args:Array Operand}{pt:FuncId->Option PK}{ls:List Loc}{out:Out} 
 (h:(sB pv (fun {β}=>lL ah (α:=β)) (lk T.tyL) (lk T.ptL) (fun t=>(lk T.pnL t).isSome) n d (fun f=>(lk T.fnL f).isSome) t ts args pt (gD ah)).Runs g ls out):
 (sB pv f9 (oO P) (Kq P) (fun _=>true) n d (eh P) t ts args pt dT).Runs g ls out:=by
 unfold sB at h ⊢;refine eg ?_ h;intro v ls h;cases v with
 | fn f caps=>
   simp only at h ⊢;cases hm:pt f with
   |none=>simp[hm,Rd.Runs]at h
   | some mk=>
     simp only[hm]at h ⊢;rcases hT.fn f with e|⟨_,e1,e2⟩
     ·simp[e,Rd.Runs]at h
     rw[VE e2];rw[VE (by rw[e1];rfl)]at h;rw[show gD ah=dT from by funext d res;exact lG d res]at h;obtain⟨⟨ds,ss,ps⟩,ls1,h1,h2⟩:=wv hT (k':=fun q=>AW caps fun ds2 pts2=>Hk pv n d (q.1++ds2) q.2.1 (q.2.2++pts2) mk dT) h;exact h2 (fun q=>AW caps fun ds2 pts2=>Hk pv n d (q.1++ds2) q.2.1 (q.2.2++pts2) mk dT) _ h1
 |_=>exact h.elim
def Jc (P:Program)(ct:Jk)(n:Nat)(d:Option Tmp)(t:Tmp)(ts:Array TypeId)(args:Array Operand):Rd Out:=
 gT (.tmp t) fun
  | .fn f _=>match ct.pt f with
    |some _=>sB pv f9 (oO P) (Kq P) (fun _=>true) n d (eh P) t ts args ct.pt dT
    |none=>FI P ct.rd n d t ts args
  |_=>.fail
def Ht (hT:bF P T){ct:Jk}(hct:zE P ct){o:Oper}{t:Tmp}{ts:Array TypeId}{args:Array Operand}{ls:List Loc}{ws:List W}(ho:o.op=.call {callee:=.value (.tmp t),args:=args,argTypes:=ts}) 
 (h:(FO T ah ct n o.dst t ts args).Runs g ls (.ws ws)):gf P n o g ls ws:=by
 refine .inr (.inr (.inr ⟨Jc P ct n o.dst t ts args,?_,?_⟩))
 ·intro cx G g a w ls ws hn hS h K Q hk;subst hn;unfold Jc at h;obtain⟨x0,ls1,hx,h⟩:=bA hS h;cases x0 with
  | fn f caps=>
    simp only at h;split at h
    ·exact Db ho hS (fun f mk e=>hct.2.2.1 f mk e) h hk
    ·exact FK (fun f ds pre res e hp=>hct.1 f ds pre res e hp) ho hS h hk
  |_=>exact h.elim
 ·unfold FO at h;unfold Jc;refine eg ?_ h;intro v ls h;cases v with
  | fn f caps=>
    simp only at h ⊢;cases hm:ct.pt f with
    |some mk=>simp only[hm]at h ⊢;exact Hp hT h
    |none=>simp only[hm]at h ⊢;exact Ja hT h
  |_=>exact h.elim
def PR {α:Type}{x:Operand}{k':A->Rd α}{ls:List Loc}{o:α}(h:(gT x k').Runs g ls o):
 ∃ a ls1 ls',(k' a).Runs g ls' o/\∀ {β:Type} (k:A->Rd β) (ls'':List Loc) (o':β),(k a).Runs g ls'' o'->(gT x k).Runs g (ls1++ls'') o':=by
 unfold gT ev at h;cases x with
 | tmp t=>
   simp only[G3,rd,Rd.Runs]at h;obtain⟨ls',_,h⟩:=h;cases hg:g (.reg t)with
   |none=>simp only[hg]at h;exact h.elim
   | some v=>
     cases v with
     | r y=>
       cases y with
       | one a=>
         simp only[hg]at h;refine⟨a,[.reg t],ls',h,fun k ls'' o' hk=>?_⟩;simp only[gT,ev,G3,rd,Rd.Runs];refine⟨ls'',rfl,?_⟩;rw[hg];exact hk
       |agg _=>simp only[hg]at h;exact h.elim
       |tup _=>simp only[hg]at h;exact h.elim
     |h _=>simp only[hg]at h;exact h.elim
     |m _ _=>simp only[hg]at h;exact h.elim
 | const c=>
   simp only at h;cases hc:EL c with
   | one a=>
     rw[hc]at h;refine⟨a,[],ls,h,fun k ls'' o' hk=>?_⟩;unfold gT ev;simp only[hc];exact hk
   |agg _=>rw[hc]at h;exact h.elim
   |tup _=>rw[hc]at h;exact h.elim
 |_=>exact h.elim
def Dy {ln:Ln}{v:Option Val}{a b c:Nat}(h:dS ln v=some (a,b,c)):∃ hv es,v=some (.h hv)/\hv.c=.own (.s b es)/\a=hv.ver/\c=ln.f es:=by
 unfold dS at h
 repeat' split at h
 all_goals first|(cases h;done)|(rename_i hv _ sz es e;simp only[Ya,XH]at h;obtain⟨rfl,rfl,rfl⟩:=h;exact⟨_,es,rfl,e,rfl,rfl⟩)
def HA {d:Option Tmp}{t:TypeId}{x:Operand}{ls:List Loc}{out:Out}(h:(vp T ah n d t x).Runs g ls out):∃ ls2,(tD T ah n d t x).Runs g ls2 out:=by
 unfold vp at h;cases hp:abZ (lk T.tyL t)with
 |false=>simp only[hp]at h;exact⟨_,h⟩
 | true=>
   simp only[hp]at h;cases he:lk T.tyL t with
   |none=>rw[he]at hp;cases hp
   | some ti=>
     rw[he]at hp;simp only[abZ,Zc,YB]at hp;have hz:=Z5 hp.2;obtain⟨a,ls1,ls',h1,h2⟩:=PR h;cases a with
     | pt r j=>
       simp only at h1;obtain⟨ls3,_,h1⟩:=h1
       revert h1;generalize hh:dS _ (g (.leaf r j))=q;intro h1
       cases q with
       |none=>exact⟨_,h1⟩
       | some q=>
         obtain⟨v,s,m'⟩:=q;obtain⟨hv,es,e1,e2,e3,e4⟩:=Dy hh;simp only at h1;unfold tD;simp only[he];refine⟨_,h2 _ (.leaf r j::ls3) _ ?_⟩;simp only[hz,im,ig,rd,Rd.Runs];refine⟨ls3,rfl,?_⟩;rw[e1];simp only[Iu,Is,e2,Qr,hp.1];subst e3 e4;exact h1
     |_=>exact⟨_,h1⟩
def HB (hT:bF P T){o:Oper}{t:TypeId}{x:Operand}{ls:List Loc}{ws:List W}(ho:o.op=.load t x)(h:(vp T ah n o.dst t x).Runs g ls (.ws ws)):gf P n o g ls ws:=by
 refine .inr (.inr (.inr ⟨vp T ah n o.dst t x,?_,h⟩));intro cx G g a w ls ws hn hS h K Q hk;subst hn;obtain⟨ls2,h2⟩:=HA h;exact xC ho cx.n cx rfl G g a w _ ws hS (Lr hT h2) K Q hk
def wP (hT:bF P T){o:Oper}{t:TypeId}{x i:Operand}{ls:List Loc}{ws:List W}(ho:o.op=.indexAddr t x i)(h:(lD T ah n o.dst t x i).Runs g ls (.ws ws)):gf P n o g ls ws:=by
 refine .inr (.inr (.inr ⟨lD T ah n o.dst t x i,?_,h⟩));intro cx G g a w ls ws hn hS h K Q hk;subst hn;unfold lD at h;rcases hT.el t with e|⟨q,e,e2⟩
 ·simp only[e]at h;exact h.elim
 obtain⟨e0,ti,b⟩:=q;simp only[e]at h;obtain⟨x0,ls1,hx,h⟩:=bA hS h;cases x0 with
 | vw r j ver lo m=>
   simp only at h;obtain⟨ls3,_,h⟩:=h
   revert h;generalize hh:dS _ (g (.leaf r j))=q;intro h
   cases q with
   |none=>exact h.elim
   | some q=>
     obtain⟨v,s,m'⟩:=q;obtain⟨hv,es,e1,e3,e4,e5⟩:=Dy hh;simp only at h;split at h
     case isFalse=>exact h.elim
     rename_i hb;simp only[Zc,beq_iff_eq]at hb;obtain⟨hver,hsz⟩:=hb;obtain⟨kd,idx,ls4,hi,h⟩:=eR hS h;obtain⟨⟨h0,h1⟩,h⟩:=h;exact Cb ho hS e2 hx hi (av.2 e1) (by rw[e3,hsz]) (by rw[<-hver,e4]) h0 h1 h hk
 |_=>exact pk ho hS (Ca hT h) hk
def Da (hT:bF P T){o:Oper}{t t':TypeId}{s x:Operand}{ls:List Loc}{ws:List W}(ho:o.op=.call {callee:=.builtin .append,args:= #[s,x],argTypes:= #[t,t']})(h:(sy T ah n o.dst t t' s x).Runs g ls (.ws ws)):gf P n o g ls ws:=by
 refine .inr (.inr (.inr ⟨sy T ah n o.dst t t' s x,?_,h⟩));intro cx G g a w ls ws hn hS h K Q hk;subst hn;unfold sy at h;obtain⟨x0,ls1,_,h⟩:=bA hS h;cases x0 with
 | vn r j ver iv p lo m=>
   simp only at h;refine B4 (ls:=ls1) ho hS ?_ hk
   revert h
   unfold vl;rcases hT.el t with e|⟨q,e,e2⟩
   ·simp only[e];exact fun h=>h.elim
   simp only[e,e2];intro h;obtain⟨e0,ti,b⟩:=q;refine cO (fun ls h=>?_) h;refine eg ?_ h;intro a ls h;cases a with
   | vn r j ver iv p lo m=>
     refine du ?_ h;intro hv ls h
     revert h
     generalize hv.c=c;intro h;cases c with
     | own l=>cases l with
       | s sz es=>
         refine cO (fun ls h=>?_) h;refine eg ?_ h;intro b ls h;refine vh ?_ h;intro es2 src2 ls h;exact h
       |_=>exact h
     |_=>exact h
   |_=>exact h
 |_=>exact sW ho hS (Ho hT h) hk
def Dd (hT:bF P T){o:Oper}{t:TypeId}{r:Option Operand}{ls:List Loc}{ws:List W}(ho:o.op=.makeMap t r)(h:(pm (lk T.mpL) n o.dst t r).Runs g ls (.ws ws)):gf P n o g ls ws:=by
 refine .inr (.inr (.inr ⟨pm (Fb P) n o.dst t r,?_,?_⟩))
 ·intro cx G g a w ls ws hn hS h K Q hk;subst hn;exact Cc ho hS h hk
 ·unfold pm at h ⊢;rcases hT.mp t with e|⟨x,e,e2⟩
  ·cases r<;>simp[e,Rd.Runs]at h
  ·rw[e]at h;rw[e2];exact h
def HE (hT:bF P T){o:Oper}{t:TypeId}{x:Operand}{ls:List Loc}{ws:List W}(ho:o.op=.range t x)(h:(wQ (lk T.mpL) n o.dst t x).Runs g ls (.ws ws)):gf P n o g ls ws:=by
 refine .inr (.inr (.inr ⟨wQ (Fb P) n o.dst t x,?_,?_⟩))
 ·intro cx G g a w ls ws hn hS h K Q hk;subst hn;exact FU ho hS h hk
 ·unfold wQ at h ⊢;rcases hT.mp t with e|⟨y,e,e2⟩
  ·simp[e,Rd.Runs]at h
  ·rw[e]at h;rw[e2];exact h
def Hw {o:Oper}{x:Operand}{ls:List Loc}{ws:List W}(ho:o.op=.entry x)(h:(B8 n o.dst x).Runs g ls (.ws ws)):gf P n o g ls ws:=by
 refine .inr (.inr (.inr ⟨B8 n o.dst x,?_,h⟩));intro cx G g a w ls ws hn hS h K Q hk;subst hn;exact FP ho hS h hk
def Hy (hT:bF P T){o:Oper}{t:TypeId}{x:Operand}{f:Nat}{ls:List Loc}{ws:List W}(ho:o.op=.field t x f)(h:(wN (lk T.cmL) n o.dst t x f).Runs g ls (.ws ws)):gf P n o g ls ws:=by
 refine .inr (.inr (.inr ⟨wN (RY P) n o.dst t x f,?_,?_⟩))
 ·intro cx G g a w ls ws hn hS h K Q hk;subst hn;exact FQ ho hS h hk
 ·unfold wN at h ⊢;rcases hT.cm t with e|⟨y,e,e2⟩
  ·rw[e]at h;exact h.elim
  ·rw[e]at h;rw[e2];exact h
def FR (hT:bF P T){o:Oper}{t:TypeId}{x i:Operand}{k:Bool}{ls:List Loc}{ws:List W}(ho:o.op=.lookup t x i k)(h:(sC mgbI jM (lk T.mpL) n o.dst t x i k).Runs g ls (.ws ws)):gf P n o g ls ws:=by
 refine .inr (.inr (.inr ⟨sC mgbI jM (Fb P) n o.dst t x i k,?_,?_⟩))
 ·intro cx G g a w ls ws hn hS h K Q hk;subst hn;exact Dc ho hS h hk
 ·unfold sC at h ⊢;rcases hT.mp t with e|⟨y,e,e2⟩
  ·cases k<;>simp[e,Rd.Runs]at h
  ·rw[e]at h;rw[e2];exact h
def FT (hT:bF P T){o:Oper}{t:TypeId}{m k v:Operand}{ls:List Loc}{ws:List W}(ho:o.op=.mapUpdate t m k v)(hd:o.dst=none)(h:(sD pu (lk T.mpL) t m k v).Runs g ls (.ws ws)):gf P n o g ls ws:=by
 refine .inr (.inr (.inr ⟨sD pu (Fb P) t m k v,?_,?_⟩))
 ·intro cx G g a w ls ws hn hS h K Q hk;subst hn;exact De ho hd hS h hk
 ·unfold sD at h ⊢;rcases hT.mp t with e|⟨y,e,e2⟩
  ·simp[e,Rd.Runs]at h
  ·rw[e]at h;rw[e2];exact h
def Cd (hT:bF P T){o:Oper}{t:TypeId}{m k:Operand}{ls:List Loc}{ws:List W}(ho:o.op=.mapEntry t m k)(h:(lH mgbI jM pu (lk T.mpL) n o.dst t m k).Runs g ls (.ws ws)):gf P n o g ls ws:=by
 refine .inr (.inr (.inr ⟨lH mgbI jM pu (Fb P) n o.dst t m k,?_,?_⟩))
 ·intro cx G g a w ls ws hn hS h K Q hk;subst hn;exact y7 ho hS h hk
 ·unfold lH at h ⊢;rcases hT.mp t with e|⟨y,e,e2⟩
  ·simp[e,Rd.Runs]at h
  ·rw[e]at h;rw[e2];exact h
def wM (hT:bF P T){o:Oper}{t:TypeId}{m s x:Operand}{ls:List Loc}{ws:List W}(ho:o.op=.entryStore t m s x)(hd:o.dst=none)(h:(iu pu (lk T.mpL) t m s x).Runs g ls (.ws ws)):gf P n o g ls ws:=by
 refine .inr (.inr (.inr ⟨iu pu (Fb P) t m s x,?_,?_⟩))
 ·intro cx G g a w ls ws hn hS h K Q hk;subst hn;exact vo ho hd hS h hk
 ·unfold iu at h ⊢;rcases hT.mp t with e|⟨y,e,e2⟩
  ·simp[e,Rd.Runs]at h
  ·rw[e]at h;rw[e2];exact h
def Lm {tk:∀ {β:Type},List (Option Nat)->List A->(List (L×Option Nat)->List (Nat×Nat)->Rd β)->Rd β}(hT:bF P T)(htk:∀ {β:Type}, @tk β= @dc β){α:Type}{t:TypeId}{x:Operand}{k' k:DV->List (Nat×Nat)->Rd α}{y:α}{ls:List Loc} 
 (hk:∀ d s ls,(k' d s).Runs g ls y->(k d s).Runs g ls y) (h:(Ll tk (lk T.tyL) t x k').Runs g ls y):(Ll dc (oO P) t x k).Runs g ls y:=by
 unfold Ll at h ⊢;rcases hT.ty t with e|⟨ti,e,e2⟩
 ·rw[e]at h;exact h.elim
 ·rw[e]at h;rw[e2];refine ze ?_ h;intro v ls h;cases v with
  | one a=>
    simp only[htk]at h ⊢;split at h
    ·exact h.elim
    ·rename_i hag;rw[VF hag];refine jf ?_ h;intro lts src ls h;split at h
     ·exact hk _ _ _ h
     ·exact h.elim
  | agg as=>
    simp only[htk]at h ⊢;split at h
    ·rename_i hag;rw[VE hag];refine jf ?_ h;intro lts src ls h;exact hk _ _ _ h
    ·exact h.elim
  |tup rs=>exact h.elim
def BR {tk:∀ {β:Type},List (Option Nat)->List A->(List (L×Option Nat)->List (Nat×Nat)->Rd β)->Rd β}(hT:bF P T)(htk:∀ {β:Type}, @tk β= @dc β){α:Type}:∀ {ts:List TypeId} {xs:List Operand} {k' k:List DV->List (Nat×Nat)->Rd α} {y:α} {ls:List Loc},
 (∀ d s ls,(k' d s).Runs g ls y->(k d s).Runs g ls y)->(BQ tk (lk T.tyL) ts xs k').Runs g ls y->(BQ dc (oO P) ts xs k).Runs g ls y
 |[],[],k',k,y,ls,hk,h=>hk _ _ _ h
 |[],_::_,k',k,y,ls,hk,h=>h.elim
 |_::_,[],k',k,y,ls,hk,h=>h.elim
 | t::ts,x::xs,k',k,y,ls,hk,h=>by
   simp only[BQ]at h ⊢;refine Lm hT htk ?_ h;intro d s ls h;exact BR hT htk (fun d s ls h=>hk _ _ _ h) h
def Hs (hT:bF P T){o:Oper}{c:Call}{f:FuncId}{mk:OK'}{ls:List Loc}{ws:List W}(e1:o.op=.call c)(e2:c.callee=.value (.func f))(hmk:∀ ds pre res,mk ds=some (pre,res)->pre ()->KT P f ds res) 
 (h:(wL (fun {β}=>j4 ah (α:=β)) (lk T.tyL) pv n o.dst (lk T.fnL f).isSome c.argTypes c.args mk (gD ah)).Runs g ls (.ws ws)):gf P n o g ls ws:=by
 refine .inr (.inr (.inr ⟨wL dc (oO P) pv n o.dst (eh P f) c.argTypes c.args mk dT,?_,?_⟩))
 ·intro cx G g a w ls ws hn hS h K Q hk;subst hn;obtain⟨cal,as,ats⟩:=c;simp only at e2;subst e2;exact FN e1 hS hmk h hk
 ·unfold wL at h ⊢;rcases hT.fn f with e|⟨_,e,e3⟩
  ·rw[e]at h;exact h.elim
  ·rw[VE e3];rw[VE (by rw[e];rfl)]at h;rw[show gD ah=dT from by funext d res;exact lG d res]at h;exact BR hT (by intro β;funext sl as k;exact j5 sl as k) (fun _ _ _ h=>h) h
def Ns (b:Bool):mmO ah b=wm b:=by
 funext vs
 match vs with
 |[]=>rfl
 |[x]=>cases x<;>rfl
 | [x,y]=>
   cases x<;>cases y<;>first|rfl|skip
   rename_i k a k' b';simp only[mmO,wm];by_cases e:k=k'
   ·subst e;simp only[beq_self_eq_true,if_true];rfl
   ·simp[e]
 |x::y::z::vs=>cases x<;>cases y<;>rfl
def OU (hT:bF P T){ct:Jk}(hct:zE P ct){o:Oper}{ls:List Loc}{ws:List W}(h:(sI T ah ct n o).Runs g ls (.ws ws)):gf P n o g ls ws:=by
 by_cases hc:∃ c f,o.op=.call c/\c.callee=.value (.func f)
 ·obtain⟨c,f,e1,e2⟩:=hc;unfold sI at h;simp only[e1,e2]at h;cases hnw:ct.nw f with
  | some mk=>
    simp only[hnw]at h;exact h.elim
  |none=>
  simp only[hnw]at h;cases htk:ct.tk f with
  | some mk=>
    simp only[htk]at h;exact Hs hT e1 e2 (hct.2.2.2.2 f mk htk) h
  |none=>
  simp only[htk]at h;cases hpt:ct.pt f with
  | some mk=>
    simp only[hpt]at h;exact Hr hT (by unfold kj;simp only[e1,e2]) (hct.2.2.1 f mk hpt) h
  |none=>
  simp only[hpt]at h;cases hmu:ct.mu f with
  | none=>
    simp only[hmu]at h;exact Jd hT hct (by unfold kj;simp only[e1,e2]) h
  | some mk=>
    simp only[hmu]at h;exact Hq hT (by unfold kj;simp only[e1,e2]) (hct.2.1 f mk hmu) h
 by_cases hc2:∃ c t,o.op=.call c/\c.callee=.value (.tmp t)
 ·obtain⟨c,t,e1,e2⟩:=hc2;unfold sI at h;simp only[e1,e2]at h;exact Ht hT hct (by rw[e1];obtain⟨cal,as,ats⟩:=c;simp only at e2;rw[e2]) h
 by_cases hix:∃ t x i,o.op=.indexAddr t x i
 ·obtain⟨t,x,i,e1⟩:=hix;unfold sI at h;simp only[e1]at h;exact wP hT e1 h
 by_cases hap:∃ s x t t',o.op=.call {callee:=.builtin .append,args:= #[s,x],argTypes:= #[t,t']}
 ·obtain⟨s,x,t,t',e1⟩:=hap;unfold sI at h;simp only[e1]at h;exact Da hT e1 h
 by_cases hld:∃ t x,o.op=.load t x
 ·obtain⟨t,x,e1⟩:=hld;unfold sI at h;simp only[e1]at h;exact HB hT e1 h
 by_cases hmk:∃ t r,o.op=.makeMap t r
 ·obtain⟨t,r,e1⟩:=hmk;unfold sI at h;simp only[e1]at h;exact Dd hT e1 h
 by_cases hfi:∃ t x f,o.op=.field t x f
 ·obtain⟨t,x,f,e1⟩:=hfi;unfold sI at h;simp only[e1]at h;exact Hy hT e1 h
 by_cases hrg:∃ t x,o.op=.range t x
 ·obtain⟨t,x,e1⟩:=hrg;unfold sI at h;simp only[e1]at h;exact HE hT e1 h
 by_cases hen:∃ x,o.op=.entry x
 ·obtain⟨x,e1⟩:=hen;unfold sI at h;simp only[e1]at h;exact Hw e1 h
 by_cases hlo:∃ t x i k,o.op=.lookup t x i k
 ·obtain⟨t,x,i,k,e1⟩:=hlo;unfold sI at h;simp only[e1]at h;exact FR hT e1 h
 by_cases hme:∃ t m k,o.op=.mapEntry t m k
 ·obtain⟨t,m,k,e1⟩:=hme;unfold sI at h;simp only[e1]at h;exact Cd hT e1 h
 by_cases hes:∃ t m s x,o.op=.entryStore t m s x
 ·obtain⟨t,m,s,x,e1⟩:=hes;unfold sI at h;simp only[e1]at h;split at h
  ·rename_i hd;exact wM hT e1 hd h
  ·exact h.elim
 by_cases hup:∃ t m k v,o.op=.mapUpdate t m k v
 ·obtain⟨t,m,k,v,e1⟩:=hup;unfold sI at h;simp only[e1]at h;split at h
  ·rename_i hd;exact FT hT e1 hd h
  ·exact h.elim
 ·refine .inl ⟨?_,?_⟩
  ·unfold kj;split
   ·rename_i c e1;split
    ·rename_i f e2;exact absurd ⟨c,f,e1,e2⟩ hc
    ·rfl
   ·rfl
  ·unfold sI at h;unfold vop;generalize hop:o.op=op at h hc hc2 hmk hfi hrg hen hlo hme hes hup hld hix hap ⊢;cases op with
   |makeMap t r=>exact absurd ⟨t,r,rfl⟩ hmk
   |field t x f=>exact absurd ⟨t,x,f,rfl⟩ hfi
   |range t x=>exact absurd ⟨t,x,rfl⟩ hrg
   |entry x=>exact absurd ⟨x,rfl⟩ hen
   |lookup t x i k=>exact absurd ⟨t,x,i,k,rfl⟩ hlo
   |mapUpdate t m k v=>exact absurd ⟨t,m,k,v,rfl⟩ hup
   |mapEntry t m k=>exact absurd ⟨t,m,k,rfl⟩ hme
   |entryStore t m s x=>exact absurd ⟨t,m,s,x,rfl⟩ hes
   | call c=>
     simp only at h ⊢;cases hcal:c.callee with
     | value x=>
       cases x with
       |func f=>exact absurd ⟨c,f,rfl,hcal⟩ hc
       |tmp t=>exact absurd ⟨c,t,rfl,hcal⟩ hc2
       |_=>simp only[hcal]at h;exact h.elim
     | builtin b=>
       simp only[hcal]at h ⊢;cases b with
       | len=>
         simp only at h ⊢;split at h
         ·rename_i x t e1 e2;simp only[e1,e2];rcases hT.sl t with e|⟨_,e,e3⟩
          ·simp[e,Rd.Runs]at h
          simp only[e,e3,W8,if_true]at h ⊢;refine eg ?_ h;intro a ls h;exact M7 h
         ·exact h.elim
       | append=>
         simp only at h ⊢;split at h
         ·rename_i s x t t' e1 e2;exfalso;refine hap ⟨s,x,t,t',?_⟩;rw[<-hcal, <-Gl e1, <-D6 e2]
         ·exact h.elim
       |min=>simp only[Ns]at h ⊢;exact h
       |max=>simp only[Ns]at h ⊢;exact h
       |_=>exact h
     |_=>simp only[hcal]at h;exact h.elim
   |box t x=>exact OR hT h
   |alloc t=>exact I7 hT h
   |build t parts=>exact I9 hT h
   |fieldAddr s x f=>exact B9 hT h
   |buildSlice t len parts=>exact yZ hT h
   |load t x=>exact absurd ⟨t,x,rfl⟩ hld
   | store t x y=>
     simp only at h ⊢;split at h
     ·rename_i hd;simp only[hd];exact Jh hT h
     ·exact h.elim
   |indexAddr t x i=>exact absurd ⟨t,x,i,rfl⟩ hix
   |binOp op t x y t'=>exact OO hT h
   |unOp op t x=>exact Ri h
   |makeSlice t l c=>exact Ls hT h
   |slice t x lo hi mx=>exact Jg hT h
   |assign x=>exact h
   |pick c a b=>exact h
   | convert s t x=>
     simp only at h ⊢;refine td ?_ h;intro _ a ls h;rcases hT.it s with e|⟨k1,e,e3⟩
     ·simp[e,Rd.Runs]at h
     rcases hT.it t with f|⟨k2,f,f3⟩
     ·simp[e,f,Rd.Runs]at h
     simp only[e,e3,f,f3]at h ⊢;exact h
   |_=>exact h
end
end Go.V
namespace Go.V
def Me (b:Bool)(A B:Unit->Prop):Prop:=(W9 (motive:=fun _=>Unit->Prop) B A b:Unit->Prop) ()
def bC {b:Bool}{A B:Unit->Prop}(h1:b=true->A ())(h2:b=false->B ()):(W9 (motive:=fun _=>Unit->Prop) B A b:Unit->Prop) ():=by
 cases b with
 |true=>exact h1 rfl
 |false=>exact h2 rfl
def Rd.wpU {α:Type}(g:Gm):Rd α->List Loc->(List Loc->α->Prop)->Prop
 | .fail,_,_=>False
 | .ret a,t,K=>K t a
 | .get l k,t,K=>(k (g l)).wpU g (l::t) K
 | .req c k,t,K=>c/\k.wpU g t K
 | .br b k1 k2,t,K=>Me b (fun _=>k1.wpU g t K) (fun _=>k2.wpU g t K)
 | .peek r j ln k,t,K=>(k (dS ln (g (.leaf r j)))).wpU g (.hd r j::t) K
def Rd.wpU_runs {α:Type}{g:Gm}:∀ {rd:Rd α} {t:List Loc} {K:List Loc->α->Prop},rd.wpU g t K->∃ ls x t',rd.Runs g ls x/\K t' x/\(∀ l∈ls,l∈t')/\(∀ l∈t,l∈t')
 | .fail,_,_,h=>h.elim
 | .ret b,t,_,h=>⟨[],b,t,⟨rfl,rfl⟩,h,by simp,fun _ h=>h⟩
 | .get l k,t,_,h=>by
   obtain⟨ls,x,t',h1,h2,h3,h4⟩:=Rd.wpU_runs (rd:=k (g l)) h;refine⟨l::ls,x,t',⟨ls,rfl,h1⟩,h2,?_,fun y hy=>h4 y (by simp[hy])⟩;intro y hy;rcases Zk.1 hy with rfl|hy;exact h4 _ (by simp);exact h3 _ hy
 | .req c k,t,_,h=>by
   obtain⟨ls,x,t',h1,h2,h3⟩:=Rd.wpU_runs (rd:=k) h.2;exact⟨ls,x,t',⟨h.1,h1⟩,h2,h3⟩
 | .br b k1 k2,t,_,h=>by
   cases b with
   |true=>obtain⟨ls,x,t',h1,h2⟩:=Rd.wpU_runs (rd:=k1) h;exact⟨ls,x,t',.inl ⟨rfl,h1⟩,h2⟩
   |false=>obtain⟨ls,x,t',h1,h2⟩:=Rd.wpU_runs (rd:=k2) h;exact⟨ls,x,t',.inr ⟨rfl,h1⟩,h2⟩
 | .peek r j ln k,t,K,h=>by
   obtain⟨ls,x,t',h1,h2,h3,h4⟩:=Rd.wpU_runs (rd:=k (dS ln (g (.leaf r j)))) h;refine⟨.hd r j::ls,x,t',⟨ls,rfl,h1⟩,h2,?_,fun y hy=>h4 y (by simp[hy])⟩;intro y hy;rcases Zk.1 hy with rfl|hy;exact h4 _ (by simp);exact h3 _ hy
def DJ:Ln:=⟨List.length,fun _ _ h=>h⟩
def MC {ln:Ln}{x y:Option Val}(h:dS DJ x=dS DJ y):dS ln x=dS ln y:=by
 unfold dS at h ⊢
 repeat' split at h
 all_goals first|(cases h;done)|rfl|(simp only[Ya,XH]at h;obtain⟨h1,h2,h3⟩:=h;simp only[*];rw[ln.ok _ _ h3])|(simp only[*])
def same (g g':Gm):Loc->Prop
 | .hd r j=>g' (.hd r j)=g (.hd r j)/\dS DJ (g' (.leaf r j))=dS DJ (g (.leaf r j))
 |l=>g' l=g l
def same.get {g g':Gm}{l:Loc}(h:same g g' l):g' l=g l:=by
 cases l<;>first|exact h|exact h.1
def Rd.Runs_congr {α:Type}{g g':Gm}:∀ {rd:Rd α} {ls:List Loc} {x:α},rd.Runs g ls x->(∀ l∈ls,same g g' l)->rd.Runs g' ls x
 | .fail,_,_,h,_=>h
 | .ret b,_,_,h,_=>h
 | .get l k,_,_,h,hg=>by
   obtain⟨ls',e,h⟩:=h;subst e;refine⟨ls',rfl,?_⟩;rw[(hg l (by simp)).get];exact Rd.Runs_congr h (fun y hy=>hg y (by simp[hy]))
 | .req c k,_,_,h,hg=>⟨h.1,Rd.Runs_congr h.2 hg⟩
 | .br b k1 k2,_,_,h,hg=>by
   rcases h with⟨e,h⟩|⟨e,h⟩;exact .inl ⟨e,Rd.Runs_congr h hg⟩;exact .inr ⟨e,Rd.Runs_congr h hg⟩
 | .peek r j ln k,_,_,h,hg=>by
   obtain⟨ls',e,h⟩:=h;subst e;refine⟨ls',rfl,?_⟩;have e:=hg (.hd r j) (by simp);rw[MC (ln:=ln) e.2];exact Rd.Runs_congr h (fun y hy=>hg y (by simp[hy]))
def KL (n:Nat)(o:Oper)(ws:List W):Prop:=
 match o.dst with
 |some d=>d<n/\ws=[.reg d (.one (.v undef))]
 |none=>ws=[]
def Ed (P:Program)(n:Nat)(all:Array Oper)(o:Oper)(g:Gm)(t:List Loc)(ws:List W):Prop:=
 ∃ ls b,(Be all o).Runs g ls b/\(∀ l∈ls,l∈t)/\
  ((b=true/\∃ ls2,gf P n o g ls2 ws/\∀ l∈ls2,l∈t)\/(b=false/\KL n o ws))
def gf.congr {P:Program}{n:Nat}{o:Oper}{g g':Gm}{ls:List Loc}{ws:List W}(h:gf P n o g ls ws)(hg:∀ l∈ls,same g g' l):gf P n o g' ls ws:=by
 rcases h with⟨h1,h2⟩|⟨f,ts,args,ds,mk,res,h1,h2,h3,h4⟩|⟨f,ts,args,mk,h1,h2,h3⟩|⟨rd,h1,h2⟩;exact .inl ⟨h1,Rd.Runs_congr h2 hg⟩;exact .inr (.inl ⟨f,ts,args,ds,mk,res,h1,Rd.Runs_congr h2 hg,h3,h4⟩);exact .inr (.inr (.inl ⟨f,ts,args,mk,h1,h2,Rd.Runs_congr h3 hg⟩));exact .inr (.inr (.inr ⟨rd,h1,Rd.Runs_congr h2 hg⟩))
def Ed.congr {P:Program}{n:Nat}{all:Array Oper}{o:Oper}{g g':Gm}{t:List Loc}{ws:List W}(h:Ed P n all o g t ws)(hg:∀ l∈t,same g g' l):Ed P n all o g' t ws:=by
 obtain⟨ls,b,h1,h2,h3⟩:=h;refine⟨ls,b,Rd.Runs_congr h1 (fun l hl=>hg l (h2 l hl)),h2,?_⟩;rcases h3 with⟨e,ls2,h4,h5⟩|h3;exact .inl ⟨e,ls2,h4.congr (fun l hl=>hg l (h5 l hl)),h5⟩;exact .inr h3
section
variable {P: Program} {cx: Cx} {a: Act} {w: World}
def gf.sound {o:Oper}{g:Gm}{ls:List Loc}{ws:List W}(h:gf P cx.n o g ls ws)(hS:fC cx g a w){K:Act->World->Prop}{Q:Exit->Act->World->Prop} 
 (hk:∀ a' w',fC cx (aT g ws) a' w'->K a' w'):o.wp P a w K Q:=by
 obtain⟨G,hS⟩:=hS;rcases h with⟨_,h2⟩|⟨f,ts,args,ds,mk,res,h1,h2,h3,rfl⟩|⟨f,ts,args,mk,h1,h2,h3⟩|⟨rd,h1,h2⟩;exact Lu hS h2 hk;exact Hu (q8 h1) hS h2 h3 hk;exact FL (q8 h1) hS h3 h2 hk;exact h1 cx G g a w _ _ rfl hS h2 K Q hk
def Ed.sound {all:Array Oper}{o:Oper}{g:Gm}{t:List Loc}{ws:List W}(h:Ed P cx.n all o g t ws)(hS:fC cx g a w){K:Act->World->Prop}{Q:Exit->Act->World->Prop} 
 (hk:∀ a' w',fC cx (aT g ws) a' w'->K a' w'):
 if Region.wanted o (yielded all a.tmps)then o.wp P a w K Q\/(o.asks P a w/\LetsOut Q)else K (a.put o.dst undef) w:=by
 obtain⟨ls,b,h1,_,h3⟩:=h;obtain⟨G,hG⟩:=id hS;have hw:=EV hG h1;rcases h3 with⟨rfl,ls2,h4,_⟩|⟨rfl,h3⟩
 ·rw[VE hw];exact .inl (h4.sound hS hk)
 ·rw[VF (by rw[hw];simp)];unfold KL at h3;cases hd:o.dst with
  | none=>
    simp only[hd]at h3;subst h3;exact hk _ _ (by simpa[YK,aT]using hS)
  | some d=>
    simp only[hd]at h3;obtain⟨hlt,rfl⟩:=h3;refine hk _ _ ⟨G,?_⟩;exact hG.put hlt (by simp[cW,iC])
end
inductive WK where
 |reg (d:Nat)
 |leaf (r j:Nat)
 |root (r:Nat)
 |gap (r j:Nat)
def keyOf:W->WK
 | .reg d _=>.reg d
 | .leaf r j _=>.leaf r j
 | .root r _ _=>.root r
 | .gap r j _=>.gap r j
def WK.hits:WK->Loc->Bool
 | .reg d,.reg d'=>d.beq d'
 | .leaf r j,.leaf r' j'=>r.beq r'&&j.beq j'
 | .gap r j,.leaf r' j'=>r.beq r'&&j.beq j'
 | .root r,.leaf r' _=>r.beq r'
 | .root r,.meta_ r'=>r.beq r'
 |_,_=>false
def WK.hitR:WK->Loc->Bool
 | .leaf r j,.hd r' j'=>r.beq r'&&j.beq j'
 | .root r,.hd r' _=>r.beq r'
 |k,l=>k.hits l
def cL (ws:List W)(l:Loc):Bool:=ws.any fun x=>(keyOf x).hits l
def f8 (ws:List W)(l:Loc):Bool:=ws.any fun x=>(keyOf x).hitR l
def jp {g:Gm}{x:W}{l:Loc}(h:(keyOf x).hits l=false):x.app g l=g l:=by
 cases x<;>cases l<;>simp only[keyOf,WK.hits,W.app]at h ⊢ <;>first|rfl|(rw[VF];intro e;cases e;simp at h)|(rw[VF];intro e;subst e;simp at h)
def Jt {g g':Gm}{x:W}{l:Loc}(h:(keyOf x).hits l=true):x.app g l=x.app g' l:=by
 cases x<;>cases l<;>simp_all [keyOf,WK.hits,W.app]
def pz {l:Loc}:∀ {ws:List W} {g:Gm},cL ws l=false->aT g ws l=g l
 |[],_,_=>rfl
 | x::ws,g,h=>by
   simp only[cL,Xg,Xh]at h;simp only[aT];rw[pz (ws:=ws) h.2,jp h.1]
def Ep {l:Loc}:∀ {ws:List W} {g g':Gm},g l=g' l->aT g ws l=aT g' ws l
 |[],_,_,h=>h
 | x::ws,g,g',h=>by
   simp only[aT];refine Ep (ws:=ws) ?_;cases hx:(keyOf x).hits l with
   |true=>exact Jt hx
   |false=>rw[jp hx,jp hx,h]
def tG {l:Loc}:∀ {ws:List W} {g g':Gm},cL ws l=true->aT g ws l=aT g' ws l
 |[],_,_,h=>by simp[cL]at h
 | x::ws,g,g',h=>by
   simp only[cL,Xg,ZU]at h;simp only[aT];cases hx:(keyOf x).hits l with
   |true=>exact Ep (Jt hx)
   | false=>
     rw[hx]at h;exact tG (h.resolve_left (by simp))
def qo (g:Gm)(ws:List W):Prop:=∀ r j,f8 ws (.hd r j)=false->dS DJ (aT g ws (.leaf r j))=dS DJ (g (.leaf r j))
def GC (O:F1)(g:Gm):List W->Prop->Prop
 |[],K=>K
 | .gap r j x::ws,K=>match x.c with
   | .own (.s sz es)=>match g (.leaf r j)with
     | some (.h y)=>match y.c with
       | .own (.s sz' es')=>match x.ver.beq y.ver&&sz.beq sz' with
         |true=>O.pr (fun _=>es.length=es'.length)/\GC O g ws K
         |false=>False
       |_=>False
     |_=>False
   |_=>False
 |_::ws,K=>GC O g ws K
def A8 {g:Gm}{K:Prop}:∀ {ws:List W},GC ah g ws K->K
 |[],h=>h
 | .reg _ _::ws,h=>A8 (ws:=ws) h
 | .leaf _ _ _::ws,h=>A8 (ws:=ws) h
 | .root _ _ _::ws,h=>A8 (ws:=ws) h
 | .gap r j x::ws,h=>by
   simp only[GC]at h
   repeat' split at h
   all_goals first|exact h.elim|exact A8 h.2
def uG {g:Gm}{K:Prop}{r j:Nat}:∀ {ws:List W} {g':Gm},GC ah g ws K->dS DJ (g' (.leaf r j))=dS DJ (g (.leaf r j))->f8 ws (.hd r j)=false->dS DJ (aT g' ws (.leaf r j))=dS DJ (g (.leaf r j))
 |[],_,_,h,_=>h
 | .reg d x::ws,g',h,e,ht=>by
   simp only[f8,Xg,Xh]at ht;refine uG (ws:=ws) h ?_ ht.2;rw[jp (by rfl)];exact e
 | .leaf r' j' x::ws,g',h,e,ht=>by
   simp only[f8,Xg,Xh]at ht;refine uG (ws:=ws) h ?_ ht.2;rw[jp (by simpa[keyOf,WK.hits,WK.hitR]using ht.1)];exact e
 | .root r' b hs::ws,g',h,e,ht=>by
   simp only[f8,Xg,Xh]at ht;refine uG (ws:=ws) h ?_ ht.2;rw[jp (by simpa[keyOf,WK.hits,WK.hitR]using ht.1)];exact e
 | .gap r' j' x::ws,g',h,e,ht=>by
   simp only[f8,Xg,Xh]at ht;have h':=h;simp only[GC]at h'
   repeat' split at h'
   all_goals first|exact h'.elim|skip
   rename_i sz es hx _ y hy _ sz' es' hc _ hb;refine uG (ws:=ws) h'.2 ?_ ht.2;by_cases q:r=r'/\j=j'
   ·obtain⟨rfl,rfl⟩:=q;have h3:es.length=es'.length:=h'.1;simp only[Zc]at hb;have b1:=Z5 hb.1;have b2:=Z5 hb.2;simp only[W.app,if_true,dS,hx,hy,hc,DJ,b1,b2,h3]
   ·rw[jp (by
     simp only[keyOf,WK.hits];cases c1:ZK r' r with
     |false=>rfl
     | true=>
       cases c2:ZK j' j with
       |false=>rfl
       |true=>exact absurd ⟨(Z5 c1).symm,(Z5 c2).symm⟩ q)]
    exact e
def qo.of {g:Gm}{ws:List W}{K:Prop}(h:GC ah g ws K):qo g ws:=fun _ _ ht=>uG h rfl ht
def qo.reg {g:Gm}{d:Nat}{x:R}:qo g [.reg d x]:=qo.of (K:=True) trivial
def qo.nil {g:Gm}:qo g []:=qo.of (K:=True) trivial
abbrev Tr :=List (List Loc×List WK)
def If (all:Array Oper)(o:Oper)(σ:VS)(K:VS->List Loc->Bool->Prop):Prop:=
 match o.guard with
 |none=>K σ [] true
 | some (j,want)=>match all[j]? with
   | some o'=>match o'.dst with
     | some d=>match get σ (.reg d)with
       |some (.r (.one (.v (.bool b))))=>Me b (fun _=>K (.reg d (.k true)::σ) [.reg d] (true==want)) (fun _=>K (.reg d (.k false)::σ) [.reg d] (false==want))
       |some (.r (.one (.v (.tuple _))))=>K σ [.reg d] false
       |_=>False
     |none=>False
   |none=>False
section
variable (T: y9) (O: F1) (ct: Jk) (n: Nat)
def Ea (all:Array Oper):List Oper->VS->Tr->(VS->Tr->Prop)->Prop
 |[],σ,acc,K=>K σ acc
 | o::rest,σ,acc,K=>If all o σ fun σ t b=>match b with
   | true=>(sI T O ct n o).wpU (get σ) t fun t out=>match out with
     | .ws ws=>GC O (get σ) ws (Ea all rest (push σ ws) ((t,ws.map keyOf)::acc) K)
     | .call _ _ _=>False
   | false=>match o.dst with
     |some d=>if d<n then Ea all rest (.reg d (.one (.v undef))::σ) ((t,[.reg d])::acc) K else False
     |none=>Ea all rest σ ((t,[])::acc) K
end
inductive Lx (P:Program)(n:Nat)(all:Array Oper):List Oper->Gm->List (List Loc×List W)->Gm->Prop where
 |nil (g:Gm):Lx P n all [] g [] g
 |cons {o:Oper} {rest:List Oper} {g g':Gm} {t:List Loc} {ws:List W} {xs:List (List Loc×List W)}:Ed P n all o g t ws->qo g ws->Lx P n all rest (aT g ws) xs g'->Lx P n all (o::rest) g ((t,ws)::xs) g'
def GF {σ:VS}{d:Nat}{x:R}(h:get σ (.reg d)=some (.r x)):get (.reg d x::σ)=get σ:=by
 funext l
 simp only[get,W.app];split
 ·rename_i e;rw[e,h]
 ·rfl
def GG {all:Array Oper}{o:Oper}{σ:VS}{K:VS->List Loc->Bool->Prop}(h:If all o σ K):
 ∃ σ1 t b,get σ1=get σ/\(Be all o).Runs (get σ) t b/\K σ1 t b:=by
 unfold If at h;unfold Be;cases hg:o.guard with
 |none=>simp only[hg]at h;exact⟨σ,[],true,rfl,⟨rfl,rfl⟩,h⟩
 | some jw=>
   obtain⟨j,want⟩:=jw;simp only[hg]at h ⊢;cases ho:all[j]? with
   |none=>simp[ho]at h
   | some o'=>
     simp only[ho,YC]at h ⊢;cases hd:o'.dst with
     |none=>simp[hd]at h
     | some d=>
       simp only[hd]at h ⊢;cases hx:get σ (.reg d)with
       |none=>simp[hx]at h
       | some v=>
         cases v with
         |h x=>simp[hx]at h
         |m a b=>simp[hx]at h
         | r x=>cases x with
           |agg as=>simp[hx]at h
           |tup rs=>simp[hx]at h
           | one a=>cases a with
             | v y=>cases y with
               | bool b=>
                 simp only[hx]at h;cases b with
                 |true=>exact⟨_,_,_,GF hx,by simp[G3,rd,Rd.Runs,hx],h⟩
                 |false=>exact⟨_,_,_,GF hx,by simp[G3,rd,Rd.Runs,hx],h⟩
               | tuple vs=>
                 simp only[hx]at h;exact⟨σ,_,_,rfl,by simp[G3,rd,Rd.Runs,hx],h⟩
               |_=>simp[hx]at h
             |_=>simp[hx]at h
def sE {P:Program}{T:y9}(hT:bF P T){ct:Jk}(hct:zE P ct){n:Nat}{all:Array Oper}:∀ (ops:List Oper) (σ:VS) (acc:Tr) (K:VS->Tr->Prop),Ea T ah ct n all ops σ acc K->
 ∃ xs σ',Lx P n all ops (get σ) xs (get σ')/\K σ' ((xs.map fun x=>(x.1,x.2.map keyOf)).reverse++acc)
 |[],σ,acc,K,h=>⟨[],σ,.nil _,h⟩
 | o::rest,σ,acc,K,h=>by
   simp only[Ea]at h;obtain⟨σ1,t,b,e1,h1,h2⟩:=GG h;cases b with
   | true=>
     simp only at h2;obtain⟨ls2,out,t2,k1,k2,k3,k4⟩:=Rd.wpU_runs h2;cases out with
     |call f ds mk=>exact k2.elim
     | ws ws=>
       simp only at k2;have k5:=qo.of k2;obtain⟨xs,σ',m1,m2⟩:=sE hT hct rest _ _ _ (A8 k2);rw[Bb]at m1;rw[e1]at m1 k1 k5;refine⟨(t2,ws)::xs,σ',.cons ⟨t,true,h1,fun l hl=>k4 l hl,.inl ⟨rfl,ls2,OU hT hct k1,k3⟩⟩ k5 m1,?_⟩
       simpa using m2
   | false=>
     simp only at h2;cases hd:o.dst with
     | none=>
       simp only[hd]at h2;obtain⟨xs,σ',m1,m2⟩:=sE hT hct rest _ _ _ h2;rw[e1]at m1;refine⟨(t,[])::xs,σ',.cons ⟨t,false,h1,fun l hl=>hl,.inr ⟨rfl,by simp[KL,hd]⟩⟩ .nil m1,?_⟩
       simpa using m2
     | some d=>
       simp only[hd]at h2;split at h2
       ·rename_i hlt;obtain⟨xs,σ',m1,m2⟩:=sE hT hct rest _ _ _ h2;have e2:get (W.reg d (.one (.v undef))::σ1)=aT (get σ) [W.reg d (.one (.v undef))]:=by
         simp only[get,aT,e1]
        rw[e2]at m1;refine⟨(t,[.reg d (.one (.v undef))])::xs,σ',.cons ⟨t,false,h1,fun l hl=>hl,.inr ⟨rfl,by simp[KL,hd,hlt]⟩⟩ .reg m1,?_⟩
        simpa[keyOf]using m2
       ·exact h2.elim
def Lx.text {P:Program}{cx:Cx}{all:Array Oper}{Q:Exit->Act->World->Prop}:∀ {ops:List Oper} {g g':Gm} {xs:List (List Loc×List W)} {a:Act} {w:World},Lx P cx.n all ops g xs g'->fC cx g a w->
 (∀ a' w',fC cx g' a' w'->Q .normal a' w')->wpList P all Q ops a w
 |_,_,_,_,a,w,.nil g,hS,hk=>hk a w hS
 | _,_,_,_,a,w,.cons he _ hr,hS,hk=>by
   simp only[wpList];exact he.sound hS (fun a' w' hs=>hr.text hs hk)
end Go.V
namespace Go.V
def WK.clash:WK->WK->Bool
 | .reg d,.reg d'=>d.beq d'
 | .leaf r j,.leaf r' j'=>r.beq r'&&j.beq j'
 | .root r,.leaf r' _=>r.beq r'
 | .leaf r _,.root r'=>r.beq r'
 | .root r,.root r'=>r.beq r'
 | .gap r j,.gap r' j'=>r.beq r'&&j.beq j'
 | .gap r j,.leaf r' j'=>r.beq r'&&j.beq j'
 | .leaf r j,.gap r' j'=>r.beq r'&&j.beq j'
 | .root r,.gap r' _=>r.beq r'
 | .gap r _,.root r'=>r.beq r'
 |_,_=>false
def Gq {k k':WK}{l:Loc}(h:k.hits l=true)(h':k'.hits l=true):k.clash k'=true:=by
 cases k<;>cases k'<;>cases l<;>simp_all [WK.hits,WK.clash]
def sel (bQ:Nat->List W)(p:Nat->Bool)(m:Nat):List W:=((Zl m).filter p).flatMap bQ
def rV (bQ:Nat->List W)(l:Loc):∀ (is:List Nat) (g:Gm),aT g (is.flatMap bQ) l=aT g ((is.filter fun i=>cL (bQ i) l).flatMap bQ) l
 |[],g=>rfl
 | i::is,g=>by
   simp only[YF,List.filter_cons,cr];cases h:cL (bQ i) l with
   |true=>simp only[if_true,YF,cr];exact rV bQ l is _
   | false=>
     simp only[ZI,if_false];rw[<-rV bQ l is g];exact Ep (pz h)
def sr {bQ:Nat->List W}{p q:Nat->Bool}{m:Nat}{l:Loc}{g:Gm}(h:∀ i,i<m->cL (bQ i) l=true->p i=q i):aT g (sel bQ p m) l=aT g (sel bQ q m) l:=by
 unfold sel;rw[rV,rV bQ l ((Zl m).filter q)];have e:((Zl m).filter p).filter (fun i=>cL (bQ i) l)=((Zl m).filter q).filter (fun i=>cL (bQ i) l):=by
  rw[Wr,Wr];refine Xv ?_;intro i hi;rw[Z7]at hi;cases ht:cL (bQ i) l with
  |true=>simp[h i hi ht]
  |false=>simp
 rw[e]
def Or {bQ:Nat->List W}{q:Nat->Bool}{m j:Nat}{l:Loc}{g g':Gm}(hj:j<m)(hq:q j=true)(ht:cL (bQ j) l=true)(h:∀ i,j<i->i<m->cL (bQ i) l=true->q i=false):
 aT g (sel bQ q m) l=aT g' (bQ j) l:=by
 have e:aT g (sel bQ q m) l=aT g (sel bQ (fun i=>q i&&decide (i<=j)) m) l:=by
  refine sr ?_;intro i hi hti;rcases ZY j i with c|c
  ·rw[h i c hi hti];rfl
  ·simp[c]
 rw[e];have hs:(Zl m).filter (fun i=>q i&&decide (i<=j))=((Zl j).filter q)++[j]:=by
  have:Zl m=Zl j++[j]++(Zl (m- (j+1))).map (fun x=>(j+1)+x):=by
   have e1:Zl (j+1+(m- (j+1)))=Zl (j+1)++(Zl (m- (j+1))).map (fun x=>(j+1)+x):=Wg;rw[show j+1+(m- (j+1))=m from by omega]at e1;rw[e1,Ws]
  rw[this,XP,XP];have e2:(List.map (fun x=>j+1+x) (Zl (m- (j+1)))).filter (fun i=>q i&&decide (i<=j))=[]:=by
   rw[XQ];intro a ha;obtain⟨x,_,rfl⟩:=ZO.1 ha;simp;intro _;omega
  have e3:(Zl j).filter (fun i=>q i&&decide (i<=j))=(Zl j).filter q:=by
   refine Xv ?_;intro i hi;rw[Z7]at hi;simp[Nat.le_of_lt hi]
  rw[e2,e3];simp[hq]
 unfold sel;rw[hs,XR,cr];simp only[YF,List.flatMap_nil,Yb];exact tG ht
def Hc {bQ:Nat->List W}{p:Nat->Bool}{m:Nat}{g:Gm}:aT g (sel bQ p (m+1))=aT (aT g (sel bQ p m)) (if p m=true then bQ m else[]):=by
 unfold sel;rw[Ws,XP,XR,cr];cases h:p m<;>simp[h]
def Hl {ws:List W}{r j:Nat}(h:f8 ws (.hd r j)=true):cL ws (.leaf r j)=true:=by
 unfold f8 at h;unfold cL;rw[YN]at h ⊢;obtain⟨x,h1,h2⟩:=h;refine⟨x,h1,?_⟩;cases x<;>simp_all [keyOf,WK.hitR,WK.hits]
def I1 {bQ:Nat->List W}{g:Gm}{r j:Nat}{p:Nat->Bool}:∀ {m:Nat},
 (∀ k,k<m->p k=true->cL (bQ k) (.leaf r j)=true->∀ i,i<k->cL (bQ i) (.leaf r j)=true->p i=true)->
 (∀ k,k<m->f8 (bQ k) (.hd r j)=false->dS DJ (aT (aT g (sel bQ (fun _=>true) k)) (bQ k) (.leaf r j))=dS DJ (aT g (sel bQ (fun _=>true) k) (.leaf r j)))->
 dS DJ (aT g (sel bQ p m) (.leaf r j))=dS DJ (aT g (sel bQ (fun i=>p i&&f8 (bQ i) (.hd r j)) m) (.leaf r j))
 |0,_,_=>rfl
 | m+1,hc,hg=>by
   have ih:=I1 (m:=m) (fun k hk=>hc k Uc) (fun k hk=>hg k Uc);rw[Hc,Hc];cases hp:p m with
   |false=>simpa[hp,aT]using ih
   | true=>
     cases ht:f8 (bQ m) (.hd r j)with
     | true=>
       simp only[hp,ht,Bool.and_self,if_true];rw[tG (Hl ht)]
     | false=>
       simp only[hp,ht,Bool.and_false,if_true,ZI,if_false];show _=dS DJ (aT g (sel bQ (fun i=>p i&&f8 (bQ i) (.hd r j)) m) (.leaf r j));rw[<-ih];cases hl:cL (bQ m) (.leaf r j)with
       |false=>rw[pz hl]
       | true=>
         have e1:aT (aT g (sel bQ p m)) (bQ m) (.leaf r j)=aT (aT g (sel bQ (fun _=>true) m)) (bQ m) (.leaf r j):=tG hl;rw[e1,hg m Uc ht];rw[sr (q:=fun _=>true) (p:=p) (fun i hi hti=>hc m Uc hp hl i hi hti)]
def Oq {bQ:Nat->List W}{g:Gm}{r j:Nat}{p q:Nat->Bool}{m:Nat} 
 (hp:∀ k,k<m->p k=true->cL (bQ k) (.leaf r j)=true->∀ i,i<k->cL (bQ i) (.leaf r j)=true->p i=true)
 (hq:∀ k,k<m->q k=true->cL (bQ k) (.leaf r j)=true->∀ i,i<k->cL (bQ i) (.leaf r j)=true->q i=true)
 (hg:∀ k,k<m->f8 (bQ k) (.hd r j)=false->dS DJ (aT (aT g (sel bQ (fun _=>true) k)) (bQ k) (.leaf r j))=dS DJ (aT g (sel bQ (fun _=>true) k) (.leaf r j)))
 (h:∀ k,k<m->f8 (bQ k) (.hd r j)=true->p k=q k):
 dS DJ (aT g (sel bQ p m) (.leaf r j))=dS DJ (aT g (sel bQ q m) (.leaf r j)):=by
 rw[I1 hp hg,I1 hq hg]
 congr 2
 unfold sel
 congr 1
 refine Xv ?_;intro i hi;cases ht:f8 (bQ i) (.hd r j)with
 |false=>simp
 |true=>simp[h i (Z7.1 hi) ht]
def si (o:Oper):List Nat:=o.after.toList.filterMap fun e=>if Va .any e then some e.on else none
def Bn (ms:List Nat):List Nat->Nat
 |[]=>0
 |p::ps=>(1<<<p)|||(ms.getD p 0|||Bn ms ps)
def GR:List (List Nat)->List Nat->List Nat
 |[],acc=>acc
 |ds::rest,acc=>GR rest (acc++[Bn acc ds])
def pY (x y:List Loc×List WK):Bool:=
 x.2.any fun k=>y.1.any (fun l=>k.hitR l)||y.2.any (fun k'=>k.clash k')
def pd (x y:List Loc×List WK):Bool:=y.2.any fun k=>x.1.any fun l=>k.hitR l
def Kk (mask:Nat)(y:List Loc×List WK):Nat->Tr->Bool
 |_,[]=>true
 |i,x::xs=>(mask.testBit i|| !(pY x y||pd x y))&&Kk mask y (i+1) xs
def Bw:List Nat->Tr->Tr->Bool
 |m::ms,xs,y::ys=>Kk m y 0 xs&&Bw ms (xs++[y]) ys
 |[],_,[]=>true
 |_,_,_=>false
def Fi:Nat->List (List Nat)->Bool
 |_,[]=>true
 |i,ds::rest=>ds.all (fun p=>p.blt i)&&Fi (i+1) rest
def ay (ops:Array Oper)(tr:Tr):Bool:=
 let ps:=ops.toList.map si
 Fi 0 ps&&Bw (GR ps []) [] tr
end Go.V
namespace Go.V
def Lx.at {P:Program}{n:Nat}{all:Array Oper}:∀ {ops:List Oper} {g g':Gm} {xs:List (List Loc×List W)},Lx P n all ops g xs g'->
 xs.length=ops.length/\g'=aT g (xs.flatMap (·.2))/\∀ j o,ops[j]?=some o->∃ t ws,xs[j]?=some (t,ws)/\Ed P n all o (aT g ((xs.take j).flatMap (·.2))) t ws/\qo (aT g ((xs.take j).flatMap (·.2))) ws
 |_,_,_,_,.nil g=>⟨rfl,rfl,fun j o h=>by simp at h⟩
 | _,_,_,_,.cons (t:=t) (ws:=ws) he hg hr=>by
   obtain⟨h1,h2,h3⟩:=Lx.at hr;refine⟨by simp[h1],by rw[h2];simp[cr],?_⟩;intro j o h;cases j with
   |zero=>simp at h;subst h;exact⟨t,ws,rfl,by simpa[aT]using he,by simpa[aT]using hg⟩
   | succ j=>
     simp at h;obtain⟨t',ws',e1,e2,e3⟩:=h3 j o h;exact⟨t',ws',by simpa using e1,by simpa[cr]using e2,by simpa[cr]using e3⟩
def wH (xs:List (List Loc×List W)):∀ j,j<=xs.length->(xs.take j).flatMap (·.2)=(Zl j).flatMap fun i=>(xs.getD i ([],[])).2
 |0,_=>rfl
 | j+1,h=>by
   rw[List.take_succ,Ws,XR,XR,wH xs j Uc]
   congr 1
   rw[Zr Uc];simp[Zr (show j<xs.length by omega)]
def yR {m j:Nat}(h:j<=m):(Zl m).filter (fun i=>decide (i<j))=Zl j:=by
 have e1:Zl (j+(m-j))=Zl j++(Zl (m-j)).map (fun x=>j+x):=Wg;rw[show j+(m-j)=m from by omega]at e1;rw[e1,XP];have e2:((Zl (m-j)).map (fun x=>j+x)).filter (fun i=>decide (i<j))=[]:=by
  rw[XQ];intro a ha;obtain⟨x,_,rfl⟩:=ZO.1 ha;simp
 rw[e2,Yb];exact Wt.2 (fun a ha=>by simpa using ha)
def Bo {S:Nat->Prop}{pr:Nat->List Nat}(hcl:∀ k,S k->∀ p∈pr k,S p):∀ (rest:List (List Nat)) (acc:List Nat),
 (∀ k ds,rest[k]?=some ds->pr (acc.length+k)=ds)->
 (∀ j,j<acc.length->∀ i,(acc.getD j 0).testBit i=true->(∀ p∈pr j,S p)->S i)->
 ∀ j,j<(GR rest acc).length->∀ i,((GR rest acc).getD j 0).testBit i=true->(∀ p∈pr j,S p)->S i
 |[],acc,_,h=>h
 | ds::rest,acc,hp,h=>by
   simp only[GR];refine Bo hcl rest _ ?_ ?_
   ·intro k ds' hk;have:=hp (k+1) ds' (by simpa using hk);simp only[Zh,Zp,Zt];rw[<-this];congr 1;omega
   ·intro j hj i hi hS;simp only[Zh,Zp,Zt]at hj;rcases ZY j acc.length with c|c
    ·refine h j c i ?_ hS;rw[Zn,Yd c]at hi;rw[Zn];exact hi
    ·have hj':j=acc.length:=by omega
     subst hj';have e0:=hp 0 ds rfl;rw[Zi]at e0;rw[Zn,ZX (Zf _)]at hi;simp only[Y4,List.getElem?_cons_zero,Z0]at hi;rw[e0]at hS;have key:∀ (ps:List Nat),(∀ p∈ps,S p)->(Bn acc ps).testBit i=true->S i:=by
      intro ps
      induction ps with
      |nil=>intro _ hb;simp[Bn]at hb
      | cons p ps ih=>
        intro hps hb;simp only[Bn,Nat.testBit_or,ZU]at hb;rcases hb with hb|hb|hb
        ·rw[Nat.one_shiftLeft,Nat.testBit_two_pow]at hb;simp at hb;subst hb;exact hps _ (by simp)
        ·rcases ZY p acc.length with c2|c2;exact h p c2 i hb (hcl p (hps p (by simp)))
         ·rw[Zn,ZV c2]at hb;simp at hb
        ·exact ih (fun q hq=>hps q (by simp[hq])) hb
     exact key ds hS hi
def Bv {mask:Nat}{y:List Loc×List WK}:∀ {xs:Tr} {i0:Nat},Kk mask y i0 xs=true->∀ i x,xs[i]?=some x->mask.testBit (i0+i)=true\/(pY x y=false/\pd x y=false)
 |[],_,_,i,x,hx=>by simp at hx
 | x0::xs,i0,h,i,x,hx=>by
   simp only[Kk,Zc,ZU,YB,Xh]at h;cases i with
   |zero=>simp at hx;subst hx;exact h.1
   | succ i=>
     simp at hx;have:=Bv h.2 i x hx;rw[show i0+1+i=i0+(i+1)from by omega]at this;exact this
def xr:∀ {ms:List Nat} {xs ys:Tr},Bw ms xs ys=true->∀ j y,ys[j]?=some y->∃ m,ms[j]?=some m/\∀ i x,(xs++ys)[i]?=some x->i<xs.length+j->m.testBit i=true\/(pY x y=false/\pd x y=false)
 |[],_,[],_,j,y,hy=>by simp at hy
 |_::_,_,[],_,j,y,hy=>by simp at hy
 |[],_,_::_,h,_,_,_=>by simp[Bw]at h
 | m::ms,xs,y0::ys,h,j,y,hy=>by
   simp only[Bw,Zc]at h;cases j with
   | zero=>
     simp at hy;subst hy;refine⟨m,rfl,?_⟩;intro i x hx hi;rw[Yd Uc]at hx;have:=Bv h.1 i x hx
     rwa [Zx]at this
   | succ j=>
     simp at hy;obtain⟨m',e1,e2⟩:=xr h.2 j y hy;refine⟨m',by simpa using e1,?_⟩;intro i x hx hi;refine e2 i x (by simpa using hx) (by simp;omega)
def xq:∀ {pss:List (List Nat)} {i0:Nat},Fi i0 pss=true->∀ i ps,pss[i]?=some ps->∀ p∈ps,p<i0+i
 |[],_,_,i,ps,h=>by simp at h
 | q::pss,i0,h,i,ps,hi=>by
   simp only[Fi,Zc,List.all_eq_true]at h;cases i with
   | zero=>
     simp at hi;subst hi;intro p hp;have:=h.1 p hp;have h2:p+1<=i0:=by simpa[Wu]using this
     omega
   | succ i=>
     simp at hi;intro p hp;have:=xq h.2 i ps hi p hp;omega
end Go.V
namespace Go.V
def pq (listed:Array Bool)(i:Nat):Bool:=listed.getD i false
def uM {listed:Array Bool}{i k:Nat}(hi:i<listed.size):pq (listed.setIfInBounds i true) k=(pq listed k||decide (k=i)):=by
 unfold pq;by_cases e:k=i
 ·subst e;simp[hi]
 ·rw[getD_set_ne false (Ne.symm e)];simp[e]
def rI (ops:Array Oper)(k:Nat):List Nat:=match ops[k]? with
 |some o=>si o
 |none=>[]
def xg {o:Oper}{p:Nat}:p∈si o↔∃ e∈o.after,Va .any e=true/\e.on=p:=by
 unfold si;simp only[List.mem_filterMap,Array.mem_toList_iff]
 constructor
 ·rintro⟨e,he,h⟩;split at h
  ·rename_i hb;cases h;exact⟨e,he,hb,rfl⟩
  ·cases h
 ·rintro⟨e,he,hb,rfl⟩;exact⟨e,he,by simp[hb]⟩
def BX {ws:List W}{l:Loc}:f8 ws l=true↔∃ k∈ws.map keyOf,k.hitR l=true:=by
 unfold f8;simp only[YN,ZO]
 constructor
 ·rintro⟨x,h1,h2⟩;exact⟨_,⟨x,h1,rfl⟩,h2⟩
 ·rintro⟨k,⟨x,h1,rfl⟩,h2⟩;exact⟨x,h1,h2⟩
def JM {k:WK}{l:Loc}(h:k.hits l=true):k.hitR l=true:=by cases k<;>cases l<;>simp_all [WK.hits,WK.hitR]
def j6 {ws:List W}{l:Loc}:cL ws l=true↔∃ k∈ws.map keyOf,k.hits l=true:=by
 unfold cL;simp only[YN,ZO]
 constructor
 ·rintro⟨x,h1,h2⟩;exact⟨_,⟨x,h1,rfl⟩,h2⟩
 ·rintro⟨k,⟨x,h1,rfl⟩,h2⟩;exact⟨x,h1,h2⟩
section
variable {P: Program} {cx: Cx} {ops: Array Oper} {Q: Exit -> Act -> World -> Prop} {g0 gm: Gm} {xs: List (List Loc × List W)}
def IL {tr:Tr}(hok:ay ops tr=true){j p:Nat}(hp:p∈rI ops j):p<j:=by
 simp only[ay,Zc]at hok;unfold rI at hp;cases ho:ops[j]? with
 |none=>simp[ho]at hp
 | some o=>
   simp only[ho]at hp;have:=xq hok.1 j (si o) (by simp[ho]) p hp;omega
def pW {tr:Tr}(hok:ay ops tr=true){S:Nat->Prop}(hcl:∀ k,S k->∀ p∈rI ops k,S p){i j:Nat}{x y:List Loc×List WK}(hij:i<j)(hx:tr[i]?=some x)(hy:tr[j]?=some y) 
 (hS:∀ p∈rI ops j,S p) (hbad:pY x y=true\/pd x y=true):S i:=by
 simp only[ay,Zc]at hok;obtain⟨m,e1,e2⟩:=xr hok.2 j y hy;have e3:=e2 i x (by simpa using hx) (by simpa using hij);rcases e3 with e3|⟨e3,e4⟩
 ·refine Bo (S:=S) (pr:=rI ops) hcl (ops.toList.map si) [] ?_ ?_ j (ZF.1 e1).1 i ?_ hS
  ·intro k ds hk;simp only[List.getElem?_map,ZB]at hk;obtain⟨o,ho,rfl⟩:=hk;rw[Z1]at ho;simp[rI,ho]
  ·intro j hj;simp at hj
  ·rw[Zn,e1];exact e3
 ·rcases hbad with h|h
  ·rw[e3]at h;cases h
  ·rw[e4]at h;cases h
def Ia (hrun:Lx P cx.n ops ops.toList g0 xs gm)(hok:ay ops (xs.map fun x=>(x.1,x.2.map keyOf))=true)(hQ:∀ a' w',fC cx gm a' w'->Q .normal a' w'):
 ∀ (fuel:Nat) (listed:Array Bool) (a:Act) (w:World),listed.size=ops.size->((Zl ops.size).filter fun i=> !pq listed i).length<=fuel->
  (∀ k,pq listed k=true->∀ p∈rI ops k,pq listed p=true)->
  fC cx (aT g0 (sel (fun i=>(xs.getD i ([],[])).2) (pq listed) ops.size)) a w->wpAny P .any ops Q fuel listed a w:=by
 obtain⟨hlen,hgm,hat⟩:=Lx.at hrun;have hlen':xs.length=ops.size:=by simpa using hlen
 let bQ:Nat->List W:=fun i=>(xs.getD i ([],[])).2
 have hall:gm=aT g0 (sel bQ (fun _=>true) ops.size):=by
  have:=wH xs xs.length (Zf _);rw[List.take_length]at this;rw[hgm,this,hlen'];unfold sel;rw[Wt.2 (fun _ _=>rfl)]
 have hex:∀ j,j<ops.size->∃ o t,ops[j]?=some o/\xs[j]?=some (t,bQ j)/\Ed P cx.n ops o (aT g0 (sel bQ (fun i=>decide (i<j)) ops.size)) t (bQ j)/\qo (aT g0 (sel bQ (fun _=>true) j)) (bQ j):=by
  intro j hj;have ho:ops.toList[j]?=some ops[j]:=by simp[hj]
  obtain⟨t,ws,e1,e2,e4⟩:=hat j _ ho;have hw:bQ j=ws:=by simp[bQ,Zn,e1]
  refine⟨ops[j],t,by simp[hj],by rw[hw];exact e1,?_⟩;rw[hw];have e3:=wH xs j Uc;unfold sel;rw[yR Uc];rw[e3]at e2 e4;refine⟨e2,?_⟩;rw[Wt.2 (fun _ _=>rfl)];exact e4
 have full:∀ (listed:Array Bool) (a:Act) (w:World),(∀ j,j<ops.size->pq listed j=true)->fC cx (aT g0 (sel bQ (pq listed) ops.size)) a w->Q .normal a w:=by
  intro listed a w hl hS;refine hQ a w ?_;rw[hall];have:sel bQ (pq listed) ops.size=sel bQ (fun _=>true) ops.size:=by
   unfold sel
   congr 1
   exact Xv (fun i hi=>hl i (Z7.1 hi))
  rw[<-this];exact hS
 have noready:∀ (listed:Array Bool),listed.size=ops.size->Vb .any ops listed=[]->∀ j,j<ops.size->pq listed j=true:=by
  intro listed hsz hr j
  induction j using Nat.strongRecOn with
  | _ j ih=>
    intro hj;cases hl:pq listed j with
    |true=>rfl
    | false=>
      exfalso;have:j∈Vb .any ops listed:=by
       rw[mem_ready];refine⟨?_,ops[j],by simp[hj],?_⟩
       ·unfold pq at hl;simp only[Yt]at hl ⊢;rw[Xf Uc]at hl ⊢
        simpa using hl
       ·intro e he hb;have hp:e.on∈rI ops j:=by
         simp only[rI,hj,Xf];exact xg.2 ⟨e,he,hb,rfl⟩
        have hlt:=IL hok hp;exact ih e.on hlt Uc
      rw[hr]at this;cases this
 intro fuel
 induction fuel with
 | zero=>
   intro listed a w hsz hf hcl hS;have hnil:(Zl ops.size).filter (fun i=> !pq listed i)=[]:=YS Uc;have hl:∀ j,j<ops.size->pq listed j=true:=by
    intro j hj;have:=XQ.1 hnil j (Z7.2 hj)
    simpa using this
   refine⟨?_,full listed a w hl hS⟩;rw[List.eq_nil_iff_forall_not_mem];intro j hj;obtain⟨h1,o,ho,_⟩:=mem_ready.1 hj;have hjlt:=(ZE.1 ho).1;have:=hl j hjlt;unfold pq at this;simp only[Yt]at h1 this;rw[Xf Uc]at h1 this;simp only[Z0]at h1 this;rw[h1]at this;cases this
 | succ fuel ih=>
   intro listed a w hsz hf hcl hS;refine⟨fun hr=>full listed a w (noready listed hsz hr) hS,?_⟩;intro i hi;obtain⟨h1,o,ho,hpre⟩:=mem_ready.1 hi;have hilt:=(ZE.1 ho).1;have hni:pq listed i=false:=by
    unfold pq;simp only[Yt]at h1 ⊢;rw[Xf Uc]at h1 ⊢
    simpa using h1
   have hpi:∀ p∈rI ops i,pq listed p=true:=by
    intro p hp;simp only[rI,ho]at hp;obtain⟨e,he,hb,rfl⟩:=xg.1 hp;exact hpre e he hb
   obtain⟨o',t,ho',hxs,hexec,_⟩:=hex i hilt;rw[ho]at ho';cases ho';have htr:∀ k t',xs[k]?=some (t',bQ k)->(xs.map fun x=>(x.1,x.2.map keyOf))[k]?=some (t',(bQ k).map keyOf):=by
    intro k t' h;simp[h]
   have later:∀ k,i<k->k<ops.size->∀ l,cL (bQ k) l=true->(cL (bQ i) l=true\/l∈t)->pq listed k=false:=by
    intro k hik hk l hl hc;cases hlk:pq listed k with
    |false=>rfl
    | true=>
      exfalso;obtain⟨o2,t2,ho2,hxs2,_⟩:=hex k hk;have:=pW hok (S:=fun k=>pq listed k=true) hcl hik (htr i t hxs) (htr k t2 hxs2) (hcl k hlk) (by
       obtain⟨q,hq1,hq2⟩:=j6.1 hl;rcases hc with hc|hc
       ·obtain⟨q',hq3,hq4⟩:=j6.1 hc;refine .inl ?_;simp only[pY,YN,ZU];exact⟨q',hq3,.inr ⟨q,hq1,Gq hq4 hq2⟩⟩
       ·refine .inr ?_;simp only[pd,YN];exact⟨q,hq1,l,hc,JM hq2⟩)
      rw[hni]at this;cases this
   have hexec':Ed P cx.n ops o (aT g0 (sel bQ (pq listed) ops.size)) t (bQ i):=by
    refine hexec.congr ?_;intro l hl;have agree:∀ k,k<ops.size->f8 (bQ k) l=true->pq listed k=decide (k<i):=by
     intro k hk htk;obtain⟨q,hq1,hq2⟩:=BX.1 htk;obtain⟨o2,t2,ho2,hxs2,_⟩:=hex k hk;rcases Nat.lt_trichotomy k i with c|c|c
     ·simp only[c,decide_true];refine pW hok (S:=fun k=>pq listed k=true) hcl c (htr k t2 hxs2) (htr i t hxs) hpi (.inl ?_);simp only[pY,YN,ZU];exact⟨q,hq1,.inl ⟨l,hl,hq2⟩⟩
     ·subst c;simp[hni]
     ·have:pq listed k=false:=by
       cases hlk:pq listed k with
       |false=>rfl
       | true=>
         exfalso;have:=pW hok (S:=fun k=>pq listed k=true) hcl c (htr i t hxs) (htr k t2 hxs2) (hcl k hlk) (by
          refine .inr ?_;simp only[pd,YN];exact⟨q,hq1,l,hl,hq2⟩)
         rw[hni]at this;cases this
      rw[this];simp;omega
    have plain:aT g0 (sel bQ (pq listed) ops.size) l=aT g0 (sel bQ (fun i_1=>decide (i_1<i)) ops.size) l:=by
     refine sr ?_;intro k hk htk;obtain⟨q,hq1,hq2⟩:=j6.1 htk;exact agree k hk (BX.2 ⟨q,hq1,JM hq2⟩)
    cases l with
    | hd r j=>
      refine⟨plain,Oq ?_ ?_ ?_ agree⟩
      ·intro k hk hlk htk k' hk' htk';obtain⟨o2,t2,ho2,hxs2,_⟩:=hex k hk;obtain⟨o3,t3,ho3,hxs3,_⟩:=hex k' Uc;obtain⟨q,hq1,hq2⟩:=j6.1 htk;obtain⟨q',hq3,hq4⟩:=j6.1 htk';refine pW hok (S:=fun k=>pq listed k=true) hcl hk' (htr k' t3 hxs3) (htr k t2 hxs2) (hcl k hlk) (.inl ?_);simp only[pY,YN,ZU];exact⟨q',hq3,.inr ⟨q,hq1,Gq hq4 hq2⟩⟩
      ·intro k hk hlk _ k' hk' _;simp at hlk ⊢;omega
      ·intro k hk ht;obtain⟨_,_,_,_,_,hgo⟩:=hex k hk;exact hgo r j ht
    |_=>exact plain
   show wpOp P ops Q i _ a w;unfold wpOp;simp only[ho];refine hexec'.sound hS ?_;intro a' w' hs';refine ih _ a' w' (by simp[hsz]) ?_ ?_ ?_
   ·have e:(Zl ops.size).filter (fun k=> !pq (listed.setIfInBounds i true) k)=((Zl ops.size).filter (fun k=> !pq listed k)).filter (fun k=>decide (k≠i)):=by
     rw[Wr];refine Xv ?_;intro k _;rw[uM Uc];by_cases hki:k=i<;>simp[hki]
    have hlt:(((Zl ops.size).filter (fun k=> !pq listed k)).filter (fun k=>decide (k≠i))).length<((Zl ops.size).filter (fun k=> !pq listed k)).length:=by
     rw[List.length_filter_lt_length_iff_exists];exact⟨i,List.mem_filter.2 ⟨Z7.2 hilt,by simp[hni]⟩,by simp⟩
    rw[e];omega
   ·intro k hk p hp;rw[uM Uc]at hk ⊢;rw[ZU]at hk;rcases hk with hk|hk
    ·rw[hcl k hk p hp];rfl
    ·simp at hk;subst hk;rw[hpi p hp];rfl
   ·have e:aT (aT g0 (sel bQ (pq listed) ops.size)) (bQ i)=aT g0 (sel bQ (pq (listed.setIfInBounds i true)) ops.size):=by
     funext l
     cases ht:cL (bQ i) l with
     | true=>
       symm
       refine Or hilt ?_ ht ?_
       ·rw[uM Uc];simp
       ·intro k hik hk htk;rw[uM Uc,later k hik hk l htk (.inl ht)];simp;omega
     | false=>
       rw[pz ht];refine sr ?_;intro k hk htk;rw[uM Uc];have:k≠i:=fun e=>by rw[e,ht]at htk;cases htk
       simp[this]
    rw[<-e];exact hs'
def G4 {id:Nat}{a:Act}{w:World}(hm:P.follows .mixedOrders=true)(hrun:Lx P cx.n ops ops.toList g0 xs gm)(hok:ay ops (xs.map fun x=>(x.1,x.2.map keyOf))=true) 
 (hQ:∀ a' w',fC cx gm a' w'->Q .normal a' w') (hS:∀ a w,fC cx g0 a w->fC cx g0 a {w with drawn:=w.drawn+1}) (hs:fC cx g0 a w):(Vd id ops true).wp P Q a w:=by
 refine wp_region_any hm ?_;refine Ia hrun hok hQ ops.size _ a _ (by simp) ?_ ?_ ?_;exact Nat.le_trans (List.length_filter_le _ _) (by simp)
 ·intro k hk;exfalso;unfold pq at hk;simp only[Yt,Array.getElem?_replicate]at hk;split at hk<;>simp at hk
 ·have:sel (fun i=>(xs.getD i ([],[])).2) (pq (YX ops.size false)) ops.size=[]:=by
   unfold sel;have:(Zl ops.size).filter (pq (YX ops.size false))=[]:=by
    rw[XQ];intro k hk;have hk:=Z7.1 hk;simp[pq,hk]
   rw[this];rfl
  rw[this];exact hS a w hs
end
end Go.V
namespace Go.V
def NQ:List W->Nat->Option R
 |[],_=>none
 | .reg d x::ws,d'=>if d.beq d' then some x else NQ ws d'
 |_::ws,d'=>NQ ws d'
def IM:List W->Nat->Nat->Option Hv
 |[],_,_=>none
 | .leaf r j x::ws,r',j'=>if r.beq r'&&j.beq j' then some x else IM ws r' j'
 |_::ws,r',j'=>IM ws r' j'
def uL (g:Gm)(ov:List W):List Nat->VS
 |[]=>[]
 | d::ds=>match NQ ov d with
   |some x=>.reg d x::uL g ov ds
   | none=>match g (.reg d)with
     |some (.r x)=>.reg d x::uL g ov ds
     |_=>uL g ov ds
def pQ (g:Gm)(ov:List W)(r:Nat):Nat->Nat->List Hv
 |_,0=>[]
 | j,m+1=>match IM ov r j with
   |some h=>h::pQ g ov r (j+1) m
   | none=>match g (.leaf r j)with
     |some (.h h)=>h::pQ g ov r (j+1) m
     |_=>⟨0,0,none,.gone⟩::pQ g ov r (j+1) m
def wj (g:Gm)(ov:List W):List Nat->VS
 |[]=>[]
 | r::rs=>match g (.meta_ r)with
   |some (.m k box)=>.root r box (pQ g ov r 0 k)::wj g ov rs
   |_=>wj g ov rs
def DG (σ:VS)(regs roots:List Nat)(ov:List W):VS:=uL (get σ) ov regs++wj (get σ) ov roots
def o9 (g whole:Gm)(r j:Nat)(p:Hv->Hv->Prop):Prop:=
 match g (.leaf r j)with
 | some (.h h')=>match whole (.leaf r j)with
   |some (.h h)=>p h' h
   |_=>False
 |_=>False
def uv (whole:Gm):List HQ->Prop
 |[]=>True
 | .pt r _::cs=>(match whole (.meta_ r)with
   |some (.m _ true)=>True
   |_=>False)/\uv whole cs
 | .rp _ _::cs=>uv whole cs
def aar (g whole:Gm):A->A->Prop
 | .vw r j v' lo n,x=>match x with
   | .vw r2 j2 v lo2 n2=>(ZK r r2&&ZK j j2)=true/\lo=lo2/\n=n2/\o9 g whole r j fun h' h=>h'.ver=v'/\h.ver=v
   |_=>False
 | .pn r j v' iv' p,x=>match x with
   | .pn r2 j2 v iv p2=>(ZK r r2&&ZK j j2)=true/\p=p2/\o9 g whole r j fun h' h=>h'.ver=v'/\h.ver=v/\h'.iv=iv'/\h.iv=iv
   |_=>False
 | .vn r j v' iv' p lo n,x=>match x with
   | .vn r2 j2 v iv p2 lo2 n2=>(ZK r r2&&ZK j j2)=true/\p=p2/\lo=lo2/\n=n2/\o9 g whole r j fun h' h=>h'.ver=v'/\h.ver=v/\h'.iv=iv'/\h.iv=iv
   |_=>False
 | .pt r j,x=>x=.pt r j/\match whole (.meta_ r)with
   |some (.m _ true)=>True
   |_=>False
 | .v y,x=>x=.v y
 | .nl,x=>x=.nl
 | .ro sz es,x=>x=.ro sz es
 | .rp rec j,x=>x=.rp rec j
 | .fn f caps,x=>x=.fn f caps/\uv whole caps
 | .mv r j v',x=>match x with
   | .mv r2 j2 v=>(ZK r r2&&ZK j j2)=true/\o9 g whole r j fun h' h=>h'.ver=v'/\h.ver=v
   |_=>False
 | .st _ _ _ _ _,_=>False
 | .it es vs,x=>x=.it es vs
 | .un,x=>x=.un
def Mn (g whole:Gm):List A->List A->Prop
 |[],[]=>True
 |y::ys,x::xs=>aar g whole y x/\Mn g whole ys xs
 |_,_=>False
mutual
def v9 (g whole:Gm):R->R->Prop
 | .one y,x=>match x with
   | .one x=>aar g whole y x
   |_=>False
 | .agg ys,x=>match x with
   | .agg xs=>Mn g whole ys xs
   |_=>False
 | .tup rs,x=>match x with
   | .tup qs=>Dl g whole rs qs
   |_=>False
def Dl (g whole:Gm):List R->List R->Prop
 | [],xs=>match xs with
   |[]=>True
   |_=>False
 | r::rs,xs=>match xs with
   |q::qs=>v9 g whole r q/\Dl g whole rs qs
   |_=>False
end
def lE (g:Gm)(r:Nat):Nat->List Hv->Prop
 |_,[]=>True
 | j,h::hs=>(match g (.leaf r j)with
   | some (.h h')=>h'.c=h.c/\match h.org with
     |none=>True
     |some i=>h'.org=some i
   |_=>False)/\lE g r (j+1) hs
def lh (g whole:Gm):VS->Prop
 |[]=>True
 | .reg d x::τ=>(match g (.reg d)with
   |some (.r y)=>v9 g whole y x
   |_=>False)/\lh g whole τ
 | .root r box hs::τ=>(match g (.meta_ r)with
   |some (.m k b)=>k=hs.length/\b=box
   |_=>False)/\lE g r 0 hs/\lh g whole τ
 | .leaf _ _ _::_=>False
 | .gap _ _ _::_=>False
def M2 (g:Gm):List Nat->Prop
 |[]=>True
 | r::rs=>(match g (.meta_ r)with
   |some (.m _ true)=>True
   |_=>False)/\M2 g rs
def LeO (an:List Nat)(σ τ:VS):Prop:=lh (get σ) (get τ) τ/\M2 (get τ) an
def DI {g:Gm}:∀ {an:List Nat},M2 g an->∀ r∈an,∃ k,g (.meta_ r)=some (.m k true)
 |[],_,r,h=>by cases h
 | a::an,h,r,hr=>by
   rcases Zk.1 hr with rfl|hr
   ·obtain⟨h,_⟩:=h;split at h
    ·rename_i k e;exact⟨k,e⟩
    ·exact h.elim
   ·exact DI h.2 r hr
section
variable {P: Program} {cx: Cx}
def lh.regs {g whole:Gm}:∀ {τ:VS},lh g whole τ->∀ d x,get τ (.reg d)=some x->∃ r y,x=.r r/\g (.reg d)=some (.r y)/\v9 g whole y r
 |[],_,d,x,h=>by simp[get]at h
 | .reg d' y::τ,hs,d,x,h=>by
   obtain⟨h1,h3⟩:=hs;simp only[get,W.app]at h;split at h
   ·rename_i e;cases e;cases h;split at h1
    ·rename_i y' e';exact⟨_,_,rfl,e',h1⟩
    ·exact h1.elim
   ·exact lh.regs h3 d x h
 | .root r box hs::τ,hsub,d,x,h=>by
   simp only[get,W.app]at h;exact lh.regs hsub.2.2 d x h
 | .leaf _ _ _::_,hs,_,_,_=>hs.elim
 | .gap _ _ _::_,hs,_,_,_=>hs.elim
def lh.metas {g whole:Gm}:∀ {τ:VS},lh g whole τ->∀ r x,get τ (.meta_ r)=some x->(∃ k box,x=.m k box)/\g (.meta_ r)=some x
 |[],_,r,x,h=>by simp[get]at h
 | .reg d' y::τ,hs,r,x,h=>by
   simp only[get,W.app]at h;rw[VF (by simp)]at h;exact lh.metas hs.2 r x h
 | .root r' box hs::τ,hsub,r,x,h=>by
   obtain⟨h1,h2,h3⟩:=hsub;simp only[get,W.app]at h;split at h
   ·rename_i e;subst e;cases h;split at h1
    ·rename_i k b e';obtain⟨rfl,rfl⟩:=h1;exact⟨⟨_,_,rfl⟩,e'⟩
    ·exact h1.elim
   ·exact lh.metas h3 r x h
 | .leaf _ _ _::_,hs,_,_,_=>hs.elim
 | .gap _ _ _::_,hs,_,_,_=>hs.elim
def lE.at {g:Gm}{r:Nat}:∀ {hs:List Hv} {j i:Nat} {x:Hv},lE g r j hs->hs[i]?=some x->∃ h',g (.leaf r (j+i))=some (.h h')/\h'.c=x.c/\(∀ o,x.org=some o->h'.org=some o)
 |[],_,_,_,_,h=>by simp at h
 | y::hs,j,i,x,hle,h=>by
   obtain⟨h1,h2⟩:=hle;cases i with
   | zero=>
     simp at h;subst h;split at h1
     ·rename_i h' e;refine⟨h',e,h1.1,fun o ho=>?_⟩;have:=h1.2;rw[ho]at this;exact this
     ·exact h1.elim
   | succ i=>
     simp at h;obtain⟨h',e,e2⟩:=lE.at h2 h;exact⟨h',by rw[<-e];congr 2;omega,e2⟩
def lh.leaves {g whole:Gm}:∀ {τ:VS},lh g whole τ->∀ r j x,get τ (.leaf r j)=some x->∃ h h' k box,x=.h h/\g (.leaf r j)=some (.h h')/\(h'.c=h.c/\∀ o,h.org=some o->h'.org=some o)/\get τ (.meta_ r)=some (.m k box)/\j<k
 |[],_,r,j,x,h=>by simp[get]at h
 | .reg d' y::τ,hs,r,j,x,h=>by
   simp only[get,W.app]at h ⊢;rw[VF (by simp)]at h;rw[VF (by simp)];exact lh.leaves hs.2 r j x h
 | .root r' box hs::τ,hsub,r,j,x,h=>by
   simp only[get,W.app]at h ⊢;split at h
   ·rename_i e;subst e;rw[VE rfl];simp only[ZB]at h;obtain⟨y,e1,rfl⟩:=h;obtain⟨h',e2,e3⟩:=lE.at hsub.2.1 e1;rw[Zx]at e2;exact⟨y,h',_,_,rfl,e2,e3,rfl,(ZF.1 e1).1⟩
   ·rename_i e;rw[VF e];exact lh.leaves hsub.2.2 r j x h
 | .leaf _ _ _::_,hs,_,_,_,_=>hs.elim
 | .gap _ _ _::_,hs,_,_,_,_=>hs.elim
def LeO.sim {an:List Nat}(ha:∀ r x,cx.aloc r=some x->r∈an){σ τ:VS}(h:LeO an σ τ){a:Act}{w:World}(hS:fC cx (get σ) a w):fC cx (get τ) a w:=by
 obtain⟨G,hS⟩:=hS;obtain⟨h,hk⟩:=h
 open Classical in
 let G':Gh:={G with loc:=fun r=>if∃ k,get τ (.meta_ r)=some (.m k true)then G.loc r else none}
 have pair:∀ r j (p:Hv->Hv->Prop),o9 (get σ) (get τ) r j p->∀ h0,gl (get σ) r j=some h0->∃ h1,gl (get τ) r j=some h1/\p h0 h1/\h1.c=h0.c:=by
  intro r j p hs h0 e;rw[av]at e;unfold o9 at hs;rw[e]at hs;simp only at hs;split at hs
  ·rename_i h1 e1;obtain⟨y,h',_,_,q1,q2,q3,_⟩:=lh.leaves h r j _ e1;cases q1;rw[e]at q2;cases q2;exact⟨h1,av.2 e1,hs,q3.1.symm⟩
  ·exact hs.elim
 have beq:∀ {r r2 j j2:Nat},(ZK r r2&&ZK j j2)=true->r=r2/\j=j2:=by
  intro r r2 j j2 e;simp only[Zc]at e;exact⟨Z5 e.1,Z5 e.2⟩
 have hA:∀ y x v,aar (get σ) (get τ) y x->iC (gl (get σ)) G w y v->iC (gl (get τ)) G' w x v:=by
  intro y x v hc hx;cases y with
  | pt r j=>
    obtain⟨rfl,hc⟩:=hc;obtain⟨b,off,e1,e2⟩:=hx;refine⟨b,off,?_,e2⟩;split at hc
    ·rename_i k e;simp only[G'];rw[VE ⟨k,e⟩];exact e1
    ·exact hc.elim
  |st _ _ _ _ _=>exact hc.elim
  | mv r j v'=>
    cases x with
    | mv r2 j2 ver=>
      obtain⟨e,hp⟩:=hc;obtain⟨rfl,rfl⟩:=beq e;obtain⟨h0,e1,e2,e3⟩:=hx;obtain⟨h1,f1,⟨f2,f3⟩,f4⟩:=pair r j _ hp h0 e1;exact⟨h1,f1,Uc,fun _ kb es qc=>e3 f2 kb es (by rw[<-f4];exact qc)⟩
    |_=>exact hc.elim
  | vw r j v' lo n=>
    cases x with
    | vw r2 j2 ver lo2 n2=>
      obtain⟨e,rfl,rfl,hp⟩:=hc;obtain⟨rfl,rfl⟩:=beq e;obtain⟨h0,e1,e2,e3⟩:=hx;obtain⟨h1,f1,⟨f2,f3⟩,f4⟩:=pair r j _ hp h0 e1;exact⟨h1,f1,Uc,fun _ sz es qc=>e3 f2 sz es (by rw[<-f4];exact qc)⟩
    |_=>exact hc.elim
  | pn r j v' iv' p=>
    cases x with
    | pn r2 j2 ver iv p2=>
      obtain⟨e,rfl,hp⟩:=hc;obtain⟨rfl,rfl⟩:=beq e;obtain⟨h0,e1,e2,e3,e4,e5⟩:=hx;obtain⟨h1,f1,⟨f2,f3,f5,f6⟩,f4⟩:=pair r j _ hp h0 e1;exact⟨h1,f1,Uc,Uc,e4,fun _ l qc=>e5 (by simp[C0,f2,f5]) l (by rw[<-f4];exact qc)⟩
    |_=>exact hc.elim
  | vn r j v' iv' p lo n=>
    cases x with
    | vn r2 j2 ver iv p2 lo2 n2=>
      obtain⟨e,rfl,rfl,rfl,hp⟩:=hc;obtain⟨rfl,rfl⟩:=beq e;obtain⟨h0,e1,e2,e3,e4,e5⟩:=hx;obtain⟨h1,f1,⟨f2,f3,f5,f6⟩,f4⟩:=pair r j _ hp h0 e1;exact⟨h1,f1,Uc,Uc,e4,fun _ l rec o sz es qc=>e5 (by simp[jm,f2,f5]) l rec o sz es (by rw[<-f4];exact qc)⟩
    |_=>exact hc.elim
  |v y=>have hc:x=_:=hc;subst hc;exact hx
  |nl=>have hc:x=_:=hc;subst hc;exact hx
  |ro sz es=>have hc:x=_:=hc;subst hc;exact hx
  |rp rec j=>have hc:x=_:=hc;subst hc;exact hx
  |un=>have hc:x=_:=hc;subst hc;trivial
  |it es vs=>have hc:x=_:=hc;subst hc;exact hx
  | fn f caps=>
    obtain⟨rfl,hc⟩:=hc;obtain⟨ps,e,hx⟩:=hx;refine⟨ps,e,?_⟩;have key:∀ (caps:List HQ) (ps:List Value),uv (get τ) caps->fe G w caps ps->fe G' w caps ps:=by
     intro caps
     induction caps with
     |nil=>intro ps _ h;exact h
     | cons c cs ih=>
       intro ps hk hx;obtain⟨v,vs',e,h1,h2⟩:=hx;cases c with
       | pt r j=>
         obtain⟨k1,k2⟩:=hk;refine⟨v,vs',e,?_,ih _ k2 h2⟩;obtain⟨b,off,e1,e2⟩:=h1;refine⟨b,off,?_,e2⟩;split at k1
         ·rename_i k e;simp only[G'];rw[VE ⟨k,e⟩];exact e1
         ·exact k1.elim
       |rp rec j=>exact⟨v,vs',e,h1,ih _ hk h2⟩
    exact key caps ps hc hx
 have hAs:∀ ys xs vs,Mn (get σ) (get τ) ys xs->bX (gl (get σ)) G w ys vs->bX (gl (get τ)) G' w xs vs:=by
  intro ys
  induction ys with
  | nil=>intro xs vs hc hx;cases xs with
    |nil=>exact hx
    |cons _ _=>exact hc.elim
  | cons y ys ih=>
    intro xs vs hc hx;cases xs with
    |nil=>exact hc.elim
    | cons x xs=>
      obtain⟨v,vs',e,h1,h2⟩:=hx;exact⟨v,vs',e,hA y x v hc.1 h1,ih xs vs' hc.2 h2⟩
 have hR:∀ y x v,v9 (get σ) (get τ) y x->cW (gl (get σ)) G w y v->cW (gl (get τ)) G' w x v:=by
  intro y
  induction y using R.rec (motive_2:=fun ys=>∀ xs vs,Dl (get σ) (get τ) ys xs->jo (gl (get σ)) G w ys vs->jo (gl (get τ)) G' w xs vs)with
  | one y=>
    intro x v hc hx;cases x with
    |one x=>simp only[cW,v9]at*;exact hA y x v hc hx
    |agg _=>simp[v9]at hc
    |tup _=>simp[v9]at hc
  | agg ys=>
    intro x v hc hx;cases x with
    |agg xs=>simp only[cW,v9]at*;obtain⟨vs,e,hx⟩:=hx;exact⟨vs,e,hAs ys xs vs hc hx⟩
    |one _=>simp[v9]at hc
    |tup _=>simp[v9]at hc
  | tup ys ih=>
    intro x v hc hx;cases x with
    |tup xs=>simp only[cW,v9]at*;obtain⟨vs,e,hx⟩:=hx;exact⟨vs,e,ih xs vs hc hx⟩
    |one _=>simp[v9]at hc
    |agg _=>simp[v9]at hc
  | nil=>
    rename_i xs vs hc hx;cases xs with
    |nil=>exact hx
    |cons _ _=>simp[Dl]at hc
  | cons r rs ih1 ih2=>
    rename_i xs vs hc hx;cases xs with
    |nil=>simp[Dl]at hc
    | cons q qs=>
      simp only[jo,Dl]at*;obtain⟨v,vs',e,h1,h2⟩:=hx;exact⟨v,vs',e,ih1 q v hc.1 h1,ih2 qs vs' hc.2 h2⟩
 refine⟨G',hS.defers,hS.tm,?_,?_,?_,?_,?_,hS.lt,hS.frame,hS.frow,?_,?_,hS.afr,?_,?_,hS.roX⟩
 ·intro d x hx;obtain⟨r,y,rfl,he,hc⟩:=lh.regs h d x hx;obtain⟨e1,r',e2,e3⟩:=hS.reg d _ he;cases e2;exact⟨e1,r,rfl,hR y r _ hc e3⟩
 ·intro r k hk;obtain⟨b,off,cur,ty,f1,f2⟩:=hS.boxes r k (lh.metas h r _ hk).2;exact⟨b,off,cur,ty,by simp only[G'];rw[VE ⟨k,hk⟩];exact f1,f2⟩
 ·intro r j x hx;obtain⟨y,h',k,box,rfl,q2,q3,q4,q5⟩:=lh.leaves h r j x hx;obtain⟨h0,k0,box0,e1,e2,e3,e4⟩:=hS.leaf r j _ q2;cases e1;refine⟨y,k,box,rfl,q4,q5,?_⟩;unfold ew at e4 ⊢;rw[q3.1]at e4;exact e4
 ·intro r x hx;exact(lh.metas h r x hx).1
 ·intro r b hb;simp only[G']at hb;split at hb
  ·rename_i e;exact e
  ·cases hb
 ·intro r j h0 e i hi;obtain⟨y,h',k,box,e1,q2,q3,q4,q5⟩:=lh.leaves h r j _ (av.1 e);cases e1;exact hS.anc r j h' (av.2 q2) i (q3.2 i hi)
 ·intro r x hx;have:=DI hk r (ha r x hx);simp only[G'];obtain⟨k,hk2⟩:=this;rw[VE ⟨k,hk2⟩];obtain⟨g1,g2⟩:=hS.aloc r x hx;have:=(lh.metas h r _ hk2).2;rw[this]at g2;cases g2;exact⟨g1,hk2⟩
 ·intro r1 r2 k1 k2 b o1 o2 hne h1 h2 q1 q2;simp only[G']at q1 q2;rw[VE ⟨k1,h1⟩]at q1;rw[VE ⟨k2,h2⟩]at q2;exact hS.sep r1 r2 k1 k2 b o1 o2 hne (lh.metas h r1 _ h1).2 (lh.metas h r2 _ h2).2 q1 q2
 ·intro r b off hx ha2;simp only[G']at hx;split at hx
  ·exact hS.newb r b off hx ha2
  ·cases hx
def fC.drawn {g:Gm}{a:Act}{w:World}(h:fC cx g a w)(k:Nat):fC cx g a {w with drawn:=k}:=by
 obtain⟨G,hS⟩:=h
 let w':World:={w with drawn:=k}
 have st:Step g G w g G w':=⟨fun r j h hh=>⟨h,hh,.inl ⟨rfl,rfl,fun _ _ _ _=>rfl⟩⟩,fun b hb=>⟨hb,rfl⟩,fun b hb=>⟨hb,rfl⟩,fun r x h=>h⟩;refine⟨G,hS.defers,hS.tm,?_,hS.boxes,?_,hS.metas,hS.noloc,hS.lt,⟨hS.frame.os,hS.frame.tape,hS.frame.output,hS.frame.size,hS.frame.block⟩,hS.frow,hS.anc,hS.aloc,fun r b off e=>(hS.afr r b off e).keep rfl,hS.sep,hS.newb,hS.roX⟩
 ·intro d x hx;obtain⟨e1,r,e2,e3⟩:=hS.reg d x hx;exact⟨e1,r,e2,cW.step hS st _ _ e3⟩
 ·intro r j x hx;obtain⟨h,k',box,e1,e2,e3,e4⟩:=hS.leaf r j x hx;refine⟨h,k',box,e1,e2,e3,?_⟩;unfold ew at e4 ⊢;split at e4
  ·exact⟨bN.keep (w':=w') _ _ _ e4.1 (fun _ _=>rfl),e4.2⟩
  ·obtain⟨S,h1,h2⟩:=e4;exact⟨S,bN.keep (w':=w') _ _ _ h1 (fun _ _=>rfl),h2⟩
  ·trivial
def P3 (fz:List (Nat×List Nat))(id:Nat)(σ:VS):VS:=
 match lk fz id with
 |some _=>σ
 |none=>σ
open Classical in
def GB {fz:List (Nat×List Nat)}(hz:fz≠[]->∀ b,cx.ro b){id:Nat}{σ:VS}{a:Act}{w:World}(h:fC cx (get σ) a w):fC cx (get (P3 fz id σ)) a w:=by
 unfold P3;split<;>exact h
def QV (O:F1)(fz:List (Nat×List Nat))(id:Nat)(σ:VS)(k:VS->Prop):Prop:=
 match lk fz id with
 |some _=>k σ
 |none=>k σ
def He {fz:List (Nat×List Nat)}{id:Nat}{a:Act}{w:World}{σ:VS}{k:VS->Prop}(h:QV ah fz id σ k)(hS:fC cx (get σ) a w):∃ σ',k σ'/\fC cx (get σ') a w:=by
 unfold QV at h;split at h
 ·exact⟨σ,h,hS⟩
 ·exact⟨σ,h,hS⟩
end
end Go.V
namespace Go.V
section
variable (T: y9) (O: F1) (ct: Jk) (n: Nat) (an: List Nat) (fz: List (Nat × List Nat))
def IJ:List Oper->Option (Nat×Nat×Nat)
 | [o1,o2]=>match o1.op with
   | .next (.tmp it) false=>match o2.op with
     | .extract (.tmp d) 0=>match o1.dst,o1.guard,o2.dst,o2.guard with
       | some d1,none,some d2,none=>match ZK d d1 with
         |true=>some (it,d1,d2)
         |false=>none
       |_,_,_,_=>none
     |_=>none
   |_=>none
 |_=>none
def OS (it d1 d2:Nat)(draw:Bool)(σ:VS)(K:VS->Prop):Prop:=
 match draw with
 |true=>False
 | false=>match get σ (.reg it)with
   | some (.r (.one (.it es vs)))=>(wE it σ&&(Wu d1 n&&(Wu d2 n&&(!Nat.beq d1 it&& !Nat.beq d2 it))))=true/\
      (∀ k:Int,O.pr (fun _=>k∈pR es/\vs.length<es.length)->K (.reg d2 (.k true):: .reg d1 (.one .un):: .reg it (.one (.it es (k::vs)))::σ))/\
      (O.pr (fun _=>∀ k∈pR es,k∈vs)->K (.reg d2 (.k false):: .reg d1 (.one .un)::σ))
   |_=>False
def HF (id:Nat)(ops:Array Oper)(draw:Bool)(Q:VS->Prop)(σ:VS):Prop:=
 Ea T O ct n ops ops.toList σ [] fun σ' acc=>match draw with
  |true=>O.pr (fun _=>ay ops acc.reverse=true)/\QV O fz id (P3 fz id σ') Q
  |false=>QV O fz id (P3 fz id σ') Q
def po:Code->(Ex->VS->Prop)->VS->Prop
 | .skip,Q,σ=>Q .normal σ
 | .region id ops draw,Q,σ=>match IJ ops.toList with
   |some (it,d1,d2)=>OS O n it d1 d2 draw σ (fun σ'=>Q .normal σ')
   | none=>match lk T.alL id with
     |none=>HF T O ct n fz id ops draw (Q .normal) σ
     |some _=>HF T O ct n fz id ops draw (Q .normal) σ\/HF T O ⟨ct.rd,ct.mu,fun _=>none,ct.nw,ct.tk⟩ n fz id ops draw (Q .normal) σ
 | .seq x y,Q,σ=>po x (fun e σ'=>match e with
    | .normal=>po y Q σ'
    | .exit i=>Q (.exit i) σ'
    | .ret=>Q .ret σ') σ
 | .cond c x y,Q,σ=>(ES c .ret).wpU (get σ) [] fun _ b=>Me b (fun _=>po x Q σ) (fun _=>po y Q σ)
 | .block id x,Q,σ=>po x (fun e σ'=>match e with
    | .normal=>Q .normal σ'
    | .exit i=>match ZK i id with
      |true=>Q .normal σ'
      |false=>Q (.exit i) σ'
    | .ret=>Q .ret σ') σ
 | .loop x,Q,σ=>∃ (regs roots:List Nat) (α:Type) (ov:α->List W) (rel:α->Prop) (μ:α->Nat),(∃ s0,rel s0/\LeO an σ (DG σ regs roots (ov s0)))/\
    ∀ s,rel s->po x (fun e σ'=>match e with
     | .normal=>∃ s',rel s'/\μ s'<μ s/\LeO an σ' (DG σ regs roots (ov s'))
     | .exit i=>Q (.exit i) σ'
     | .ret=>Q .ret σ') (DG σ regs roots (ov s))
 | .exit id,Q,σ=>Q (.exit id) σ
 | .ret,Q,σ=>Q .ret σ
 | .scope x,Q,σ=>po x Q σ
 |_,_,_=>False
def Mu {α:Type}(O:F1)(ti:TI)(k:DV->List (Nat×Nat)->Rd α)(as:List A):Rd α:=
 j4 O ti.slots as fun lts srcs=>if ti.agg then k (.agg (lts.map (·.1))) srcs else match lts with
  |[(l,_)]=>k (.one l) srcs
  |_=>.fail
def Oe {α:Type}(t:TypeId)(rv:ResultVar)(k:DV->List (Nat×Nat)->Rd α):Rd α:=
 match lk T.tyL t with
 |none=>.fail
 | some ti=>match rv with
   | .tmp x=>G3 x fun r=>match r with
     | .one a=>if ti.agg then .fail else Mu O ti k [a]
     | .agg as=>if ti.agg then Mu O ti k as else .fail
     | .tup _=>.fail
   | .cell x t'=>if t'==t then G3 x fun r=>match r with
     | .one (.pt r j)=>im O r j ti.zero.length (Mu O ti k)
     |_=>.fail
     else .fail
def BG {α:Type}:List TypeId->List ResultVar->(List DV->List (Nat×Nat)->Rd α)->Rd α
 |[],[],k=>k [] []
 |t::ts,rv::rvs,k=>Oe T O t rv fun d src=>BG ts rvs fun ds srcs=>k (d::ds) (src++srcs)
 |_,_,_=>.fail
def D9 (ts:List TypeId)(rvs:List ResultVar)(σ:VS)(res:List DV):Prop:=
 (BG T O ts rvs fun ds srcs=>if bp srcs then .req (O.pr fun _=>ds=res) (.ret ())else .fail).wpU (get σ) [] fun _ _=>True
end
section
variable {P: Program} {T: y9} {cx: Cx} {g: Gm}
def Iv {α:Type}{r j:Nat}{h0:Hv}{k' k:A->Rd α}{ls:List Loc}{x:α}(hk:∀ a ls,(k' a).Runs g ls x->(k a).Runs g ls x)(h:(Bm r j h0 k').Runs g ls x):(Bm r j h0 k).Runs g ls x:=by
 unfold Bm at h ⊢;split at h
 ·split at h
  ·refine du (fun v ls h=>?_) h;split at h
   ·split at h
    ·split at h
     ·rename_i hb;rw[VE hb];exact hk _ _ h
     ·rename_i hb;rw[VF hb];exact hk _ _ h
    ·exact hk _ _ h
   ·exact hk _ _ h
  ·exact hk _ _ h
 ·exact hk _ _ h
 ·exact hk _ _ h
def qI {α:Type}{r:Nat}:∀ {m j:Nat} {k' k:List A->Rd α} {ls:List Loc} {x:α},(∀ as ls,(k' as).Runs g ls x->(k as).Runs g ls x)->(fb r j m k').Runs g ls x->(fb r j m k).Runs g ls x
 |0,j,k',k,ls,x,hk,h=>hk _ _ h
 |m+1,j,k',k,ls,x,hk,h=>du (fun v ls h=>Iv (fun a ls h=>qI (fun as ls h=>hk _ _ h) h) h) h
def Lf (hT:bF P T){α:Type}{t:TypeId}{rv:ResultVar}{k' k:DV->List (Nat×Nat)->Rd α}{ls:List Loc}{x:α}(hk:∀ d s ls,(k' d s).Runs g ls x->(k d s).Runs g ls x)(h:(Oe T ah t rv k').Runs g ls x):(Od P t rv k).Runs g ls x:=by
 revert h
 unfold Oe Od;rcases hT.ty t with e|⟨ti,e,e2⟩
 ·simp only[e];exact fun h=>h.elim
 ·simp only[e,e2];have hf:∀ (as:List A) (ls:List Loc),(Mu ah ti k' as).Runs g ls x->(dc ti.slots as fun lts srcs=>if ti.agg then k (.agg (lts.map (·.1))) srcs else match lts with
   |[(l,_)]=>k (.one l) srcs
   |_=>.fail).Runs g ls x:=by
   intro as ls h;unfold Mu at h;rw[j5]at h;refine jf ?_ h;intro l src ls h;by_cases ha:ti.agg=true
   ·rw[VE ha]at h ⊢;exact hk _ _ _ h
   ·rw[VF ha]at h ⊢;split at h
    ·exact hk _ _ _ h
    ·exact h.elim
  intro h;cases rv with
  | tmp y=>
    refine BE ?_ h;intro r ls h;cases r with
    | one a=>
      simp only at h ⊢;split at h
      ·exact h.elim
      ·rename_i hb;rw[VF hb];exact hf _ _ h
    | agg as=>
      simp only at h ⊢;split at h
      ·rename_i hb;rw[VE hb];exact hf _ _ h
      ·exact h.elim
    |tup rs=>exact h
  | cell y t'=>
    refine cO (fun ls h=>?_) h;refine BE ?_ h;intro r ls h;cases r with
    | one a=>cases a with
      | pt r j=>
        simp only[mO]at h;exact qI (fun as ls h=>hf as ls h) h
      |_=>exact h
    |agg as=>exact h
    |tup rs=>exact h
def jN (hT:bF P T){α:Type}:∀ {ts:List TypeId} {rvs:List ResultVar} {k' k:List DV->List (Nat×Nat)->Rd α} {ls:List Loc} {x:α},(∀ d s ls,(k' d s).Runs g ls x->(k d s).Runs g ls x)->(BG T ah ts rvs k').Runs g ls x->(BF P ts rvs k).Runs g ls x
 |[],[],k',k,ls,x,hk,h=>hk _ _ _ h
 |[],_::_,k',k,ls,x,hk,h=>h
 |_::_,[],k',k,ls,x,hk,h=>h
 |t::ts,rv::rvs,k',k,ls,x,hk,h=>Lf hT (fun d s ls h=>jN hT (fun d s ls h=>hk _ _ _ h) h) h
def GW {ops:List Oper}{it d1 d2:Nat}(h:IJ ops=some (it,d1,d2)):∃ o1 o2,ops=[o1,o2]/\o1.op=.next (.tmp it) false/\o1.dst=some d1/\o1.guard=none/\o2.op=.extract (.tmp d1) 0/\o2.dst=some d2/\o2.guard=none:=by
 unfold IJ at h;split at h
 ·rename_i o1 o2;split at h
  ·rename_i it' e1;split at h
   ·rename_i d e2;split at h
    ·rename_i e3 e4 e5 e6;split at h
     ·rename_i hb;cases h;cases Z5 hb;exact⟨o1,o2,rfl,e1,e3,e4,e2,e5,e6⟩
     ·cases h
    ·cases h
   ·cases h
  ·cases h
 ·cases h
def rU {fz:List (Nat×List Nat)}(hz:fz≠[]->∀ b,cx.ro b)(hT:bF P T){ct:Jk}(hct:zE P ct)(hm:P.follows .mixedOrders=true){n:Nat}(hn:n=cx.n){id:Nat}{ops:Array Oper}{draw:Bool}{Q:Ex->VS->Prop}{σ:VS}{a:Act}{w:World}(h:HF T ah ct n fz id ops draw (Q .normal) σ)(hS:fC cx (get σ) a w):
 (Vd id ops draw).wp P (fun e a' w'=>∃ ex σ',e=PS ex/\Q ex σ'/\fC cx (get σ') a' w') a w:=by
 unfold HF at h;obtain⟨xs,σ',h1,h2⟩:=sE hT hct _ _ _ _ h;subst hn;cases draw with
 | false=>exact wp_region_list (h1.text hS (fun a' w' hs=>by
    obtain⟨σ2,k1,k2⟩:=He h2 (GB hz hs);exact⟨.normal,σ2,rfl,k1,k2⟩))
 | true=>
   obtain⟨h2,h3⟩:=h2;refine G4 hm h1 ?_ (fun a' w' hs=>by
    obtain⟨σ2,k1,k2⟩:=He h3 (GB hz hs);exact⟨.normal,σ2,rfl,k1,k2⟩) (fun a w h=>h.drawn _) hS
   have h2:ay ops _=true:=h2
   simpa using h2
def de {fz:List (Nat×List Nat)}(hz:fz≠[]->∀ b,cx.ro b)(hT:bF P T){ct:Jk}(hct:zE P ct)(hm:P.follows .mixedOrders=true){n:Nat}(hn:n=cx.n){an:List Nat}(ha:∀ r x,cx.aloc r=some x->r∈an):∀ (c:Code) (Q:Ex->VS->Prop) (σ:VS) (a:Act) (w:World),po T ah ct n an fz c Q σ->fC cx (get σ) a w->
 c.wp P (fun e a' w'=>∃ ex σ',e=PS ex/\Q ex σ'/\fC cx (get σ') a' w') a w
 | .skip,Q,σ,a,w,h,hS=>wp_skip ⟨.normal,σ,rfl,h,hS⟩
 | .region id ops draw,Q,σ,a,w,h,hS=>by
   unfold po at h;split at h
   ·rename_i it d1 d2 hq;unfold OS at h;split at h
    ·exact h.elim
    split at h
    case h_2=>exact h.elim
    rename_i es vs hit;obtain⟨hb,hT',hF'⟩:=h;simp only[Zc,YB]at hb;obtain⟨b1,b2,b3,b4,b5⟩:=hb;obtain⟨o1,o2,e0,p1,p2,p3,p4,p5,p6⟩:=GW hq;subst hn;refine wp_region_list ?_;rw[e0];refine IK hS hit b1 (by simpa[Ve]using b2) (by simpa[Ve]using b3) (Wv b4) (Wv b5) p1 p2 p3 p4 p5 p6 ?_ ?_
    ·intro k hk hl a' w' hs;exact⟨.normal,_,rfl,hT' k ⟨hk,hl⟩,hs⟩
    ·intro hall a' w' hs;exact⟨.normal,_,rfl,hF' hall,hs⟩
   split at h
   ·exact rU hz hT hct hm hn h hS
   ·rcases h with h|h;exact rU hz hT hct hm hn h hS;exact rU hz (ct:=⟨ct.rd,ct.mu,fun _=>none,ct.nw,ct.tk⟩) hT ⟨hct.1,hct.2.1,fun _ _ e=>(by cases e),hct.2.2.2.1,hct.2.2.2.2⟩ hm hn h hS
 | .seq x y,Q,σ,a,w,h,hS=>by
   refine wp_seq (Yz ?_ (de hz hT hct hm hn ha x _ σ a w h hS));rintro e a' w' ⟨ex,σ',rfl,hq,hs⟩;cases ex with
   |normal=>exact de hz hT hct hm hn ha y Q σ' a' w' hq hs
   |exit i=>exact⟨.exit i,σ',rfl,hq,hs⟩
   |ret=>exact⟨.ret,σ',rfl,hq,hs⟩
 | .cond c x y,Q,σ,a,w,h,hS=>by
   obtain⟨G,hG⟩:=id hS;obtain⟨ls,b,t,h1,h2,_⟩:=Rd.wpU_runs h;obtain⟨b',ls',e,h3⟩:=uz hG h1;refine wp_cond e ?_;simp only[Rd.Runs]at h3;obtain⟨_,rfl⟩:=h3;cases b with
   |true=>exact de hz hT hct hm hn ha x Q σ a w h2 hS
   |false=>exact de hz hT hct hm hn ha y Q σ a w h2 hS
 | .block id x,Q,σ,a,w,h,hS=>by
   refine wp_block (Yz ?_ (de hz hT hct hm hn ha x _ σ a w h hS));rintro e a' w' ⟨ex,σ',rfl,hq,hs⟩;cases ex with
   |normal=>exact⟨.normal,σ',rfl,hq,hs⟩
   | exit i=>
     simp only[PS,Exit.inBlock];simp only at hq;split at hq
     ·rename_i e;rw[VE (Z5 e)];exact⟨.normal,σ',rfl,hq,hs⟩
     ·rename_i e;rw[VF (Wv e)];exact⟨.exit i,σ',rfl,hq,hs⟩
   |ret=>exact⟨.ret,σ',rfl,hq,hs⟩
 | .loop x,Q,σ,a,w,h,hS=>by
   obtain⟨regs,roots,α,ov,rel,μ,⟨s0,hr0,hle0⟩,hround⟩:=h;refine wp_loop_ghost (fun s a w=>rel s/\fC cx (get (DG σ regs roots (ov s))) a w) μ s0 ⟨hr0,hle0.sim ha hS⟩ ?_;rintro s a w ⟨hr,hs⟩;refine Yz ?_ (de hz hT hct hm hn ha x _ _ a w (hround s hr) hs);rintro e a' w' ⟨ex,σ',rfl,hq,hs'⟩;cases ex with
   | normal=>
     obtain⟨s',k1,k2,k3⟩:=hq;exact⟨s',⟨k1,k3.sim ha hs'⟩,k2⟩
   |exit i=>exact⟨.exit i,σ',rfl,hq,hs'⟩
   |ret=>exact⟨.ret,σ',rfl,hq,hs'⟩
 | .exit id,Q,σ,a,w,h,hS=>wp_exit ⟨.exit id,σ,rfl,h,hS⟩
 | .ret,Q,σ,a,w,h,hS=>wp_ret ⟨.ret,σ,rfl,h,hS⟩
 | .scope x,Q,σ,a,w,h,hS=>by
   refine wp_scope_straight (Yz ?_ (de hz hT hct hm hn ha x Q σ a w h hS));rintro e a' w' ⟨ex,σ',rfl,hq,hs⟩;cases ex with
   |normal=>exact⟨.normal,σ',rfl,hq,hs⟩
   |exit i=>exact⟨.exit i,σ',rfl,hq,hs⟩
   |ret=>exact⟨.ret,σ',rfl,hq,hs⟩
 | .rangeFunc _ _ _ _,Q,σ,a,w,h,hS=>h.elim
 | .label _,Q,σ,a,w,h,hS=>h.elim
 | .goto _,Q,σ,a,w,h,hS=>h.elim
 | .refuse _,Q,σ,a,w,h,hS=>h.elim
def PX (T:y9)(O:F1)(ts:List TypeId)(rvs:List ResultVar)(res:List DV):Ex->VS->Prop
 | .normal,σ=>D9 T O ts rvs σ res
 | .ret,σ=>D9 T O ts rvs σ res
 | .exit _,_=>False
def af {α:Type}{rel:α->Prop}{μ:α->Nat}{m:Nat}{le:α->Prop}(s:α)(h3:le s)(h1:rel s)(h2:μ s<m):∃ s,rel s/\μ s<m/\le s:=⟨s,h1,h2,h3⟩
end
end Go.V
namespace Go.V
def oY:L->L->Bool
 | .v (.int k _),.v (.int k' _)=>k==k'
 | .v (.bool _),.v (.bool _)=>true
 | .v (.string _),.v (.string _)=>true
 | .s sz _,.s sz' _=>sz==sz'
 |_,_=>false
def jZ:ax->ax->Bool
 |[],[]=>true
 |z::zs,x::xs=>oY z x&&jZ zs xs
 |_,_=>false
def Wf (z:ax)(es:ab):Prop:=∀ e∈es,jZ z e=true
def wX:∀ {z e:ax},jZ z e=true->e.length=z.length
 |[],[],_=>rfl
 |[],_::_,h=>by cases h
 |_::_,[],h=>by cases h
 | z::zs,x::xs,h=>by
   simp only[jZ,Zc]at h;simp[wX h.2]
def Dr:∀ (o:Nat) {z e:ax},jZ z e=true->jZ (z.drop o) (e.drop o)=true
 |0,z,e,h=>h
 |o+1,[],[],h=>by simp[jZ]
 |o+1,[],_::_,h=>by cases h
 |o+1,_::_,[],h=>by cases h
 | o+1,z::zs,x::xs,h=>by
   simp only[jZ,Zc]at h;exact Dr o h.2
def Ds:∀ (m:Nat) {z e:ax},jZ z e=true->jZ (z.take m) (e.take m)=true
 |0,z,e,h=>by simp[jZ]
 |m+1,[],[],h=>by simp[jZ]
 |m+1,[],_::_,h=>by cases h
 |m+1,_::_,[],h=>by cases h
 | m+1,z::zs,x::xs,h=>by
   simp only[jZ,Zc]at h;simp only[List.take_succ_cons,jZ,Zc];exact⟨h.1,Ds m h.2⟩
def Wf.at {z:ax}{es:ab}(h:Wf z es){n:Nat}(hn:n<es.length):jZ z (es.getD n [])=true:=by
 rw[Zn,Zr hn];exact h _ (List.getElem_mem hn)
def Wf.nil {z:ax}:Wf z []:=fun _ h=>by cases h
def Wf.cons {z e:ax}{es:ab}(h:jZ z e=true)(hs:Wf z es):Wf z (e::es):=by
 intro x hx;rcases Zk.1 hx with rfl|hx;exact h;exact hs x hx
def Wf.append {z:ax}{es fs:ab}(h:Wf z es)(hs:Wf z fs):Wf z (es++fs):=by
 intro x hx;rcases Zg.1 hx with hx|hx;exact h x hx;exact hs x hx
def Wf.take {z:ax}{es:ab}(h:Wf z es)(n:Nat):Wf z (es.take n):=fun x hx=>h x (List.mem_of_mem_take hx)
def Wf.drop {z:ax}{es:ab}(h:Wf z es)(n:Nat):Wf z (es.drop n):=fun x hx=>h x (List.mem_of_mem_drop hx)
def A5 {es:ab}{i:Int}{t:ax}:∀ {z:ax} {j:Nat} {rest:ax},jZ z rest=true->(es.getD i.toNat []).drop j=rest++t->mZ ah es i j z=rest
 |[],j,[],_,_=>rfl
 |[],_,_::_,h,_=>by cases h
 |_::_,_,[],h,_=>by cases h
 | z::zs,j,x::xs,h,e=>by
   simp only[jZ,Zc]at h;have hx:(es.getD i.toNat []).getD j .g=x:=by
    have:(es.getD i.toNat [])[j]?=some x:=by
     have:=congrArg (fun l:ax=>l[0]?) e
     simpa[Zy]using this
    rw[Zn,this];rfl
   have hr:(es.getD i.toNat []).drop (j+1)=xs++t:=by
    rw[<-Ye,e];rfl
   have ih:=A5 h.2 hr;cases z with
   | v z=>cases z with
     | int k n=>cases x with
       | v x=>cases x with
         | int k' n'=>
           have:k=k':=by simpa[oY]using h.1
           subst this;simp only[mZ,ih]
           congr 3
           exact(show ag es i j=_ by simp only[ag,hx,SX])
         |_=>simp[oY]at h
       |_=>simp[oY]at h
     | bool b=>cases x with
       | v x=>cases x with
         | bool b'=>
           simp only[mZ,ih]
           congr 3
           exact(show qO es i j=_ by simp only[qO,hx,lfB])
         |_=>simp[oY]at h
       |_=>simp[oY]at h
     | string b=>cases x with
       | v x=>cases x with
         | string b'=>
           simp only[mZ,ih]
           congr 3
           exact(show SA es i j=_ by simp only[SA,hx,lfT])
         |_=>simp[oY]at h
       |_=>simp[oY]at h
     |_=>simp[oY]at h
   | s sz es0=>cases x with
     | s sz' es'=>
       have:sz=sz':=by simpa[oY]using h.1
       subst this;simp only[mZ,ih]
       congr 2
       exact(show aw es i j=_ by simp only[aw,hx,LE])
     |_=>simp[oY]at h
   |g=>simp[oY]at h
   |m _ _=>simp[oY]at h
def oK {z:ax}{es:ab}{i:Int}(hr:Wf z es)(h0:0<=i)(h1:i<es.length):0<=i/\i<es.length/\es.getD i.toNat []=mZ ah es i 0 z:=
 ⟨h0,h1,(A5 (t:=[]) (hr.at Uc) (by simp)).symm⟩
def mK {sz:Nat}{es:ab}{n j:Nat}:bT (.s sz es) [(n,j)]=(es[n]?).map (·,j):=rfl
def IR {sz:Nat}{es:ab}{n j:Nat}:C7 (.s sz es) [(n,j)]=ag es n j:=by
 simp only[C7,Tv,ptI,ag,qO,SA,Ie,mK,ZA,Zn];cases es[n]? with
 |none=>rfl
 | some e=>
   simp only[Yf,Z0];cases e[j]? with
   |none=>rfl
   | some x=>cases x with
     |v x=>cases x<;>rfl
     |_=>rfl
def NY {sz:Nat}{es:ab}{n j:Nat}:Tv (.s sz es) [(n,j)]=qO es n j:=by
 simp only[C7,Tv,ptI,ag,qO,SA,Ie,mK,ZA,Zn];cases es[n]? with
 |none=>rfl
 | some e=>
   simp only[Yf,Z0];cases e[j]? with
   |none=>rfl
   | some x=>cases x with
     |v x=>cases x<;>rfl
     |_=>rfl
def ab3 {sz:Nat}{es:ab}{n j:Nat}:ptI (.s sz es) [(n,j)]=SA es n j:=by
 simp only[C7,Tv,ptI,ag,qO,SA,Ie,mK,ZA,Zn];cases es[n]? with
 |none=>rfl
 | some e=>
   simp only[Yf,Z0];cases e[j]? with
   |none=>rfl
   | some x=>cases x with
     |v x=>cases x<;>rfl
     |_=>rfl
def ab2 {sz:Nat}{es:ab}{n j:Nat}:vy (.s sz es) [(n,j)]=aw es n j:=by
 simp only[vy,aw,lz,mK,ZA,Zn];cases es[n]? with
 |none=>rfl
 | some e=>
   simp only[Yf,Z0];cases e[j]? with
   |none=>rfl
   |some x=>cases x<;>rfl
def Q9:ah.pi=C7:=rfl
def Q8:ah.pb=Tv:=rfl
def Rb:ah.pt=ptI:=rfl
def Ra:ah.ps=vy:=rfl
def Q5:ah.gi=ag:=rfl
def Q4:ah.gb=qO:=rfl
def Q7:ah.gt=SA:=rfl
def Q6:ah.gs=aw:=rfl
def Gx {sz:Nat}{es:ab}{n o:Nat}:∀ {z:ax} {j:Nat},oB ah (.s sz es) [(n,o)] j z=mZ ah es n (o+j) z
 |[],j=>rfl
 | z::zs,j=>by
   have ih:oB ah (.s sz es) [(n,o)] (j+1) zs=mZ ah es n (o+j+1) zs:=Gx;cases z with
   |v x=>cases x<;>simp only[oB,mZ,xE,Q9,Q8,Rb,Q5,Q4,Q7,IR,NY,ab3,ih]
   |s a b=>simp only[oB,mZ,xE,Ra,Q6,ab2,ih]
   |g=>simp only[oB,mZ,ih]
   |m _ _=>simp only[oB,mZ,ih]
def rM {z z0:ax}{sz:Nat}{es:ab}{n o:Nat}(hr:Wf z0 es)(hn:n<es.length)(hz:(z0.drop o).take z.length=z)(ho:o+z.length<=z0.length):
 ∃ rec o',bT (.s sz es) [(n,o)]=some (rec,o')/\o'+z.length<=rec.length/\(rec.drop o').take z.length=oB ah (.s sz es) [(n,o)] 0 z:=by
 have hf:=hr.at hn;have e1:es[n]?=some (es.getD n []):=by rw[Zn,Zr hn];rfl
 refine⟨es.getD n [],o,by rw[mK,e1];rfl,?_,?_⟩
 ·rw[wX hf];exact ho
 ·have hf2:jZ z (((es.getD n []).drop o).take z.length)=true:=by
   have:=Ds z.length (Dr o hf);rw[hz]at this;exact this
  rw[Gx]
  symm
  exact A5 (t:=((es.getD n []).drop o).drop z.length) hf2 (by rw[Zi,ZA];exact(ZR _ _).symm)
end Go.V
namespace Go.V
inductive Ty where
 |int (k:IntKind)
 |bool
 |str
 |sl (fs:List Ty)
mutual
def dn:Ty->L->Prop
 | .int k,.v (.int k' n)=>k'=k/\k.has n
 | .bool,.v (.bool _)=>True
 | .str,.v (.string s)=>s.size<=maxLen
 | .sl fs,.s sz es=>sz=fs.length/\es.length<=maxLen/\∀ e∈es,bW fs e
 |_,_=>False
def bW:List Ty->ax->Prop
 |[],[]=>True
 |t::ts,l::ls=>dn t l/\bW ts ls
 |_,_=>False
end
def shape (P:Program):Nat->TypeId->Option (List Ty)
 |0,_=>none
 | k+1,t=>
   let r:Option (List Ty):=match P.underlying t with
    |some (.int kd)=>some [.int kd]
    |some .bool=>some [.bool]
    |some .string=>some [.str]
    | some (.slice e)=>match shape P k e with
      |some (f::fs)=>if P.cellsOf e=(f::fs).length then some [.sl (f::fs)]else none
      |_=>none
    | some (.struct fs)=>(fs.toList.foldl (fun acc fd=>match acc,shape P k fd.type with
       |some acc,some ts=>if fd.offset=acc.length/\P.cellsOf fd.type=ts.length then some (acc++ts)else none
       |_,_=>none) (some []))
    |_=>none
   match r with
   |some ts=>if P.cellsOf t=ts.length then some ts else none
   |none=>none
def ux:∀ {ts us:List Ty} {r s:ax},bW ts r->bW us s->bW (ts++us) (r++s)
 |[],us,[],s,_,h2=>h2
 |[],_,_::_,_,h,_=>by simp[bW]at h
 |_::_,_,[],_,h,_=>by simp[bW]at h
 | t::ts,us,l::ls,s,h,h2=>by
   simp only[bW,List.cons_append]at h ⊢;exact⟨h.1,ux h.2 h2⟩
section
variable {P: Program} {w: World}
def Ky {sz:Nat}{c:ax->Prop}:∀ (len:Nat) (l:List Value),l.length=len*sz->(∀ i,i<len->∃ rec S,ak w rec ((l.drop (i*sz)).take sz) S/\c rec)->
 ∃ es S,es.length=len/\bH w sz es l S/\∀ e∈es,c e
 |0,l,hl,_=>⟨[],[],rfl,by simp only[bH];exact⟨YS (by simpa using hl),trivial⟩,fun e h=>by cases h⟩
 | len+1,l,hl,h=>by
   obtain⟨rec,S,h1,h2⟩:=h 0 Uc;have hsz:sz<=l.length:=by rw[hl,Zs];omega
   obtain⟨es,T,k1,k2,k3⟩:=Ky (sz:=sz) (c:=c) len (l.drop sz) (by rw[Zz,hl,Zs];omega) (fun i hi=>by
    obtain⟨rec,S,h1,h2⟩:=h (i+1) Uc;refine⟨rec,S,?_,h2⟩;rw[Ye];rw[show sz+i*sz=(i+1)*sz from by rw[Zs];omega];exact h1)
   refine⟨rec::es,S++T,by simp[k1],?_,?_⟩
   ·simp only[bH];refine⟨l.take sz,l.drop sz,S,T,(ZR _ _).symm,by simp;omega,by simpa using h1,k2,rfl⟩
   ·intro e he;rcases Zk.1 he with rfl|he;exact h2;exact k3 e he
def AX {a:Addr}{n:Nat}{cs:List Value}(h:w.cells? 0 a n=some cs):cs.length=n/\∀ k,k<n->w.cell? (a.add k)=cs[k]?:=by
 unfold World.cells? at h;rw[VE (Ze _)]at h;have hl:=mapM_some_length h;refine⟨by simpa using hl,fun k hk=>mapM_some_get h k k (by simp[hk])⟩
def add_add' (a:Addr)(ha:a.spot=none)(i k:Nat):(a.add i).add k=⟨a.block,a.off+i+k,none⟩:=by
 obtain⟨b,o,s⟩:=a;simp only at ha;subst ha;unfold Addr.add;split<;>split<;>simp_all<;>omega
def te {α:Type}{f:Option (List Ty)->α->Option (List Ty)}(hf:∀ x,f none x=none):∀ (l:List α),l.foldl f none=none
 |[]=>rfl
 |x::l=>by rw[Wi,hf];exact te hf l
def wy {H:Type}{enc:TypeId×Value->H}:∀ (k:Nat) (t:TypeId) (ts:List Ty),shape P k t=some ts->∀ (fuel:Nat) (cs:List Value) (x:DataW H×List MemPlace),Xi enc P w 0 (fun _=>true) true fuel t cs=some x->
 ∃ rec S,ak w rec cs S/\bW ts rec
 |0,t,ts,hs,_,_,_,_=>by simp[shape]at hs
 |k+1,t,ts,hs,0,_,_,h=>by simp[Xi]at h
 | k+1,t,ts,hs,fuel+1,cs,x,h=>by
   simp only[shape]at hs;have hcell:P.cellsOf t=ts.length:=by
    split at hs
    ·rename_i r _;split at hs
     ·rename_i hc;cases hs;exact hc
     ·cases hs
    ·cases hs
   unfold Xi at h;cases hu:P.underlying t with
   |none=>simp[hu]at hs
   | some d=>
     simp only[hu]at hs h;cases d with
     | int kd=>
       have:ts=[.int kd]:=by
        simp only at hs;split at hs
        ·cases hs;rfl
        ·cases hs
       subst this
       match cs,h with
       | [.int k' n],h=>
         simp only at h;split at h
         ·rename_i hc;obtain⟨rfl,hwf⟩:=hc;simp only[Lit.wf,Zc,VD]at hwf;exact⟨[.v (.int k' n)],[],by simp[ak,bN,scal],by simp only[bW,dn];exact⟨⟨trivial,hwf⟩,trivial⟩⟩
         ·cases h
     | bool=>
       have:ts=[.bool]:=by
        simp only at hs;split at hs
        ·cases hs;rfl
        ·cases hs
       subst this
       match cs,h with
       |[.bool b],h=>exact⟨[.v (.bool b)],[],by simp[ak,bN,scal],by simp[bW,dn]⟩
     | string=>
       have:ts=[.str]:=by
        simp only at hs;split at hs
        ·cases hs;rfl
        ·cases hs
       subst this
       match cs,h with
       | [.string b],h=>
         simp only at h;split at h
         ·rename_i hc;exact⟨[.v (.string b)],[],by simp[ak,bN,scal],by simp only[bW,dn];exact⟨hc,trivial⟩⟩
         ·cases h
     | slice e=>
       simp only at hs;cases he:shape P k e with
       |none=>simp[he]at hs
       | some fs=>
         cases fs with
         |nil=>simp[he]at hs
         | cons f fs=>
           simp only[he]at hs;split at hs
           ·rename_i r hr;split at hr
            ·rename_i hce;cases hr;split at hs
             ·cases hs
              match cs,h with
              | [.slice none 0 0],h=>
                refine⟨[.s (f::fs).length []],[],?_,?_⟩
                ·simp only[ak,bN];exact⟨_,[],[],[],rfl,⟨none,0,0,rfl,rfl,Zf _,Ze _,.inl ⟨rfl,rfl⟩⟩,⟨rfl,rfl⟩,rfl⟩
                ·simp only[bW,dn];exact⟨⟨trivial,Ze _,fun e h=>by cases h⟩,trivial⟩
              | [.slice (some a) len cap],h=>
                simp only at h;split at h
                ·rename_i hb;obtain⟨_,hlc,hcm⟩:=hb;simp only[if_true,ZB,XS]at h;obtain⟨elems,hel,rest,hrest,_⟩:=h;have hsz:P.cellsOf e=(f::fs).length:=hce;have hszp:0<P.cellsOf e:=by rw[hsz];simp
                 have hat:∀ i,i<cap->∃ ci y,w.cells? 0 (a.add (i*P.cellsOf e)) (P.cellsOf e)=some ci/\Xi enc P w 0 (fun _=>true) true fuel e ci=some y:=by
                  intro i hi;rcases ZY i len with c|c
                  ·have:=mapM_some_get hel i i (Y7 c);have hl:=mapM_some_length hel;simp only[Xm]at hl;rw[Zr Uc]at this;simp only[XS]at this;obtain⟨ci,h1,h2⟩:=this;exact⟨ci,_,h1,h2⟩
                  ·have:=mapM_some_get hrest (i-len) (i-len) (Y7 Uc);have hl:=mapM_some_length hrest;simp only[Xm]at hl;rw[Zr Uc]at this;simp only[XS]at this;obtain⟨ci,h1,h2⟩:=this;rw[show len+(i-len)=i from by omega]at h1;exact⟨ci,_,h1,h2⟩
                 by_cases hc0:cap=0
                 ·subst hc0;have:len=0:=by omega
                  subst this;refine⟨[.s (f::fs).length []],[],?_,?_⟩
                  ·simp only[ak,bN];exact⟨_,[],[],[],rfl,⟨some a,0,0,rfl,rfl,Zf _,Ze _,.inl ⟨rfl,rfl⟩⟩,⟨rfl,rfl⟩,rfl⟩
                  ·simp only[bW,dn];exact⟨⟨trivial,Ze _,fun e h=>by cases h⟩,trivial⟩
                 ·obtain⟨c0,y0,z1,z2⟩:=hat 0 Uc;have z3:=(AX z1).2 0 hszp;have hz4:∃ v,w.cell? a=some v:=by
                   rw[Nat.zero_mul]at z3;have:(a.add 0).add 0=a:=rfl;rw[this]at z3;rw[z3];have:=(AX z1).1;exact⟨_,Zr Uc⟩
                  obtain⟨v0,hv0⟩:=hz4;have hblk:∃ cur ty fz,w.heap[a.block]?=some (.cells cur ty fz)/\a.spot=none:=by
                   unfold YJ at hv0;split at hv0
                   ·rename_i cur ty fz hh;refine⟨cur,ty,fz,hh,?_⟩;cases hsp:a.spot with
                    |none=>rfl
                    |some s=>simp[hsp]at hv0
                   ·cases hv0
                  obtain⟨cur,ty,fz,hh,hsp⟩:=hblk;have hcellat:∀ j,w.cell? ⟨a.block,j,none⟩=cur[j]?:=by
                   intro j;unfold YJ;simp[hh]
                  have hel2:∀ i,i<cap->∃ ci y,ci.length=P.cellsOf e/\(∀ kk,kk<P.cellsOf e->cur[a.off+i*P.cellsOf e+kk]?=ci[kk]?)/\Xi enc P w 0 (fun _=>true) true fuel e ci=some y:=by
                   intro i hi;obtain⟨ci,y,h1,h2⟩:=hat i hi;obtain⟨h3,h4⟩:=AX h1;refine⟨ci,y,h3,fun kk hkk=>?_,h2⟩;rw[<-h4 kk hkk,add_add' a hsp,hcellat]
                  have hfit:a.off+cap*P.cellsOf e<=cur.size:=by
                   obtain⟨ci,y,h1,h2,_⟩:=hel2 (cap-1) Uc;have:=h2 (P.cellsOf e-1) Uc;rw[Zr Uc]at this;have hlt:=(ZE.1 this).1;have:cap*P.cellsOf e=(cap-1)*P.cellsOf e+P.cellsOf e:=by
                    rw[<-Wj];congr 1;omega
                   omega
                  have hle:len*P.cellsOf e<=cap*P.cellsOf e:=Z4 _ hlc;obtain⟨es,S,k1,k2,k3⟩:=Ky (w:=w) (sz:=P.cellsOf e) (c:=bW (f::fs)) len ((cur.toList.drop a.off).take (len*P.cellsOf e)) (by simp only[List.length_take,Zz,Array.length_toList];omega) (fun i hi=>by
                   obtain⟨ci,y,h1,h2,h3⟩:=hel2 i Uc;obtain⟨rec,S,r1,r2⟩:=wy k e (f::fs) he fuel ci y h3;refine⟨rec,S,?_,r2⟩;have:(((cur.toList.drop a.off).take (len*P.cellsOf e)).drop (i*P.cellsOf e)).take (P.cellsOf e)=ci:=by
                    apply List.ext_getElem?;intro kk;have hii:(i+1)*P.cellsOf e<=len*P.cellsOf e:=Z4 _ hi;rw[Wj]at hii;simp only[List.getElem?_take,Zy];by_cases ck:kk<P.cellsOf e
                    ·rw[VE ck,VE Uc, <-h2 kk ck,Z1];congr 1;omega
                    ·rw[VF ck,ZV Uc]
                   rw[this];exact r1)
                  refine⟨[.s (f::fs).length es],a.block::S,?_,?_⟩
                  ·simp only[ak,bN];refine⟨_,[],a.block::S,[],rfl,⟨some a,len,cap,rfl,k1.symm,hlc,hcm,.inr ⟨a.block,a.off,cur,ty,fz,S,?_,hh,by rw[<-hsz];exact hfit,by rw[<-hsz];exact k2,rfl⟩⟩,⟨rfl,rfl⟩,by simp⟩;obtain⟨b,o,s⟩:=a;simp only at hsp;subst hsp;rfl
                  ·simp only[bW,dn];exact⟨⟨trivial,Uc,k3⟩,trivial⟩
                ·cases h
             ·cases hs
            ·cases hr
           ·cases hs
     | struct fs=>
       simp only at hs;generalize hfold:(fs.toList.foldl (fun acc fd=>match acc,shape P k fd.type with
        |some acc,some ts=>if fd.offset=acc.length/\P.cellsOf fd.type=ts.length then some (acc++ts)else none
        |_,_=>none) (some []))=r at hs
       cases r with
       |none=>cases hs
       | some ts0=>
         simp only at hs;by_cases hc0:P.cellsOf t=ts0.length
         case neg=>rw[VF hc0]at hs;cases hs
         rw[VE hc0]at hs;cases hs;simp only at h;split at h
         ·rename_i hcl;simp only[ZB]at h;obtain⟨xs,hxs,_⟩:=h;have key:∀ (l:List Field) (acc:List Ty) (xs:List (DataW H×List MemPlace)),l.foldl (fun acc fd=>match acc,shape P k fd.type with
           |some acc,some ts=>if fd.offset=acc.length/\P.cellsOf fd.type=ts.length then some (acc++ts)else none
           |_,_=>none) (some acc)=some ts->l.mapM (fun f=>Xi enc P w 0 (fun _=>true) true fuel f.type ((cs.drop f.offset).take (P.cellsOf f.type)))=some xs->
           ∃ tl,ts=acc++tl/\∃ rec S,ak w rec ((cs.drop acc.length).take tl.length) S/\bW tl rec:=by
           intro l
           induction l with
           |nil=>intro acc xs h _;simp only[List.foldl_nil,Ya]at h;exact⟨[],by simp[h],[],[],by simp[ak],by simp[bW]⟩
           | cons fd l ih=>
             intro acc xs h hm;rw[Wi]at h;cases hsf:shape P k fd.type with
             |none=>simp only[hsf]at h;rw[te (fun _=>rfl)]at h;cases h
             | some us=>
               simp only[hsf]at h;by_cases hc:fd.offset=acc.length/\P.cellsOf fd.type=us.length
               ·rw[VE hc]at h;simp only[List.mapM_cons,Option.bind_eq_bind,XS]at hm;obtain⟨y,hy,ys,hys,_⟩:=hm;obtain⟨tl,e1,rec,S,r1,r2⟩:=ih (acc++us) ys h hys;obtain⟨rec0,S0,q1,q2⟩:=wy k fd.type us hsf fuel _ y hy;refine⟨us++tl,by rw[e1,List.append_assoc],rec0++rec,S0++S,?_,ux q2 r2⟩;have e2:(cs.drop acc.length).take (us++tl).length=(cs.drop fd.offset).take (P.cellsOf fd.type)++(cs.drop (acc++us).length).take tl.length:=by
                 rw[hc.1,hc.2,Zh,Zh,List.take_add,Ye]
                rw[e2];exact q1.append r1
               ·rw[VF hc]at h;rw[te (fun _=>rfl)]at h;cases h
          obtain⟨tl,e1,rec,S,r1,r2⟩:=key fs.toList [] xs hfold hxs;simp only[ZJ]at e1;subst e1;refine⟨rec,S,?_,r2⟩;rw[hcell]at hcl
          simpa[<-hcl]using r1
         ·cases h
     |_=>simp at hs
end
end Go.V
namespace Go.V
open Go.ChangeShapes Go.WideShapes Go.ChangeAt Go.RowKit
def Ju:Bool->ax->DV
 |true,rec=>.agg rec
 |false,[l]=>.one l
 |false,rec=>.agg rec
def Er:List (Bool×List Ty)->ab->List DV
 |(b,_)::sh,r::rs=>Ju b r::Er sh rs
 |_,_=>[]
def Gt:List (Bool×List Ty)->ab->Prop
 |[],[]=>True
 |(_,ts)::sh,r::rs=>bW ts r/\Gt sh rs
 |_,_=>False
def GJ (P:Program)(t:TypeId):Bool:=match P.underlying t with
 |some (.struct _)=>true
 |_=>false
def FA (P:Program)(t:TypeId):Option (Bool×List Ty):=(shape P 12 t).map (GJ P t, ·)
section
variable {P: Program} {w: World} {H: Type} {enc: TypeId × Value -> H}
def Oa {t:TypeId}{b:Bool}{ts:List Ty}(hs:FA P t=some (b,ts)){base:Nat}{v:Value}(hok:YO P w .any base t v){d:DataW H}{ps:List MemPlace} 
 (h:DataW.Trod enc P w 0 (fun _=>true) true t v d ps):∃ rec S,bW ts rec/\pw w (Ju b rec) v S:=by
 unfold FA at hs;cases hsh:shape P 12 t with
 |none=>simp[hsh]at hs
 | some ts'=>
   simp only[hsh,Yf,Ya,XH]at hs;obtain⟨hb,rfl⟩:=hs;obtain⟨fuel,h⟩:=h;obtain⟨rec,S,h1,h2⟩:=wy _ _ _ hsh _ _ _ h;refine⟨rec,S,h2,?_⟩;unfold GJ at hb;cases hu:P.underlying t with
   |none=>simp[shape,hu]at hsh
   | some ud=>
     have hcell:∀ (hv:v.cells= #[v]) (hbf:b=false),∃ l,rec=[l]/\pw w (Ju b rec) v S:=by
      intro hv hbf;rw[hv]at h1;have hl:=h1.length;simp only[Zp,Zt]at hl;obtain⟨l,rfl⟩:=List.length_eq_one_iff.1 hl.symm;refine⟨l,rfl,?_⟩;simp only[ak]at h1;obtain⟨v',vs',S1,S2,e,q1,⟨rfl,rfl⟩,rfl⟩:=h1;simp at e;obtain⟨rfl,_⟩:=e;rw[hbf]
      simpa[Ju,pw]using q1
     cases ud with
     | struct fs=>
       simp only[hu]at hb;subst hb;simp only[YO,hu]at hok;obtain⟨cs,rfl,_,_⟩:=hok;exact⟨cs.toList,by simp,h1⟩
     | int k=>
       simp only[YO,hu,XT,XU]at hok;split at hok<;>first|exact hok.elim|skip
       all_goals first|(obtain⟨l,rfl,h3⟩:=hcell rfl (by simpa[hu]using hb.symm);exact h3)|(rename_i hx _;cases hx)
     | bool=>
       simp only[YO,hu,XT,XU]at hok;split at hok<;>first|exact hok.elim|skip
       all_goals first|(obtain⟨l,rfl,h3⟩:=hcell rfl (by simpa[hu]using hb.symm);exact h3)|(rename_i hx _;cases hx)
     | string=>
       simp only[YO,hu,XT,XU]at hok;split at hok<;>first|exact hok.elim|skip
       all_goals first|(obtain⟨l,rfl,h3⟩:=hcell rfl (by simpa[hu]using hb.symm);exact h3)|(rename_i hx _;cases hx)
     | slice e=>
       simp only[YO,hu,XT,XU]at hok;split at hok<;>first|exact hok.elim|skip
       all_goals first|(obtain⟨l,rfl,h3⟩:=hcell rfl (by simpa[hu]using hb.symm);exact h3)|(rename_i hx _;cases hx)
     |_=>simp[shape,hu]at hsh
def pw.arg {d:DV}{v:Value}{S:List Nat}(h:pw w d v S):qP w d v S:=by
 cases d with
 |one l=>exact h
 |agg l=>exact h
 |_=>exact h.elim
def DY:∀ (ts:List TypeId) (sh:List (Bool×List Ty)) (vs:List Value) (ds:List (DataW H)) (ps:List MemPlace) (base:Nat),(ts.map (FA P))=sh.map some->
 (∀ (j:Nat) t v,ts[j]?=some t->vs[j]?=some v->YO P w .any base t v)->XV enc P w 0 (fun _=>true) true ts vs ds ps->
 ∃ recs,Gt sh recs/\gR (fun _=>True) w (Er sh recs) vs
 | [],[],vs,ds,ps,base,_,_,h=>by
   obtain⟨rfl,rfl,rfl⟩:=trodAll_nil h;exact⟨[],trivial,rfl⟩
 |[],_::_,_,_,_,_,h,_,_=>by simp at h
 |_::_,[],_,_,_,_,h,_,_=>by simp at h
 | t::ts,(b,us)::sh,vs,ds,ps,base,hsh,hok,h=>by
   simp only[ZT,Yg]at hsh;obtain⟨v,vs',d,ds',p,q,rfl,rfl,rfl,h1,h2⟩:=trodAll_cons h;obtain⟨rec,S,r1,r2⟩:=Oa hsh.1 (hok 0 t v rfl rfl) h1;obtain⟨recs,k1,k2⟩:=DY ts sh vs' ds' q base hsh.2 (fun j t' v' e1 e2=>hok (j+1) t' v' (by simpa using e1) (by simpa using e2)) h2;exact⟨rec::recs,⟨r1,k1⟩,v,vs',S,rfl,r2.arg,fun _ _=>trivial,k2⟩
def Same.below {w w':World}(h:Same (fun _=>True) w w'):Below w.heap.size w w':=⟨h.os,h.tape,h.output,h.size,fun k hk=>h.block k hk trivial⟩
def Same.keptBut {w w':World}(h:Same (fun _=>True) w w')(may:MemPlace->Prop):w.keptBut w' may:=by
 refine⟨h.os,h.output,fun i hi=>?_⟩;rw[h.block i hi trivial];cases w.heap[i]? with
 |none=>rfl
 | some o=>cases o with
   |cells c t fr=>exact⟨rfl,rfl,rfl,fun _ _=>rfl⟩
   |map es clock=>exact .inr ⟨rfl,rfl⟩
   |_=>rfl
def sV {w':World}(hl:laidOutB P=true)(hb:Below w.heap.size w w'):∀ (ts:List TypeId) (vs:List Value) (ds:List (DataW H)) (ps:List MemPlace),(ts.all fun t=>P.readableRec t&&decide (t<P.types.size))=true->
 XV enc P w 0 (fun _=>true) true ts vs ds ps->(∀ x∈ps,x.block<w.heap.size)->XV enc P w' 0 (fun b=>decide (b<w.heap.size)) true ts vs ds ps
 | [],vs,ds,ps,_,h,_=>by
   obtain⟨rfl,rfl,rfl⟩:=trodAll_nil h;exact trodAll_mk0
 | t::ts,vs,ds,ps,hr,h,hlt=>by
   obtain⟨v,vs',d,ds',p,q,rfl,rfl,rfl,h1,h2⟩:=trodAll_cons h;simp only[List.all_cons,Zc,VD]at hr;exact⟨p,q,Below.trod hl hr.1.1 hr.1.2 h1 hb (fun x hx=>hlt x (by simp[hx])),sV hl hb ts vs' ds' q (by simpa using hr.2) h2 (fun x hx=>hlt x (by simp[hx])),rfl⟩
def K6 {f:FuncId}{fn:Func}{s:ChangeSpec}{sh:List (Bool×List Ty)}{tb:TypeId}(hvars:s.vars=[])(hspec:∀ ds:List (DataW H),ds.length=fn.params.toList.length->s.fn H (ds++[])=⟨[.lit (.bool true)],ds,[]⟩) 
 (hrt:fn.resultTypes= #[tb]) (htb:P.underlying tb=some .bool) (hl:laidOutB P=true) (hread:(fn.params.toList.all fun t=>P.readableRec t&&decide (t<P.types.size))=true)
 (hsh:fn.params.toList.map (FA P)=sh.map some) (hctr:∀ recs,Gt sh recs->LI P f (Er sh recs) [.k true])
 {base:Nat} {args:Array Value} {ds gs:List (DataW H)} {before:List MemPlace} (hval:∀ (j:Nat) t v,fn.params[j]?=some t->args[j]?=some v->YO P w .any base t v)
 (hW:DataW.Whole enc P fn.params.toList s.vars false w args.toList ds gs before):
 Calls P f args w fun e w'=>∃ v,e=.returned v/\s.post enc P fn false true false false w args v w':=by
 have hW':=hW;obtain⟨p,q,hA,hV,rfl,hfz,hnd⟩:=hW;rw[hvars]at hV;obtain⟨rfl,rfl⟩:=trodVars_none hV;obtain⟨recs,h1,h2⟩:=DY fn.params.toList sh args.toList ds p base hsh (fun j t v e1 e2=>hval j t v (by simpa using e1) (by simpa using e2)) hA;have hc:=hctr recs h1 w args.toList h2;rw[Array.toArray_toList]at hc;refine hc.mono ?_;rintro e w' ⟨v,S,rfl,hr,_,_,hsame⟩;simp only[lK,pw,bN]at hr;obtain⟨rfl,_,_⟩:=hr;have hlen:∀ (ts:List TypeId) (vs:List Value) (ds:List (DataW H)) (ps:List MemPlace),XV enc P w 0 (fun _=>true) true ts vs ds ps->ds.length=ts.length:=by
  intro ts
  induction ts with
  |nil=>intro vs ds ps h;obtain⟨_,rfl,_⟩:=trodAll_nil h;rfl
  |cons t ts ih=>intro vs ds ps h;obtain⟨v,vs',d,ds',p,q,rfl,rfl,rfl,_,h2⟩:=trodAll_cons h;simp[ih _ _ _ h2]
 have e1:s.fn H (ds++[])=⟨[.lit (.bool true)],ds,[]⟩:=hspec ds (hlen _ _ _ _ hA);refine⟨_,rfl,ds,[],p++[],[],p,[],hW',?_,?_,?_,hsame.keptBut _,fun h=>by cases h⟩
 ·rw[e1,hrt];exact trodAll_mk1 (shut_bool htb true)
 ·rw[e1];exact sV hl hsame.below _ _ _ _ hread hA (fun x hx=>hW'.lt x (by simpa using hx))
 ·rw[e1,hvars];rfl
end
end Go.V
namespace Go.V
def bD {a b:Int}(h: -9223372036854775808<=a+b/\a+b<=9223372036854775807):bK .add Za a b=a+b:=YZ _ h
def dp {a b:Int}(h: -9223372036854775808<=a-b/\a-b<=9223372036854775807):bK .sub Za a b=a-b:=YZ _ h
def eT {i:Int}{n:Nat}(h0:0<=i)(h1:i<n)(hn:n<=4611686018427387904):bK .add Za i 1=i+1:=bD Uc
def fB {α:Type}{es:List α}{d:α}{i:Nat}(hi:i<es.length):es.take (i+1)=es.take i++[es.getD i d]:=by
 rw[List.take_succ_eq_append_getElem hi,Zn,Zr hi];rfl
def cE (es:ab)(z:ax)(i:Nat):ab:=es.take i++ZM (es.length-i) z
def dE {es:ab}{z:ax}:cE es z 0=ZM es.length z:=by simp[cE]
def Dm {es:ab}{z:ax}:cE es z es.length=es:=by simp[cE]
def lr {es:ab}{z:ax}{i:Nat}(hi:i<=es.length):(cE es z i).length=es.length:=by simp[cE];omega
def Dn {es:ab}{z:ax}{i:Nat}(hi:i<es.length):(cE es z i).set i (es.getD i [])=cE es z (i+1):=by
 unfold cE;rw[fB (d:=[]) hi,List.set_append_right _ _ (by simp;omega)];have:(es.take i).length=i:=by simp;omega
 rw[this,Y4];rw[show es.length-i=(es.length- (i+1))+1 from by omega,List.replicate_succ,List.set_cons_zero];simp
def pO {es:ab}{z:ax}{i:Nat}(hi:i<es.length):(cE es z i).getD i []=z:=by
 unfold cE;have:(es.take i).length=i:=by simp;omega
 rw[Zn,ZX Uc,this,Y4,List.getElem?_replicate];rw[VE Uc];rfl
def sx {sz:Nat}{es:ab}{n:Nat}{new:ax}(h:(es.getD n []).length=new.length):vk (.s sz es) [(n,0)] new=es.set n new:=by
 simp only[vk,mR,rowOf,List.take_zero,ZJ,Zx];rw[List.drop_of_length_le Uc,Yb]
def il {sz:Nat}{es:ab}{n o m:Nat}(hn:n<es.length)(hl:o+m<=(es.getD n []).length):∃ rec o',bT (.s sz es) [(n,o)]=some (rec,o')/\o'+m<=rec.length:=by
 refine⟨es.getD n [],o,?_,hl⟩;rw[mK,Zn,Zr hn];rfl
def am {z:ax}{es:ab}{i:Int}(hr:Wf z es)(h0:0<=i)(h1:i<es.length):mZ ah es i 0 z=es.getD i.toNat []:=(oK hr h0 h1).2.2.symm
def Pu {a b:Int}:(cM .eql a b=true)↔a=b:=by simp[cM]
def Ps {a b:Int}:(cM .eql a b=false)↔a≠b:=by simp[cM]
def PG {a b:Int}:(cM .neq a b=true)↔a≠b:=by simp[cM]
def PF {a b:Int}:(cM .neq a b=false)↔a=b:=by simp[cM]
def PE {a b:Int}:(cM .lss a b=true)↔a<b:=by simp[cM]
def PD {a b:Int}:(cM .lss a b=false)↔b<=a:=by simp[cM]
def PC {a b:Int}:(cM .leq a b=true)↔a<=b:=by simp[cM]
def Pz {a b:Int}:(cM .leq a b=false)↔b<a:=by simp[cM]
def Py {a b:Int}:(cM .gtr a b=true)↔b<a:=by simp[cM]
def Px {a b:Int}:(cM .gtr a b=false)↔a<=b:=by simp[cM]
def Pw {a b:Int}:(cM .geq a b=true)↔b<=a:=by simp[cM]
def Pv {a b:Int}:(cM .geq a b=false)↔a<b:=by simp[cM]
def ag2 {b:Bool}:(L4 b=true)↔b=false:=by cases b<;>simp[L4]
def ag1 {b:Bool}:(L4 b=false)↔b=true:=by cases b<;>simp[L4]
def L8 {a b:Bool}:(F2 .eql a b=true)↔a=b:=by simp[F2]
def L6 {a b:Bool}:(F2 .eql a b=false)↔a≠b:=by simp[F2]
def Ma {a b:Bool}:(F2 .neq a b=true)↔a≠b:=by simp[F2]
def L9 {a b:Bool}:(F2 .neq a b=false)↔a=b:=by simp[F2]
def az {i:Int}:adI 0 i=i.toNat:=Zx _
def qJ {n b:Nat}(h:n*b<=70368744177664)(hn:n<=70368744177664):0<=ziI n/\ziI n<=ziI n/\ziI n*(b:Int)<=70368744177664/\ziI n<=70368744177664:=by
 unfold ziI;refine⟨Uc,Uc,?_,Uc⟩;rw[<-Int.natCast_mul];omega
def nc {n:Nat}:(VA n:Int)=Int.ofNat n:=rfl
def sa {es:ab}:BO es 0 es.length=es:=by simp[BO]
end Go.V
namespace Go.V
def pU:Nat->ax->List Hv
 |_,[]=>[]
 | i,l::ls=>match l with
   | .s sz es=>⟨0,0,some i,.own (.s sz es)⟩::pU (i+1) ls
   | .v x=>⟨0,0,none,.own (.v x)⟩::pU i ls
   | .g=>⟨0,0,none,.own .g⟩::pU i ls
   | .m kb es=>⟨0,0,none,.own (.m kb es)⟩::pU i ls
def E2 (O:F1):Nat->Nat->List DV->List W
 |_,_,[]=>[]
 |p,i,d::ds=>.root p false (pU i (aR d)):: .reg p (G6 O p 0 d)::E2 O (p+1) (i+(slL (aR d)).length) ds
def Dz (O:F1)(ds:List DV):VS:=push [] (E2 O 0 0 ds)
def Kl {α:Type}(pr:(Unit->Prop)->Prop)(os:Nat->L):List (Nat×Nat)->Nat->Rd α->Rd α
 |[],_,k=>k
 | (r,j)::ps,i,k=>ig r j fun h=>match h.org with
  | some i'=>if ZK i' i then match h.c with
    | .own (.s sz es)=>.req (pr fun _=>L.s sz es=os i) (Kl pr os ps (i+1) k)
    |_=>.fail
    else .fail
  |none=>.fail
def D8 (T:y9)(O:F1)(ts:List TypeId)(rvs:List ResultVar)(locs:List (Nat×Nat))(σ:VS)(res:List DV)(outs:Nat->L):Prop:=
 (BG T O ts rvs fun ds srcs=>if bp (srcs++locs)then .req (O.pr fun _=>ds=res) (Kl O.pr outs locs 0 (.ret ()))else .fail).wpU (get σ) [] fun _ _=>True
def PW (T:y9)(O:F1)(ts:List TypeId)(rvs:List ResultVar)(locs:List (Nat×Nat))(res:List DV)(outs:Nat->L):Ex->VS->Prop
 | .normal,σ=>D8 T O ts rvs locs σ res outs
 | .ret,σ=>D8 T O ts rvs locs σ res outs
 | .exit _,_=>False
section
variable {P: Program} {cx: Cx} {G: Gh} {g: Gm} {a: Act} {w: World}
def uN:∀ {ls:ax} {vs:List Value} {i:Nat},vs.length=ls.length->(∀ k v,(FB ls vs)[k]?=some v->cx.anc (i+k)=v)->∀ (j:Nat) (h:Hv),(pU i ls)[j]?=some h->
 ∃ l v og,ls[j]?=some l/\vs[j]?=some v/\h=⟨0,0,og,.own l⟩/\fg cx h.c h.org v
 |[],vs,i,_,_,j,h,e=>by simp[pU]at e
 |l::ls,[],i,hl,_,j,h,e=>by simp at hl
 | l::ls,v::vs,i,hl,ha,j,h,e=>by
   cases l with
   | s sz es=>
     simp only[pU]at e;cases j with
     | zero=>
       simp at e;subst e;refine⟨_,v,some i,rfl,rfl,rfl,fun k hk=>?_⟩;cases hk;exact(ha 0 v (by simp[FB])).symm
     | succ j=>
       obtain⟨l,v',og,e1,e2,e3,e4⟩:=uN (ls:=ls) (vs:=vs) (i:=i+1) (by simpa using hl) (fun k v hk=>by rw[show i+1+k=i+(k+1)from by omega];exact ha (k+1) v (by simpa[FB]using hk)) j h (by simpa using e);exact⟨l,v',og,by simpa using e1,by simpa using e2,e3,e4⟩
   | v x=>
     simp only[pU]at e;cases j with
     |zero=>simp at e;subst e;exact⟨_,v,none,rfl,rfl,rfl,fg.none⟩
     | succ j=>
       obtain⟨l,v',og,e1,e2,e3,e4⟩:=uN (ls:=ls) (vs:=vs) (i:=i) (by simpa using hl) (fun k v hk=>ha k v (by simpa[FB]using hk)) j h (by simpa using e);exact⟨l,v',og,by simpa using e1,by simpa using e2,e3,e4⟩
   | g=>
     simp only[pU]at e;cases j with
     |zero=>simp at e;subst e;exact⟨_,v,none,rfl,rfl,rfl,fg.none⟩
     | succ j=>
       obtain⟨l,v',og,e1,e2,e3,e4⟩:=uN (ls:=ls) (vs:=vs) (i:=i) (by simpa using hl) (fun k v hk=>ha k v (by simpa[FB]using hk)) j h (by simpa using e);exact⟨l,v',og,by simpa using e1,by simpa using e2,e3,e4⟩
   | m kb es=>
     simp only[pU]at e;cases j with
     |zero=>simp at e;subst e;exact⟨_,v,none,rfl,rfl,rfl,fg.none⟩
     | succ j=>
       obtain⟨l,v',og,e1,e2,e3,e4⟩:=uN (ls:=ls) (vs:=vs) (i:=i) (by simpa using hl) (fun k v hk=>ha k v (by simpa[FB]using hk)) j h (by simpa using e);exact⟨l,v',og,by simpa using e1,by simpa using e2,e3,e4⟩
def K8 {ls:ax}{i j:Nat}{l:L}(h:ls[j]?=some l):∃ og,(pU i ls)[j]?=some ⟨0,0,og,.own l⟩:=by
 induction ls generalizing i j with
 |nil=>simp at h
 | cons x ls ih=>
   cases j with
   |zero=>simp at h;subst h;cases x<;>exact⟨_,rfl⟩
   | succ j=>
     simp at h;cases x with
     |s sz es=>obtain⟨og,e⟩:=ih (i:=i+1) h;exact⟨og,by simpa[pU]using e⟩
     |v y=>obtain⟨og,e⟩:=ih (i:=i) h;exact⟨og,by simpa[pU]using e⟩
     |g=>obtain⟨og,e⟩:=ih (i:=i) h;exact⟨og,by simpa[pU]using e⟩
     |m _ _=>obtain⟨og,e⟩:=ih (i:=i) h;exact⟨og,by simpa[pU]using e⟩
def qg:∀ {ls:ax} {vs:List Value},vs.length=ls.length->(FB ls vs).length=(slL ls).length
 |[],[],_=>rfl
 |[],_::_,h=>by simp at h
 |_::_,[],h=>by simp at h
 | l::ls,v::vs,h=>by
   have ih:=qg (ls:=ls) (vs:=vs) (by simpa using h);cases l<;>simp[FB,slL,ih]
def N7 {a:Act}{p:Nat}{v:Value}(hp:p<a.tmps.size)(h:a.tmps.getD p undef=v):a.put (some p) v=a:=by
 obtain⟨t,d⟩:=a;simp only[YK]at*
 congr 1
 apply Array.ext_getElem?;intro i;rw[Array.getElem?_setIfInBounds];by_cases e:p=i
 ·subst e;rw[VE rfl,VE hp];rw[<-h,Yt,Xf hp];rfl
 ·rw[VF e]
def Bg:∀ (ds:List DV) (p i:Nat) (vs:List Value) (S:List Nat) (g:Gm) (G:Gh),aO cx G g a w->(∀ r,p<=r->g (.meta_ r)=none)->bU w ds vs S->S.Nodup->
 (∀ b∈S,eV w b/\G.ow b=some (.leaf cx.n 0))->p+ds.length<=cx.n->(∀ k v,vs[k]?=some v->a.tmps.getD (p+k) undef=v)->(∀ k v,(dj ds vs)[k]?=some v->cx.anc (i+k)=v)->
 fC cx (aT g (E2 ah p i ds)) a w
 |[],p,i,vs,S,g,G,hS,_,_,_,_,_,_,_=>⟨G,hS⟩
 | d::ds,p,i,vs,S,g,G,hS,hm,hr,hnd,htok,hn,hv,ha=>by
   simp only[bU]at hr;obtain⟨v,vs',S1,S2,rfl,h1,h2,rfl⟩:=hr;rw[List.nodup_append]at hnd;obtain⟨n1,n2,n3⟩:=hnd;obtain⟨lv,q1,q2,q3,q4⟩:∃ lv,ak w (aR d) lv S1/\(∀ dl,d=.one dl->lv=[v])/\(∀ dls,d=.agg dls->v=.agg lv.toArray)/\dj (d::ds) (v::vs')=FB (aR d) lv++dj ds vs':=by
    cases d with
    |one l=>exact⟨[v],by simp only[aR,ak];exact⟨v,[],S1,[],rfl,h1,⟨rfl,rfl⟩,by simp⟩,fun _ _=>rfl,(fun _ e=>by cases e),rfl⟩
    |agg ls=>obtain⟨us,rfl,h1'⟩:=h1;exact⟨us,h1',(fun _ e=>by cases e),(fun _ e=>by cases e;rfl),by simp[dj,aR]⟩
    |_=>exact h1.elim
   obtain⟨Ss,s1,s2,s3⟩:=q1.items;have hlen:=q1.length;have ha1:∀ k v,(FB (aR d) lv)[k]?=some v->cx.anc (i+k)=v:=by
    intro k u hk;refine ha k u ?_;rw[q4,Yd (ZF.1 hk).1];exact hk
   have hat:=fun j h=>uN (cx:=cx) (ls:=aR d) (vs:=lv) (i:=i) hlen ha1 j h
   have hnone:gl g cx.n 0=none:=by
    cases e:gl g cx.n 0 with
    |none=>rfl
    | some y=>
      obtain⟨_,k,bx,_,e2,_⟩:=hS.leaf cx.n 0 _ (av.1 e);rw[hm cx.n (by simp at hn;omega)]at e2;cases e2
   obtain⟨G',k1,k2,_,_,k5⟩:=hS.newRoot (hm p (Zf _)) false (pU i (aR d)) w (Same.refl _ _) (fun j=>lv.getD j undef) (fun j=>Ss.getD j [])
    (by
      intro j h hj;obtain⟨l,u,og,e1,e2,e3,_⟩:=hat j h hj;obtain⟨u',z1,z2⟩:=s3 j l e1;rw[e3];simp only[KS];refine⟨by simpa[Zv,z1]using z2,ie (by rw[s1];exact n1) j,fun b hb=>?_⟩;have:=htok b (Zg.2 (.inl (by rw[<-s1];exact eS hb)));exact⟨this.1,.inr ⟨cx.n,0,this.2,fun h l e=>by rw[hnone]at e;cases e⟩⟩)
    (by
      intro j h hj;obtain⟨l,u,og,e1,e2,e3,e4⟩:=hat j h hj;have:lv.getD j undef=u:=by simp[Zv,e2]
      rw[this];exact e4)
    (fun i j _ _ hij=>fF (by rw[s1];exact n1) i j hij) 0 0 (by simp)
   have hpn:p<cx.n:=by simp at hn;omega
   have hg:∀ j l,(aR d)[j]?=some l->∃ og,gl ((W.root p false (pU i (aR d))).app g) p (0+j)=some ⟨0,0,og,.own l⟩:=by
    intro j l e;obtain⟨og,e2⟩:=K8 (i:=i) e;exact⟨og,by simp[gl,W.app,e2]⟩
   have hrok:cW (gl ((W.root p false (pU i (aR d))).app g)) G' w (G5 p 0 d) v:=by
    refine Kx h1 hg ?_;intro lv' z1 z2 z3 j u e;have:lv'=lv:=by
     cases d with
     |one l=>rw[z2 l rfl,q2 l rfl]
     |agg ls=>have e1:=z3 ls rfl;rw[q3 ls rfl]at e1;simpa using e1.symm
     |_=>exact h1.elim
    subst this;rw[k2,Zx];simp[Zv,e]
   have hput:=k1.put hpn hrok;have hself:a.put (some p) v=a:=N7 (by rw[hS.tm];exact hpn) (by have:=hv 0 v (by simp);simpa using this);rw[hself]at hput;simp only[E2,aT,BH];refine Bg ds (p+1) _ vs' S2 _ G' hput ?_ h2 n2 ?_ (by simp at hn;omega) ?_ ?_
   ·intro r hr;simp only[W.app];rw[VF (by intro e;cases e),VF Uc];exact hm r Uc
   ·intro b hb;have:=htok b (Zg.2 (.inr hb));refine⟨this.1,?_⟩;rw[k5 b (by simp) (fun j _ hbj=>n3 b (by rw[<-s1];exact eS hbj) b hb rfl)];exact this.2
   ·intro k u e;rw[show p+1+k=p+(k+1)from by omega];exact hv (k+1) u (by simpa using e)
   ·intro k u e;have hsl:=qg hlen;rw[show i+(slL (aR d)).length+k=i+((FB (aR d) lv).length+k)from by rw[hsl];omega];refine ha _ u ?_;rw[q4,ZX Uc]
    simpa using e
end
end Go.V
namespace Go.V
def aeT {Φ:Type}(_:Φ):MT:=fun _=>none
def noC {Φ:Type}(_:Φ):CT:=fun _ _=>none
section
variable {P: Program} {T: y9} {cx: Cx} {G: Gh} {g: Gm} {a: Act} {w: World}
def DC (n:Nat)(w:World)(ds:List DV)(vs:List Value)(S:List Nat)(hr:bU w ds vs S)(hnd:S.Nodup)(hunf:∀ b∈S,eV w b)(hn:ds.length<=n):
 fC ⟨n,w,fun b=>b∉S,fun i=>(dj ds vs).getD i undef,fun _=>none,fun _=>0,fun _=>True⟩ (get (Dz ah ds)) {tmps:=vs.toArray++YX (n-vs.toArray.size) undef,defers:=[]} w:=by
 have hlen:∀ (ds:List DV) (vs:List Value) (S:List Nat),bU w ds vs S->vs.length=ds.length:=by
  intro ds
  induction ds with
  |nil=>intro vs S h;simp only[bU]at h;simp[h.1]
  |cons d ds ih=>intro vs S h;simp only[bU]at h;obtain⟨v,vs',S1,S2,rfl,_,h2,_⟩:=h;simp[ih _ _ h2]
 have hl:=hlen ds vs S hr
 open Classical in
 let G:Gh:={loc:=fun _=>none,val:=fun _ _=>undef,fp:=fun _ _=>[],ow:=fun b=>if b∈S then some (.leaf n 0)else if b<w.heap.size then some .ro else none,lead:=id}
 unfold Dz;rw[Bb];refine Bg ds 0 0 vs S (get []) G ?_ (fun _ _=>rfl) hr hnd (fun b hb=>⟨hunf b hb,by simp[G,hb]⟩) (by simp;omega) ?_ ?_
 ·refine⟨rfl,by simp;omega,?_,?_,?_,?_,?_,?_,Same.refl _ _,?_,?_,?_,(fun r b o e=>by cases e),(fun r1 r2 k1 k2 b o1 o2 _ e=>by simp[get]at e),(fun r b o e=>by cases e),fun _ _=>trivial⟩
  ·intro d x hx;cases hx
  ·intro r k hk;cases hk
  ·intro r j x hx;cases hx
  ·intro r x hx;cases hx
  ·intro r b hb;cases hb
  ·intro b t hb;by_cases c:b∈S;exact(hunf b c).lt
   ·by_cases c2:b<w.heap.size;exact c2
    ·simp[G,c,c2]at hb
  ·intro b hb hf;have hf:b∉S:=hf;have hb:b<w.heap.size:=hb
   right;simp[G,hf,hb]
  ·intro r j h e;simp[gl,get]at e
  ·intro r x e;cases e
 ·intro k v e;have hk:k<vs.length:=(ZF.1 e).1;simp only[Zx,Yt];rw[Wn (by simpa using hk)];simp[e]
 ·intro k v e;simp only[Zx,Zn,e];rfl
def xu (hS:aO cx G g a w){α:Type}{k:Rd α}{os:Nat->L}:∀ (locs:List (Nat×Nat)) (i:Nat) (ls:List Loc) (out:α),(Kl pv os locs i k).Runs g ls out->
 (∀ p∈locs,∃ h sz es,g (.leaf p.1 p.2)=some (.h h)/\h.c=.own (.s sz es))/\ak w ((YU i locs.length).map os) ((YU i locs.length).map cx.anc) (oZ G locs)
 |[],i,ls,out,h=>⟨(fun p hp=>by cases hp),by simp[ak,oZ]⟩
 | (r,j)::ps,i,ls,out,h=>by
  obtain⟨hv,ls2,q1,q2,hk⟩:=bB (k:=fun h=>match h.org with
   | some i'=>if ZK i' i then match h.c with
     | .own (.s sz es)=>.req (pv fun _=>L.s sz es=os i) (Kl pv os ps (i+1) k)
     |_=>.fail
     else .fail
   |none=>.fail) h
  cases ho:hv.org with
  |none=>simp[ho,Rd.Runs]at hk
  | some i'=>
    simp only[ho]at hk;split at hk
    case isFalse=>exact hk.elim
    rename_i hb;have hi:=Z5 hb;subst hi;split at hk
    ·rename_i sz es hc;obtain⟨hp,hk⟩:=hk;have hp:L.s sz es=os i':=hp;obtain⟨k1,k2⟩:=xu hS ps (i'+1) _ _ hk;have hval:=hS.anc r j hv q1 i' ho;have hok:=hS.hok q1;simp only[ew,hc]at hok;refine⟨fun p hp=>?_,?_⟩
     ·rcases Zk.1 hp with rfl|hp;exact⟨hv,sz,es,q2,hc⟩;exact k1 p hp
     ·simp only[ak,Zp,List.range'_succ,ZT];exact⟨_,_,G.fp r j,oZ G ps,rfl,by rw[<-hval, <-hp];exact hok.1,k2,rfl⟩
    ·exact hk.elim
def qT:∀ {ds:List DV} {vs:List Value} {S:List Nat},bU w ds vs S->(dj ds vs).length=(ds.flatMap fun d=>slL (aR d)).length
 |[],vs,S,h=>by simp only[bU]at h;simp[h.1,dj]
 | d::ds,vs,S,h=>by
   simp only[bU]at h;obtain⟨v,vs',S1,S2,rfl,h1,h2,rfl⟩:=h;have ih:=qT h2;cases d with
   | one l=>
     have:(FB [l] [v]).length=(slL [l]).length:=qg rfl;simp only[dj,Zh,YF,aR,this,ih]
   | agg ls=>
     obtain⟨us,rfl,h1⟩:=h1;have:=qg h1.length;simp only[dj,Zh,YF,aR,ih];omega
   |_=>exact h1.elim
def pj {fn:Func}{tmps:Array Value}{w':World}{vs':List Value}{ds':List DV}{S:List Nat}(k1:(fn.results.toList.mapM (tx tmps)).run P w'=.ok vs' w')(k2:bU w' ds' vs' S):
 ∃ v,(results fn tmps).run P w'=.ok v w'/\lK w' ds' v S:=by
 have hrun:(results fn tmps).run P w'=.ok (if h:vs'.toArray.size=1 then vs'.toArray[0]else .tuple vs'.toArray) w':=by
  rw[IY,Array.mapM_eq_mapM_toList (m:=Sem)];simp only[Sem.run_bind,Sem.run_map,k1,Result.andThen_ok,Sem.run_pure]
 refine⟨_,hrun,?_⟩;have hl:∀ {ds:List DV} {vs:List Value} {S:List Nat},bU w' ds vs S->vs.length=ds.length:=by
  intro ds
  induction ds with
  |nil=>intro vs S h;simp only[bU]at h;simp[h.1]
  |cons d ds ih=>intro vs S h;simp only[bU]at h;obtain⟨v,vs',S1,S2,rfl,_,h2,_⟩:=h;simp[ih h2]
 have hlen:=hl k2;cases ds' with
 | nil=>
   have:vs'=[]:=YS hlen;subst this;exact⟨[],by simp,k2⟩
 | cons d1 rest=>
   cases rest with
   | nil=>
     simp only[bU]at k2;obtain⟨v,vs'',S1,S2,rfl,q1,⟨rfl,rfl⟩,rfl⟩:=k2
     simpa[lK]using q1
   | cons d2 rest=>
     have:¬ vs'.toArray.size=1:=by simp at hlen;simp;omega
     rw[dif_neg this];exact⟨vs',rfl,k2⟩
def Qv {Φ:Type}{F:Φ}:Gc P (aeT F):=by intro f mk h;cases h
def abP {Φ:Type}{F:Φ}:Ch P (noC F):=by intro f ds pre res h;cases h
end
end Go.V
namespace Go.V
abbrev PT :=FuncId->Option PK
abbrev NT :=FuncId->Option NK
abbrev OT :=FuncId->Option OK'
def aeV {Φ:Type}(_:Φ):OT:=fun _=>none
def Qx {P:Program}{Φ:Type}{F:Φ}:Ge P (aeV F):=by intro f mk h;cases h
def aeU {Φ:Type}(_:Φ):NT:=fun _=>none
def Qw {P:Program}{Φ:Type}{F:Φ}:Gd P (aeU F):=by intro f mk h;cases h
def aeW {Φ:Type}(_:Φ):PT:=fun _=>none
def Qy {P:Program}{Φ:Type}{F:Φ}:Gf P (aeW F):=by intro f mk h;cases h
def ae2 (al:Bool)(r j:Nat):Option Nat:=match al with
 |true=>some (1000000000+(r*1000+j))
 |false=>none
def JN (al:Bool)(r:Nat):Nat->List H->List Hv
 |_,[]=>[]
 |j,.own l::hs=>⟨0,0,ae2 al r j,.own l⟩::JN al r (j+1) hs
 |j,h::hs=>⟨0,0,some (r*1000+j),h⟩::JN al r (j+1) hs
def fZ (al:Bool):Nat->List DV->VS
 |_,[]=>[]
 |p,.mp hs::ds=>.reg p (.one (.pt p 0)):: .root p true (JN al p 0 hs)::fZ al (p+1) ds
 |p,d::ds=>.reg p (tJ d)::fZ al (p+1) ds
def mpL:Nat->List DV->List (Nat×List H)
 |_,[]=>[]
 |p,.mp hs::ds=>(p,hs)::mpL (p+1) ds
 |p,_::ds=>mpL (p+1) ds
def iz:Nat->List DV->List gF->Nat->Option gF
 |p,.mp _::ds,q::ps,r=>if r=p then some q else iz (p+1) ds ps r
 |_,.mp _::_,[],_=>none
 |p,_::ds,ps,r=>iz (p+1) ds ps r
 |_,[],_,_=>none
def Ih {al:Bool}{r:Nat}:∀ {hs:List H} {j i:Nat} {h:Hv},(JN al r j hs)[i]?=some h->∃ c,hs[i]?=some c/\h.ver=0/\h.iv=0/\h.c=c/\(∀ l,c=.own l->h.org=ae2 al r (j+i))/\((∀ l,c≠ .own l)->h.org=some (r*1000+(j+i)))
 |[],j,i,h,e=>by simp[JN]at e
 | c::hs,j,i,h,e=>by
   cases i with
   | zero=>
     cases c with
     |own l=>simp[JN]at e;subst e;exact⟨_,rfl,rfl,rfl,rfl,fun _ _=>rfl,fun k=>absurd rfl (k l)⟩
     |ro l=>simp[JN]at e;subst e;exact⟨_,rfl,rfl,rfl,rfl,(fun _ k=>by cases k),fun _=>rfl⟩
     |gone=>simp[JN]at e;subst e;exact⟨_,rfl,rfl,rfl,rfl,(fun _ k=>by cases k),fun _=>rfl⟩
   | succ i=>
     have:(JN al r (j+1) hs)[i]?=some h:=by cases c<;>simpa[JN]using e
     obtain⟨c',q1,q2,q3,q4,q5,q6⟩:=Ih this;exact⟨c',by simpa using q1,q2,q3,q4,fun l k=>by rw[q5 l k];congr 1;omega,fun k=>by rw[q6 k];congr 2;omega⟩
def Bf {al:Bool}{r:Nat}:∀ {hs:List H} {j:Nat},(JN al r j hs).length=hs.length
 |[],_=>rfl
 |c::hs,j=>by cases c<;>simp[JN,Bf (hs:=hs)]
section
variable {P: Program} {T: y9} {w: World} {ok: Nat -> Prop}
def gO.length:∀ {ds:List DV} {vs:List Value} {ps:List gF},gO w ok ds vs ps->vs.length=ds.length
 |[],vs,ps,h=>by simp only[gO]at h;simp[h.1]
 | d::ds,vs,ps,h=>by
   cases d with
   |mp hs=>obtain⟨p,ps',vs',rfl,rfl,_,h⟩:=h;simp[h.length]
   |one l=>obtain⟨v,vs',S,rfl,_,_,h⟩:=h;simp[gO.length h]
   |agg l=>obtain⟨v,vs',S,rfl,_,_,h⟩:=h;simp[gO.length h]
   |ptr l=>obtain⟨v,vs',S,rfl,_,_,h⟩:=h;simp[gO.length h]
   |fn f l=>obtain⟨v,vs',S,rfl,_,_,h⟩:=h;simp[gO.length h]
def NW:∀ {ds:List DV} {ps:List gF} {p r:Nat} {q:gF},iz p ds ps r=some q->p<=r/\r<p+ds.length
 |[],ps,p,r,q,h=>by simp[iz]at h
 | d::ds,ps,p,r,q,h=>by
   have step:∀ ps,iz (p+1) ds ps r=some q->p<=r/\r<p+(d::ds).length:=fun ps h=>by
    have:=NW h;simp;omega
   cases d with
   | mp hs=>
     cases ps with
     |nil=>simp[iz]at h
     | cons q' ps=>
       simp only[iz]at h;split at h
       ·simp;omega
       ·exact step _ h
   |_=>exact step ps h
def tq:∀ {ds:List DV} {vs:List Value} {ps:List gF} {p r:Nat} {q:gF},gO w ok ds vs ps->(iz p ds ps r=some q↔∃ k:Nat,(mpL p ds)[k]?=some (r,q.hs)/\ps[k]?=some q)
 |[],vs,ps,p,r,q,ha=>by simp[iz,mpL]
 | d::ds,vs,ps,p,r,q,ha=>by
   have mge:∀ {ds:List DV} {p k:Nat} {x:Nat×List H},(mpL p ds)[k]?=some x->p<=x.1:=by
    intro ds
    induction ds with
    |nil=>intro p k x h;simp[mpL]at h
    | cons d ds ih=>
      intro p k x h;cases d with
      | mp hs=>
        simp only[mpL]at h;cases k with
        |zero=>simp at h;subst h;exact Zf _
        |succ k=>simp at h;have:=ih h;omega
      |_=>have:=ih (p:=p+1) h;omega
   cases d with
   | mp hs=>
     obtain⟨p0,ps',vs',rfl,rfl,e,ha⟩:=ha;have ih:=tq (p:=p+1) (r:=r) (q:=q) ha;simp only[iz,mpL]
     constructor
     ·intro h;split at h
      ·rename_i c;cases h;exact⟨0,by simp[c,e],by simp⟩
      ·obtain⟨k,h1,h2⟩:=ih.1 h;exact⟨k+1,by simpa using h1,by simpa using h2⟩
     ·rintro⟨k,h1,h2⟩;cases k with
      |zero=>simp at h1 h2;rw[VE h1.1.symm];rw[h2]
      | succ k=>
        simp at h1 h2;have:=mge h1;rw[VF (by simp only at this;omega)];exact ih.2 ⟨k,h1,h2⟩
   |one l=>obtain⟨v,vs',S,rfl,_,_,ha⟩:=ha;exact tq (p:=p+1) ha
   |agg l=>obtain⟨v,vs',S,rfl,_,_,ha⟩:=ha;exact tq (p:=p+1) ha
   |ptr l=>obtain⟨v,vs',S,rfl,_,_,ha⟩:=ha;exact tq (p:=p+1) ha
   |fn f l=>obtain⟨v,vs',S,rfl,_,_,ha⟩:=ha;exact tq (p:=p+1) ha
def tg {al:Bool}:∀ {ds:List DV} {vs:List Value} {ps:List gF} (p:Nat),gO w ok ds vs ps->
 (∀ r,get (fZ al p ds) (.meta_ r)=(iz p ds ps r).map fun q=>.m q.hs.length true)/\
 (∀ r j,get (fZ al p ds) (.leaf r j)=(iz p ds ps r).bind fun q=>((JN al r 0 q.hs)[j]?).map .h)/\
 (∀ d x,get (fZ al p ds) (.reg d)=some x->∃ i,d=p+i/\i<vs.length/\((∃ q,iz p ds ps d=some q/\x=.r (.one (.pt d 0))/\vs[i]?=some (.pointer (some ⟨q.b,q.off,none⟩)))\/(∃ dv v S,x=.r (tJ dv)/\vs[i]?=some v/\qP w dv v S/\∀ b∈S,ok b)))
 | [],vs,ps,p,ha=>by
   refine⟨fun r=>rfl,fun r j=>rfl,fun d x h=>by cases h⟩
 | d::ds,vs,ps,p,ha=>by
   have other:∀ (v:Value) (vs':List Value) (S:List Nat),vs=v::vs'->qP w d v S->(∀ b∈S,ok b)->gO w ok ds vs' ps->(∀ r,iz p (d::ds) ps r=iz (p+1) ds ps r)->fZ al p (d::ds)=.reg p (tJ d)::fZ al (p+1) ds->
    (∀ r,get (fZ al p (d::ds)) (.meta_ r)=(iz p (d::ds) ps r).map fun q=>.m q.hs.length true)/\
    (∀ r j,get (fZ al p (d::ds)) (.leaf r j)=(iz p (d::ds) ps r).bind fun q=>((JN al r 0 q.hs)[j]?).map .h)/\
    (∀ d' x,get (fZ al p (d::ds)) (.reg d')=some x->∃ i,d'=p+i/\i<vs.length/\((∃ q,iz p (d::ds) ps d'=some q/\x=.r (.one (.pt d' 0))/\vs[i]?=some (.pointer (some ⟨q.b,q.off,none⟩)))\/(∃ dv v S,x=.r (tJ dv)/\vs[i]?=some v/\qP w dv v S/\∀ b∈S,ok b))):=by
    intro v vs' S e h1 h2 h3 h4 h5;subst e;obtain⟨i1,i2,i3⟩:=tg (al:=al) (p+1) h3;rw[h5];refine⟨fun r=>by rw[h4, <-i1];simp[get,W.app],fun r j=>by rw[h4, <-i2];simp[get,W.app],fun d' x hx=>?_⟩;simp only[get,W.app]at hx;split at hx
    ·rename_i c;cases c;cases hx;exact⟨0,rfl,by simp,.inr ⟨d,v,S,rfl,rfl,h1,h2⟩⟩
    ·obtain⟨i,e1,e2,e3⟩:=i3 d' x hx;refine⟨i+1,Uc,by simpa using e2,?_⟩;rw[h4];rcases e3 with⟨q,k1,k2,k3⟩|⟨dv,v',S',k1,k2,k3,k4⟩;exact .inl ⟨q,k1,k2,by simpa using k3⟩;exact .inr ⟨dv,v',S',k1,by simpa using k2,k3,k4⟩
   cases d with
   | mp hs=>
     obtain⟨q,ps',vs',rfl,rfl,e,ha⟩:=ha;obtain⟨i1,i2,i3⟩:=tg (al:=al) (p+1) ha;subst e;have hp:iz (p+1) ds ps' p=none:=by
      cases h:iz (p+1) ds ps' p with
      |none=>rfl
      |some q=>have:=NW h;omega
     refine⟨fun r=>?_,fun r j=>?_,fun d' x hx=>?_⟩
     ·simp only[fZ,get,W.app,iz];by_cases c:r=p
      ·subst c;simp[Bf]
      ·simp[c,i1]
     ·simp only[fZ,get,W.app,iz];by_cases c:r=p
      ·subst c;simp
      ·simp[c,i2]
     ·simp only[fZ,get,W.app]at hx;split at hx
      ·rename_i c;cases c;cases hx;exact⟨0,rfl,by simp,.inl ⟨q,by simp[iz],rfl,rfl⟩⟩
      ·rename_i c;obtain⟨i,e1,e2,e3⟩:=i3 d' x hx;refine⟨i+1,Uc,by simpa using e2,?_⟩;have hne:d'≠p:=by omega
       rcases e3 with⟨q',k1,k2,k3⟩|⟨dv,v',S',k1,k2,k3,k4⟩;exact .inl ⟨q',by simp only[iz];rw[VF hne];exact k1,k2,by simpa using k3⟩;exact .inr ⟨dv,v',S',k1,by simpa using k2,k3,k4⟩
   |one l=>obtain⟨v,vs',S,e,h1,h2,h3⟩:=ha;exact other v vs' S e h1 h2 h3 (fun _=>rfl) rfl
   |agg l=>obtain⟨v,vs',S,e,h1,h2,h3⟩:=ha;exact other v vs' S e h1 h2 h3 (fun _=>rfl) rfl
   |ptr l=>obtain⟨v,vs',S,e,h1,h2,h3⟩:=ha;exact other v vs' S e h1 h2 h3 (fun _=>rfl) rfl
   |fn f l=>obtain⟨v,vs',S,e,h1,h2,h3⟩:=ha;exact other v vs' S e h1 h2 h3 (fun _=>rfl) rfl
open Classical in
def K1 {al:Bool}(n:Nat)(w:World)(ds:List DV)(vs:List Value)(ps:List gF)(h:aae w ds vs ps)(hn:ds.length<=n)(anc:Nat->Value)(hanc:∀ r q j l,iz 0 ds ps r=some q->q.hs[j]?=some (.ro l)->anc (r*1000+j)=q.val j)(hanc2:∀ r q j l,al=true->iz 0 ds ps r=some q->q.hs[j]?=some (.own l)->anc (1000000000+(r*1000+j))=q.val j):
 ∃ G,aO ⟨n,w,fun b=>¬ nK ps b/\¬ sG ps b,anc,fun r=>(iz 0 ds ps r).map fun q=>(q.b,q.off),fun r=>((iz 0 ds ps r).map fun q=>q.hs.length).getD 0,fun _=>True⟩ G (get (fZ al 0 ds)) {tmps:=vs.toArray++YX (n-vs.toArray.size) undef,defers:=[]} w:=by
 have hl:=h.args.length;obtain⟨i1,i2,i3⟩:=tg (al:=al) 0 h.args;have ix:=fun {r q}=>tq (p:=0) (r:=r) (q:=q) h.args
 have mem:∀ {r q},iz 0 ds ps r=some q->q∈ps:=fun e=>by
  obtain⟨k,_,e2⟩:=ix.1 e;exact List.mem_of_getElem? e2
 have isO:∀ b,nK ps b->∃ x:Nat×Nat,∃ q l,iz 0 ds ps x.1=some q/\q.hs[x.2]?=some (.own l)/\b∈q.fp x.2:=by
  rintro b ⟨q,hq,j,l,h1,h2⟩;obtain⟨k,hk⟩:=List.getElem?_of_mem hq;have hlen:∀ {ds:List DV} {vs:List Value} {ps:List gF} {p:Nat},gO w (fun b=>¬ nK ps b/\¬ sG ps b) ds vs ps->True:=fun _=>trivial
  have key:∀ (ok:Nat->Prop) (ds:List DV) (vs:List Value) (ps:List gF) (p k:Nat) (q:gF),gO w ok ds vs ps->ps[k]?=some q->∃ r,(mpL p ds)[k]?=some (r,q.hs):=by
   intro ok ds
   induction ds with
   |nil=>intro vs ps p k q h e;simp only[gO]at h;rw[h.2]at e;simp at e
   | cons d ds ih=>
     intro vs ps p k q h e;cases d with
     | mp hs=>
       obtain⟨p0,ps',vs',rfl,rfl,e0,h⟩:=h;cases k with
       |zero=>simp at e;subst e;exact⟨p,by simp[mpL,e0]⟩
       |succ k=>simp at e;obtain⟨r,hr⟩:=ih vs' ps' (p+1) k q h e;exact⟨r,by simpa[mpL]using hr⟩
     |one l=>obtain⟨v,vs',S,rfl,_,_,h⟩:=h;exact ih vs' ps (p+1) k q h e
     |agg l=>obtain⟨v,vs',S,rfl,_,_,h⟩:=h;exact ih vs' ps (p+1) k q h e
     |ptr l=>obtain⟨v,vs',S,rfl,_,_,h⟩:=h;exact ih vs' ps (p+1) k q h e
     |fn f l=>obtain⟨v,vs',S,rfl,_,_,h⟩:=h;exact ih vs' ps (p+1) k q h e
  obtain⟨r,hr⟩:=key _ ds vs ps 0 k q h.args hk;exact⟨(r,j),q,l,ix.2 ⟨k,hr,hk⟩,h1,h2⟩
 let G:Gh:={
  loc:=fun r=>(iz 0 ds ps r).map fun q=>(q.b,q.off)
  val:=fun r j=>((iz 0 ds ps r).map fun q=>q.val j).getD undef
  fp:=fun r j=>((iz 0 ds ps r).map fun q=>q.fp j).getD []
  ow:=fun b=>if ho:nK ps b then some (.leaf (isO b ho).choose.1 (isO b ho).choose.2)else if sG ps b then some (.box b)else if b<w.heap.size then some .ro else none
  lead:=fun r=>((iz 0 ds ps r).map fun q=>q.b).getD 0}
 have ixne:∀ {r r' q q'},iz 0 ds ps r=some q->iz 0 ds ps r'=some q'->r≠r'->∃ k k':Nat,k≠k'/\ps[k]?=some q/\ps[k']?=some q':=by
  intro r r' q q' e1 e2 hne;obtain⟨k,a1,a2⟩:=ix.1 e1;obtain⟨k',b1,b2⟩:=ix.1 e2;refine⟨k,k',fun e=>?_,a2,b2⟩;subst e;have h:=a1.symm.trans b1;simp at h;exact hne h.1
 have owO:∀ r j q l,iz 0 ds ps r=some q->q.hs[j]?=some (.own l)->∀ b∈q.fp j,G.ow b=some (.leaf r j):=by
  intro r j q l e1 e2 b hb;have ho:nK ps b:=⟨q,mem e1,j,l,e2,hb⟩;simp only[G,dif_pos ho];obtain⟨q',l',f1,f2,f3⟩:=(isO b ho).choose_spec;generalize(isO b ho).choose=x at*;by_cases c:x.1=r
  ·rw[c,e1]at f1;cases f1;by_cases cj:x.2=j
   ·rw[c,cj]
   ·obtain⟨k,_,hk⟩:=ix.1 e1;exact absurd hb (h.disj k _ k j q q l' l hk hk f2 e2 (fun e=>cj (by cases e;rfl)) b f3)
  ·obtain⟨k,k',hne,hk,hk'⟩:=ixne f1 e1 c;exact absurd hb (h.disj k _ k' j q' q l' l hk hk' f2 e2 (fun e=>hne (by cases e;rfl)) b f3)
 have owP:∀ b,sG ps b->G.ow b=some (.box b):=by
  intro b hb;simp only[G,dif_neg (h.box b hb),VE hb]
 have owR:∀ b,b<w.heap.size->¬ nK ps b/\¬ sG ps b->G.ow b=some .ro:=by
  intro b hb ⟨h1,h2⟩;simp only[G,dif_neg h1,VF h2,VE hb]
 have cellq:∀ {r q},iz 0 ds ps r=some q->∃ cur ty,w.heap[q.b]?=some (.cells cur ty (0,0))/\q.off+q.hs.length<=cur.size/\∀ j,j<q.hs.length->cur[q.off+j]?=some (q.val j):=fun e=>h.cell _ (mem e)
 refine⟨G,rfl,by simp;omega,?_,?_,?_,?_,?_,?_,Same.refl _ _,?_,?_,?_,?_,?_,?_,fun _ _=>trivial⟩
 ·intro d x hx;obtain⟨i,rfl,e2,e3⟩:=i3 d x hx;have hv:∀ v,vs[i]?=some v->(vs.toArray++YX (n-vs.toArray.size) undef).getD (0+i) undef=v:=by
   intro v hv;simp only[Yt,Zx];rw[Wn (by simpa using e2)];simp[hv]
  refine⟨by show 0+i<n;omega,?_⟩;rcases e3 with⟨q,k1,k2,k3⟩|⟨dv,v,S,k1,k2,k3,k4⟩
  ·refine⟨_,k2,?_⟩;simp only[cW,iC];exact⟨q.b,q.off,by simp only[G,k1,Yf],hv _ k3⟩
  ·refine⟨_,k1,?_⟩;simp only;rw[hv _ k2];have tok:∀ b∈S,b<w.heap.size->G.ow b=some .ro:=fun b hb hlt=>owR b hlt (k4 b hb)
   cases dv with
   | one l=>
     simp only[tJ,cW];have:=wz (γ:=gl (get (fZ al 0 ds))) (G:=G) [l] [v] S (by simp only[ak];exact⟨v,[],S,[],rfl,k3,⟨rfl,rfl⟩,by simp⟩) (fun b hb=>tok b hb (bN.lt _ _ _ k3 b hb));simp only[ZT,List.map_nil,bX]at this;obtain⟨v',vs'',e,h3,_⟩:=this;cases e;exact h3
   | agg lls=>
     obtain⟨us,e,h1⟩:=k3;simp only[tJ,cW];exact⟨us,e,wz _ _ S h1 (fun b hb=>tok b hb (ak.lt _ _ _ h1 b hb))⟩
   | ptr rec=>
     obtain⟨b,off,cur,ty,fz,S',e1,e2,e3,e4,rfl⟩:=k3;simp only[tJ,cW];exact⟨b,off,cur,ty,fz,S',e1,e2,tok b (by simp) (ZE.1 e2).1,e3,e4,fun c hc=>tok c (by simp[hc]) (ak.lt _ _ _ e4 c hc)⟩
   | fn f caps=>
     obtain⟨us,e,h1⟩:=k3;simp only[tJ,cW];refine⟨us,e,?_⟩;have key:∀ (caps:ab) (us:List Value) (S':List Nat),lJ w caps us S'->(∀ b∈S',b∈S)->fe G w (caps.map fun rec=>.rp rec 0) us:=by
      intro caps
      induction caps with
      |nil=>intro us S' h _;simp only[lJ]at h;simp[fe,h.1]
      | cons r rs ih=>
        intro us S' h hsub;simp only[lJ]at h;obtain⟨v,vs',S1,S2,rfl,q1,q2,rfl⟩:=h;obtain⟨b,off,cur,ty,fz,S3,e1,e2,e3,e4,rfl⟩:=q1;exact⟨v,vs',rfl,⟨b,off,cur,ty,fz,S3,e1,e2,tok b (hsub b (by simp)) (ZE.1 e2).1,e3,e4,fun c hc=>tok c (hsub c (by simp[hc])) (ak.lt _ _ _ e4 c hc)⟩,ih _ _ q2 (fun b hb=>hsub b (by simp[hb]))⟩
     exact key caps us S h1 (fun b hb=>hb)
   |mp hs=>exact k3.elim
 ·intro r k hk;rw[i1]at hk;cases e:iz 0 ds ps r with
  |none=>simp[e]at hk
  | some q=>
    simp[e]at hk;subst hk;obtain⟨cur,ty,f1,f2,f3⟩:=cellq e;refine⟨q.b,q.off,cur,ty,by simp[G,e],?_,f1,f2,fun j hj=>by simp[G,e,f3 j hj]⟩;rw[owP q.b ⟨q,mem e,rfl⟩];simp[G,e]
 ·intro r j x hx;rw[i2]at hx;cases e:iz 0 ds ps r with
  |none=>simp[e]at hx
  | some q=>
    simp only[e,YC,ZB]at hx;obtain⟨hv,e1,rfl⟩:=hx;obtain⟨c,k1,k2,k3,k4,k5,k6⟩:=Ih e1;refine⟨hv,q.hs.length,true,rfl,by rw[i1,e];rfl,(ZF.1 k1).1,?_⟩;unfold ew;rw[k4];cases c with
    | own l=>
      obtain⟨m1,m2,m3⟩:=h.own q (mem e) j l k1;simp only[G,e,Yf,Z0];exact⟨m1,m2,fun b hb=>⟨owO r j q l e k1 b hb,m3 b hb⟩⟩
    | ro l=>
      obtain⟨m1,m2⟩:=h.ro q (mem e) j l k1;simp only[G,e,Yf,Z0];exact⟨q.fp j,m1,fun b hb=>owR b (bN.lt _ _ _ m1 b hb) (m2 b hb)⟩
    |gone=>exact absurd k1 (h.gone q (mem e) j)
 ·intro r x hx;rw[i1]at hx;cases e:iz 0 ds ps r with
  |none=>simp[e]at hx
  |some q=>simp[e]at hx;exact⟨_,_,hx.symm⟩
 ·intro r b hb;cases e:iz 0 ds ps r with
  |none=>simp[G,e]at hb
  |some q=>exact⟨q.hs.length,by rw[i1,e];rfl⟩
 ·intro b t hb;simp only[G]at hb;split at hb
  ·rename_i ho;obtain⟨q,hq,j,l,e1,e2⟩:=ho;exact bN.lt _ _ _ (h.own q hq j l e1).1 b e2
  ·split at hb
   ·rename_i hp;obtain⟨q,hq,rfl⟩:=hp;obtain⟨cur,ty,f1,_⟩:=h.cell q hq;exact(ZE.1 f1).1
   ·split at hb
    ·rename_i c;exact c
    ·cases hb
 ·intro b hb hf;exact .inr (owR b hb hf)
 ·intro r j hv e i hi;rw[av,i2]at e;cases e0:iz 0 ds ps r with
  |none=>simp[e0]at e
  | some q=>
    simp only[e0,YC,ZB]at e;obtain⟨hv',e1,e2⟩:=e;cases e2;obtain⟨c,k1,k2,k3,k4,k5,k6⟩:=Ih e1;cases c with
    | own l'=>
      rw[k5 l' rfl]at hi;cases al with
      |false=>cases hi
      | true=>
        cases hi;rw[Zx];show _=anc _;rw[hanc2 r q j l' rfl e0 k1];simp[G,e0]
    | ro l'=>
      rw[k6 (by simp)]at hi;cases hi;rw[Zx];show _=anc _;rw[hanc r q j l' e0 k1];simp[G,e0]
    |gone=>exact absurd k1 (h.gone q (mem e0) j)
 ·intro r x hx;cases e:iz 0 ds ps r with
  |none=>simp[e]at hx
  |some q=>exact⟨hx,by rw[i1,e];simp[e]⟩
 ·intro r b off hx;cases e:iz 0 ds ps r with
  |none=>simp[e]at hx
  | some q=>
    simp[e]at hx;obtain⟨rfl,rfl⟩:=hx;obtain⟨cur,ty,f1,f2,f3⟩:=cellq e;exact⟨cur,cur,ty,f1,f1,rfl,fun _ _=>rfl⟩
 ·intro r1 r2 k1 k2 b o1 o2 hne h1 h2 q1 q2;rw[i1]at h1 h2;cases e1:iz 0 ds ps r1 with
  |none=>simp[e1]at h1
  | some a1=>
    cases e2:iz 0 ds ps r2 with
    |none=>simp[e2]at h2
    | some a2=>
      simp[e1]at h1;simp[e2]at h2;simp[G,e1]at q1;simp[G,e2]at q2;obtain⟨rfl,rfl⟩:=q1;obtain⟨q2,rfl⟩:=q2;obtain⟨k,k',hk,m1,m2⟩:=ixne e1 e2 hne;have:=h.sep k k' a1 a2 hk m1 m2 q2.symm;omega
 ·intro r b off hx ha;cases e:iz 0 ds ps r with
  |none=>simp[G,e]at hx
  |some q=>simp[e]at ha
end
end Go.V